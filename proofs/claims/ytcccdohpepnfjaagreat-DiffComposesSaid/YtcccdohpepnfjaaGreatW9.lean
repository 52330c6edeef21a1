/- Part 9 of the walk and of the plain law of DiffComposes. -/
import Derived.Test.YtcccdohpepnfjaaGreatW8
set_option maxRecDepth 100000
set_option maxHeartbeats 0
set_option linter.unusedVariables false
set_option linter.unusedSimpArgs false
open Go Go.Abs
namespace Gp
def nilA : AVal := .imm (.v (.slice none 0 0))
def Z26 : Entry := .box 26 (.imm (.agg [.v (.slice none 0 0), .v (.slice none 0 0), .v (.slice none 0 0)]))
def noO (q : Payload) (x : Origin) : Bool := !decide (x ∈ q.origins)
def noT (q : Payload) (x : Attest) : Bool := !decide (x ∈ q.paths)
def noK (q : Payload) (x : RKey) : Bool := !decide (x ∈ q.keys)
def mO (p q : Payload) (i : Nat) : List Origin := (p.origins.take i).filter (noO q)
def mT (p q : Payload) (i : Nat) : List Attest := (p.paths.take i).filter (noT q)
def mK (p q : Payload) (i : Nat) : List RKey := (p.keys.take i).filter (noK q)
def s28 (p q : Payload) (a b c : AVal) (l : List (Nat × Entry)) : List (Nat × Entry) := (0, .box 26 (.imm (encL p))) :: (1, .box 26 (.imm (encL q))) :: (2, Z26) :: (3, .box 26 (.agg [a, b, c])) :: l
def I28a (p q : Payload) (i : Nat) : LState := { t := [(6, .imm (i64 i)), (5, .ptr 3 0), (4, .ptr 2 0), (3, .ptr 1 0), (2, .ptr 0 0)], s := s28 p q (.own 50 (mO p q i).length) nilA nilA [(50, .row 68 6 ((mO p q i).map encO))], m := 89, n := 80 }
def I28b (p q : Payload) (i : Nat) : LState := { t := [(7, .imm (i64 i)), (5, .ptr 3 0), (4, .ptr 2 0), (3, .ptr 1 0), (2, .ptr 0 0)], s := s28 p q (.own 50 (p.origins.filter (noO q)).length) (.own 90 (mT p q i).length) nilA [(50, .row 68 6 ((p.origins.filter (noO q)).map encO)), (90, .row 57 2 ((mT p q i).map encT))], m := 89, n := 130 }
def I28c (p q : Payload) (i : Nat) : LState := { t := [(8, .imm (i64 i)), (5, .ptr 3 0), (4, .ptr 2 0), (3, .ptr 1 0), (2, .ptr 0 0)], s := s28 p q (.own 50 (p.origins.filter (noO q)).length) (.own 90 (p.paths.filter (noT q)).length) (.own 140 (mK p q i).length) [(50, .row 68 6 ((p.origins.filter (noO q)).map encO)), (90, .row 57 2 ((p.paths.filter (noT q)).map encT)), (140, .row 75 18 ((mK p q i).map encK))], m := 89, n := 170 }
def E28a (p q : Payload) : LState := { t := [(5, .ptr 3 0), (4, .ptr 2 0), (3, .ptr 1 0), (2, .ptr 0 0)], s := s28 p q (.own 50 (p.origins.filter (noO q)).length) nilA nilA [(50, .row 68 6 ((p.origins.filter (noO q)).map encO))], m := 89, n := 80 }
def fin28a : Exit → Nat → Fin
  | .normal, 108 => ⟨[(50, 79), (102, 50)], [6, 5, 4, 3, 2], [0, 1, 2, 3, 50]⟩
  | .normal, _ => ⟨[], [6, 5, 4, 3, 2], [0, 1, 2, 3, 50]⟩
  | _, _ => ⟨[], [5, 4, 3, 2], [0, 1, 2, 3, 50]⟩
def T28ar (p q : Payload) (i : Nat) : Tell :=
  Tell.mk (fun x x_1 => false) (fun x x_1 => Orc.no) (fun x => Tree.fail 1000003 0) (fun x => 0) (fun x => ([], []))
  (oget
  [(85, 5, 5, Orc.elem (encO (List.getD p.origins i default))),
  (85, 5, 7, Orc.call [slE 6 encO q.origins, encO (List.getD p.origins i default)] (bo (decide (List.getD p.origins i default ∈ q.origins)))),
  (94, 6, 5, Orc.elem (encO (List.getD p.origins i default)))])
  fun x x_1 => Tree.fail 1000003 0
theorem t28ar (p q : Payload) (i : Nat) : levLN prog Proofs.Tryz.f28 3 (I28a p q i) (T28ar p q i) fin28a =
  Tree.br (decide ((↑i : Int) < (↑(List.length (List.map encO p.origins)) : Int)))
  (Tree.need ((0 : Int) ≤ (↑i : Int) ∧ (List.map encO p.origins)[i]? = some (encO (List.getD p.origins i default)))
  (Tree.need
  (ILeL [slE 6 encO q.origins, encO (List.getD p.origins i default)] [slE 6 encO q.origins, encO (List.getD p.origins i default)] ∧
  ASpec prog 62 [slE 6 encO q.origins, encO (List.getD p.origins i default)] (bo (decide (List.getD p.origins i default ∈ q.origins))))
  (Tree.br (!decide (List.getD p.origins i default ∈ q.origins))
  (Tree.need ((0 : Int) ≤ (↑i : Int) ∧ (List.map encO p.origins)[i]? = some (encO (List.getD p.origins i default)))
  (Tree.need (List.length (List.map encO (mO p q i)) = List.length (mO p q i) ∧ cellsOk (List.map encO (mO p q i)) = true ∧ true = true ∧ List.length (mO p q i) + 1 ≤ 1000000)
  (Tree.done Exit.normal
  (LState.mk
  [(6, AVal.imm (IVal.v (Value.int IntKind.i64 (IntKind.wrap IntKind.i64 ((↑i : Int) + (1 : Int)))))), (5, AVal.ptr 3 0), (4, AVal.ptr 2 0),
  (3, AVal.ptr 1 0), (2, AVal.ptr 0 0)]
  [(0, Entry.box 26 (AVal.imm (encL p))), (1, Entry.box 26 (AVal.imm (encL q))),
  (2, Entry.box 26 (AVal.imm (IVal.agg [IVal.v (Value.slice none 0 0), IVal.v (Value.slice none 0 0), IVal.v (Value.slice none 0 0)]))),
  (3, Entry.box 26 (AVal.agg [AVal.own 50 (List.length (mO p q i) + 1), AVal.imm (IVal.v (Value.slice none 0 0)), AVal.imm (IVal.v (Value.slice none 0 0))])),
  (50, Entry.row 68 6 (List.map encO (mO p q i) ++ [encO (List.getD p.origins i default)]))]
  89 108 []))))
  (Tree.done Exit.normal
  (LState.mk
  [(6, AVal.imm (IVal.v (Value.int IntKind.i64 (IntKind.wrap IntKind.i64 ((↑i : Int) + (1 : Int)))))), (5, AVal.ptr 3 0), (4, AVal.ptr 2 0),
  (3, AVal.ptr 1 0), (2, AVal.ptr 0 0)]
  [(0, Entry.box 26 (AVal.imm (encL p))), (1, Entry.box 26 (AVal.imm (encL q))), (2, Z26),
  (3, Entry.box 26 (AVal.agg [AVal.own 50 (List.length (mO p q i)), nilA, nilA])), (50, Entry.row 68 6 (List.map encO (mO p q i)))]
  89 97 [])))))
  (Tree.done (Exit.exit 0)
  (LState.mk [(5, AVal.ptr 3 0), (4, AVal.ptr 2 0), (3, AVal.ptr 1 0), (2, AVal.ptr 0 0)]
  [(0, Entry.box 26 (AVal.imm (encL p))), (1, Entry.box 26 (AVal.imm (encL q))), (2, Z26), (3, Entry.box 26 (AVal.agg [AVal.own 50 (List.length (mO p q i)), nilA, nilA])),
  (50, Entry.row 68 6 (List.map encO (mO p q i)))]
  89 85 [])) := by kernel_rfl
theorem mO_succ (p q : Payload) (i : Nat) (h : i < p.origins.length) : mO p q (i + 1) = mO p q i ++ (if noO q (p.origins.getD i default) = true then [p.origins.getD i default] else []) := by
  rw [mO, mO, List.take_add_one, List.filter_append]
  simp only [List.getD_eq_getElem?_getD, List.getElem?_eq_getElem h, Option.toList_some, Option.getD_some, List.filter_cons, List.filter_nil]
theorem mO_all (p q : Payload) : mO p q p.origins.length = (p.origins.filter (noO q)) := by rw [mO, List.take_length]
theorem mO_len (p q : Payload) (i : Nat) : (mO p q i).length ≤ i := Nat.le_trans (List.length_filter_le _ _) (by simp; omega)
theorem l28a (p q : Payload) (hp : p.origins.length ≤ 3000) (hq : q.origins.length ≤ 3000) (σ : LState) (h : LSub σ (I28a p q 0)) : LoopOk prog [] (bodyOf Proofs.Tryz.f28) 3 σ (.done (.exit 0) (E28a p q)) := by
  refine LoopOk.countN p.origins.length 0 (I28a p q) (E28a p q) (T28ar p q) fin28a (by kernel_rfl) h fun i hi => ?_
  have hlen := mO_len p q i
  have hall := mO_all p q
  have hs := mO_succ p q i
  rw [t28ar]
  refine ⟨fun h1 => need_sat (elem_need ?_) (need_sat ⟨ILeL.refl _, c62 _ _ ?_⟩ ⟨fun h2 => need_sat (elem_need ?_) (need_sat ?_ ?_), fun h2 => ?_⟩), fun h1 => ?_⟩
  · (refine ⟨by omega, ?_, ?_⟩ <;> (simp only [List.length_map, decide_eq_true_eq, decide_eq_false_iff_not, Int.toNat_natCast] at * <;> omega))
  · omega
  · (refine ⟨by omega, ?_, ?_⟩ <;> (simp only [List.length_map, decide_eq_true_eq, decide_eq_false_iff_not, Int.toNat_natCast] at * <;> omega))
  · exact ⟨by simp, cellsOk_map encO (fun _ => rfl) _, rfl, by omega⟩
  · have hlt : i < p.origins.length := by (simp only [List.length_map, decide_eq_true_eq, decide_eq_false_iff_not, Int.toNat_natCast] at * <;> omega)
    have hs := hs hlt
    rw [if_pos (show noO q (p.origins.getD i default) = true from h2)] at hs
    refine ⟨hlt, ⟨congrArg (fun n => AVal.imm (i64 n)) (i64_succ (by omega)), rfl, rfl, rfl, rfl, trivial⟩, ?_, rfl, rfl, rfl⟩
    refine ⟨rfl, rfl, rfl, congrArg (fun (l : List AVal) => some (Entry.box 26 (.agg l))) (congrArg (fun x : Nat => ([.own 50 x, nilA, nilA] : List AVal)) (show (mO p q i).length + 1 = (mO p q (i + 1)).length by rw [hs, List.length_append]; rfl)), congrArg (fun l => some (Entry.row 68 6 l)) (show (mO p q i).map encO ++ [encO (p.origins.getD i default)] = (mO p q (i + 1)).map encO by rw [hs, List.map_append]; rfl), trivial⟩
  · have hlt : i < p.origins.length := by (simp only [List.length_map, decide_eq_true_eq, decide_eq_false_iff_not, Int.toNat_natCast] at * <;> omega)
    have hs := hs hlt
    rw [if_neg (show ¬ noO q (p.origins.getD i default) = true by rw [noO, h2]; decide), List.append_nil] at hs
    refine ⟨hlt, ⟨congrArg (fun n => AVal.imm (i64 n)) (i64_succ (by omega)), rfl, rfl, rfl, rfl, trivial⟩, ?_, rfl, rfl, rfl⟩
    refine ⟨rfl, rfl, rfl, congrArg (fun (l : List AVal) => some (Entry.box 26 (.agg l))) (congrArg (fun x : Nat => ([.own 50 x, nilA, nilA] : List AVal)) (show (mO p q i).length = (mO p q (i + 1)).length by rw [hs])), congrArg (fun l => some (Entry.row 68 6 l)) (show (mO p q i).map encO = (mO p q (i + 1)).map encO by rw [hs]), trivial⟩
  · have : i = p.origins.length := by (simp only [List.length_map, decide_eq_true_eq, decide_eq_false_iff_not, Int.toNat_natCast] at * <;> omega)
    subst this
    refine ⟨rfl, by omega, ⟨rfl, rfl, rfl, rfl, trivial⟩, ?_, rfl, rfl, rfl⟩
    refine ⟨rfl, rfl, rfl, congrArg (fun (l : List AVal) => some (Entry.box 26 (.agg l))) (congrArg (fun x : Nat => ([.own 50 x, nilA, nilA] : List AVal)) (show (mO p q p.origins.length).length = (p.origins.filter (noO q)).length by rw [hall])), congrArg (fun l => some (Entry.row 68 6 l)) (show (mO p q p.origins.length).map encO = (p.origins.filter (noO q)).map encO by rw [hall]), trivial⟩
def E28b (p q : Payload) : LState := { t := [(5, .ptr 3 0), (4, .ptr 2 0), (3, .ptr 1 0), (2, .ptr 0 0)], s := s28 p q (.own 50 (p.origins.filter (noO q)).length) (.own 90 (p.paths.filter (noT q)).length) nilA [(50, .row 68 6 ((p.origins.filter (noO q)).map encO)), (90, .row 57 2 ((p.paths.filter (noT q)).map encT))], m := 89, n := 130 }
def fin28b : Exit → Nat → Fin
  | .normal, 158 => ⟨[(90, 129), (152, 90)], [7, 5, 4, 3, 2], [0, 1, 2, 3, 50, 90]⟩
  | .normal, _ => ⟨[], [7, 5, 4, 3, 2], [0, 1, 2, 3, 50, 90]⟩
  | _, _ => ⟨[], [5, 4, 3, 2], [0, 1, 2, 3, 50, 90]⟩
def T28br (p q : Payload) (i : Nat) : Tell :=
  Tell.mk (fun x x_1 => false) (fun x x_1 => Orc.no) (fun x => Tree.fail 1000003 0) (fun x => 0) (fun x => ([], []))
  (oget
  [(135, 10, 5, Orc.elem (encT (List.getD p.paths i default))),
  (135, 10, 7, Orc.call [slE 2 encT q.paths, encT (List.getD p.paths i default)] (bo (decide (List.getD p.paths i default ∈ q.paths)))),
  (144, 11, 5, Orc.elem (encT (List.getD p.paths i default)))])
  fun x x_1 => Tree.fail 1000003 0
theorem t28br (p q : Payload) (i : Nat) : levLN prog Proofs.Tryz.f28 8 (I28b p q i) (T28br p q i) fin28b =
  Tree.br (decide ((↑i : Int) < (↑(List.length (List.map encT p.paths)) : Int)))
  (Tree.need ((0 : Int) ≤ (↑i : Int) ∧ (List.map encT p.paths)[i]? = some (encT (List.getD p.paths i default)))
  (Tree.need
  (ILeL [slE 2 encT q.paths, encT (List.getD p.paths i default)] [slE 2 encT q.paths, encT (List.getD p.paths i default)] ∧
  ASpec prog 63 [slE 2 encT q.paths, encT (List.getD p.paths i default)] (bo (decide (List.getD p.paths i default ∈ q.paths))))
  (Tree.br (!decide (List.getD p.paths i default ∈ q.paths))
  (Tree.need ((0 : Int) ≤ (↑i : Int) ∧ (List.map encT p.paths)[i]? = some (encT (List.getD p.paths i default)))
  (Tree.need (List.length (List.map encT (mT p q i)) = List.length (mT p q i) ∧ cellsOk (List.map encT (mT p q i)) = true ∧ true = true ∧ List.length (mT p q i) + 1 ≤ 1000000)
  (Tree.done Exit.normal
  (LState.mk
  [(7, AVal.imm (IVal.v (Value.int IntKind.i64 (IntKind.wrap IntKind.i64 ((↑i : Int) + (1 : Int)))))), (5, AVal.ptr 3 0), (4, AVal.ptr 2 0),
  (3, AVal.ptr 1 0), (2, AVal.ptr 0 0)]
  [(0, Entry.box 26 (AVal.imm (encL p))), (1, Entry.box 26 (AVal.imm (encL q))),
  (2, Entry.box 26 (AVal.imm (IVal.agg [IVal.v (Value.slice none 0 0), IVal.v (Value.slice none 0 0), IVal.v (Value.slice none 0 0)]))),
  (3,
  Entry.box 26 (AVal.agg [AVal.own 50 (List.length (List.filter (noO q) p.origins)), AVal.own 90 (List.length (mT p q i) + 1), AVal.imm (IVal.v (Value.slice none 0 0))])),
  (50, Entry.row 68 6 (List.map encO (List.filter (noO q) p.origins))), (90, Entry.row 57 2 (List.map encT (mT p q i) ++ [encT (List.getD p.paths i default)]))]
  89 158 []))))
  (Tree.done Exit.normal
  (LState.mk
  [(7, AVal.imm (IVal.v (Value.int IntKind.i64 (IntKind.wrap IntKind.i64 ((↑i : Int) + (1 : Int)))))), (5, AVal.ptr 3 0), (4, AVal.ptr 2 0),
  (3, AVal.ptr 1 0), (2, AVal.ptr 0 0)]
  [(0, Entry.box 26 (AVal.imm (encL p))), (1, Entry.box 26 (AVal.imm (encL q))), (2, Z26),
  (3, Entry.box 26 (AVal.agg [AVal.own 50 (List.length (List.filter (noO q) p.origins)), AVal.own 90 (List.length (mT p q i)), nilA])),
  (50, Entry.row 68 6 (List.map encO (List.filter (noO q) p.origins))), (90, Entry.row 57 2 (List.map encT (mT p q i)))]
  89 147 [])))))
  (Tree.done (Exit.exit 2)
  (LState.mk [(5, AVal.ptr 3 0), (4, AVal.ptr 2 0), (3, AVal.ptr 1 0), (2, AVal.ptr 0 0)]
  [(0, Entry.box 26 (AVal.imm (encL p))), (1, Entry.box 26 (AVal.imm (encL q))), (2, Z26),
  (3, Entry.box 26 (AVal.agg [AVal.own 50 (List.length (List.filter (noO q) p.origins)), AVal.own 90 (List.length (mT p q i)), nilA])),
  (50, Entry.row 68 6 (List.map encO (List.filter (noO q) p.origins))), (90, Entry.row 57 2 (List.map encT (mT p q i)))]
  89 135 [])) := by kernel_rfl
theorem mT_succ (p q : Payload) (i : Nat) (h : i < p.paths.length) : mT p q (i + 1) = mT p q i ++ (if noT q (p.paths.getD i default) = true then [p.paths.getD i default] else []) := by
  rw [mT, mT, List.take_add_one, List.filter_append]
  simp only [List.getD_eq_getElem?_getD, List.getElem?_eq_getElem h, Option.toList_some, Option.getD_some, List.filter_cons, List.filter_nil]
theorem mT_all (p q : Payload) : mT p q p.paths.length = (p.paths.filter (noT q)) := by rw [mT, List.take_length]
theorem mT_len (p q : Payload) (i : Nat) : (mT p q i).length ≤ i := Nat.le_trans (List.length_filter_le _ _) (by simp; omega)
theorem l28b (p q : Payload) (hp : p.paths.length ≤ 3000) (hq : q.paths.length ≤ 3000) (hT : ∀ a ∈ q.paths, okT a) (σ : LState) (h : LSub σ (I28b p q 0)) : LoopOk prog [] (bodyOf Proofs.Tryz.f28) 8 σ (.done (.exit 2) (E28b p q)) := by
  refine LoopOk.countN p.paths.length 2 (I28b p q) (E28b p q) (T28br p q) fin28b (by kernel_rfl) h fun i hi => ?_
  have hlen := mT_len p q i
  have hall := mT_all p q
  have hs := mT_succ p q i
  rw [t28br]
  refine ⟨fun h1 => need_sat (elem_need ?_) (need_sat ⟨ILeL.refl _, c63 _ _ ?_ ?_⟩ ⟨fun h2 => need_sat (elem_need ?_) (need_sat ?_ ?_), fun h2 => ?_⟩), fun h1 => ?_⟩
  · (refine ⟨by omega, ?_, ?_⟩ <;> (simp only [List.length_map, decide_eq_true_eq, decide_eq_false_iff_not, Int.toNat_natCast] at * <;> omega))
  · exact hT
  · omega
  · (refine ⟨by omega, ?_, ?_⟩ <;> (simp only [List.length_map, decide_eq_true_eq, decide_eq_false_iff_not, Int.toNat_natCast] at * <;> omega))
  · exact ⟨by simp, cellsOk_map encT (fun _ => rfl) _, rfl, by omega⟩
  · have hlt : i < p.paths.length := by (simp only [List.length_map, decide_eq_true_eq, decide_eq_false_iff_not, Int.toNat_natCast] at * <;> omega)
    have hs := hs hlt
    rw [if_pos (show noT q (p.paths.getD i default) = true from h2)] at hs
    refine ⟨hlt, ⟨congrArg (fun n => AVal.imm (i64 n)) (i64_succ (by omega)), rfl, rfl, rfl, rfl, trivial⟩, ?_, rfl, rfl, rfl⟩
    refine ⟨rfl, rfl, rfl, congrArg (fun (l : List AVal) => some (Entry.box 26 (.agg l))) (congrArg (fun x : Nat => ([.own 50 (p.origins.filter (noO q)).length, .own 90 x, nilA] : List AVal)) (show (mT p q i).length + 1 = (mT p q (i + 1)).length by rw [hs, List.length_append]; rfl)), rfl, congrArg (fun l => some (Entry.row 57 2 l)) (show (mT p q i).map encT ++ [encT (p.paths.getD i default)] = (mT p q (i + 1)).map encT by rw [hs, List.map_append]; rfl), trivial⟩
  · have hlt : i < p.paths.length := by (simp only [List.length_map, decide_eq_true_eq, decide_eq_false_iff_not, Int.toNat_natCast] at * <;> omega)
    have hs := hs hlt
    rw [if_neg (show ¬ noT q (p.paths.getD i default) = true by rw [noT, h2]; decide), List.append_nil] at hs
    refine ⟨hlt, ⟨congrArg (fun n => AVal.imm (i64 n)) (i64_succ (by omega)), rfl, rfl, rfl, rfl, trivial⟩, ?_, rfl, rfl, rfl⟩
    refine ⟨rfl, rfl, rfl, congrArg (fun (l : List AVal) => some (Entry.box 26 (.agg l))) (congrArg (fun x : Nat => ([.own 50 (p.origins.filter (noO q)).length, .own 90 x, nilA] : List AVal)) (show (mT p q i).length = (mT p q (i + 1)).length by rw [hs])), rfl, congrArg (fun l => some (Entry.row 57 2 l)) (show (mT p q i).map encT = (mT p q (i + 1)).map encT by rw [hs]), trivial⟩
  · have : i = p.paths.length := by (simp only [List.length_map, decide_eq_true_eq, decide_eq_false_iff_not, Int.toNat_natCast] at * <;> omega)
    subst this
    refine ⟨rfl, by omega, ⟨rfl, rfl, rfl, rfl, trivial⟩, ?_, rfl, rfl, rfl⟩
    refine ⟨rfl, rfl, rfl, congrArg (fun (l : List AVal) => some (Entry.box 26 (.agg l))) (congrArg (fun x : Nat => ([.own 50 (p.origins.filter (noO q)).length, .own 90 x, nilA] : List AVal)) (show (mT p q p.paths.length).length = (p.paths.filter (noT q)).length by rw [hall])), rfl, congrArg (fun l => some (Entry.row 57 2 l)) (show (mT p q p.paths.length).map encT = (p.paths.filter (noT q)).map encT by rw [hall]), trivial⟩
def E28c (p q : Payload) : LState := { t := [(5, .ptr 3 0), (4, .ptr 2 0), (3, .ptr 1 0), (2, .ptr 0 0)], s := s28 p q (.own 50 (p.origins.filter (noO q)).length) (.own 90 (p.paths.filter (noT q)).length) (.own 140 (p.keys.filter (noK q)).length) [(50, .row 68 6 ((p.origins.filter (noO q)).map encO)), (90, .row 57 2 ((p.paths.filter (noT q)).map encT)), (140, .row 75 18 ((p.keys.filter (noK q)).map encK))], m := 89, n := 170 }
def fin28c : Exit → Nat → Fin
  | .normal, 198 => ⟨[(140, 169), (192, 140)], [8, 5, 4, 3, 2], [0, 1, 2, 3, 50, 90, 140]⟩
  | .normal, _ => ⟨[], [8, 5, 4, 3, 2], [0, 1, 2, 3, 50, 90, 140]⟩
  | _, _ => ⟨[], [5, 4, 3, 2], [0, 1, 2, 3, 50, 90, 140]⟩
def T28cr (p q : Payload) (i : Nat) : Tell :=
  Tell.mk (fun x x_1 => false) (fun x x_1 => Orc.no) (fun x => Tree.fail 1000003 0) (fun x => 0) (fun x => ([], []))
  (oget
  [(175, 15, 5, Orc.elem (encK (List.getD p.keys i default))),
  (175, 15, 7, Orc.call [slE 18 encK q.keys, encK (List.getD p.keys i default)] (bo (decide (List.getD p.keys i default ∈ q.keys)))),
  (184, 16, 5, Orc.elem (encK (List.getD p.keys i default)))])
  fun x x_1 => Tree.fail 1000003 0
theorem t28cr (p q : Payload) (i : Nat) : levLN prog Proofs.Tryz.f28 13 (I28c p q i) (T28cr p q i) fin28c =
  Tree.br (decide ((↑i : Int) < (↑(List.length (List.map encK p.keys)) : Int)))
  (Tree.need ((0 : Int) ≤ (↑i : Int) ∧ (List.map encK p.keys)[i]? = some (encK (List.getD p.keys i default)))
  (Tree.need
  (ILeL [slE 18 encK q.keys, encK (List.getD p.keys i default)] [slE 18 encK q.keys, encK (List.getD p.keys i default)] ∧
  ASpec prog 64 [slE 18 encK q.keys, encK (List.getD p.keys i default)] (bo (decide (List.getD p.keys i default ∈ q.keys))))
  (Tree.br (!decide (List.getD p.keys i default ∈ q.keys))
  (Tree.need ((0 : Int) ≤ (↑i : Int) ∧ (List.map encK p.keys)[i]? = some (encK (List.getD p.keys i default)))
  (Tree.need (List.length (List.map encK (mK p q i)) = List.length (mK p q i) ∧ cellsOk (List.map encK (mK p q i)) = true ∧ true = true ∧ List.length (mK p q i) + 1 ≤ 1000000)
  (Tree.done Exit.normal
  (LState.mk
  [(8, AVal.imm (IVal.v (Value.int IntKind.i64 (IntKind.wrap IntKind.i64 ((↑i : Int) + (1 : Int)))))), (5, AVal.ptr 3 0), (4, AVal.ptr 2 0),
  (3, AVal.ptr 1 0), (2, AVal.ptr 0 0)]
  [(0, Entry.box 26 (AVal.imm (encL p))), (1, Entry.box 26 (AVal.imm (encL q))),
  (2, Entry.box 26 (AVal.imm (IVal.agg [IVal.v (Value.slice none 0 0), IVal.v (Value.slice none 0 0), IVal.v (Value.slice none 0 0)]))),
  (3,
  Entry.box 26
  (AVal.agg [AVal.own 50 (List.length (List.filter (noO q) p.origins)), AVal.own 90 (List.length (List.filter (noT q) p.paths)), AVal.own 140 (List.length (mK p q i) + 1)])),
  (50, Entry.row 68 6 (List.map encO (List.filter (noO q) p.origins))), (90, Entry.row 57 2 (List.map encT (List.filter (noT q) p.paths))),
  (140, Entry.row 75 18 (List.map encK (mK p q i) ++ [encK (List.getD p.keys i default)]))]
  89 198 []))))
  (Tree.done Exit.normal
  (LState.mk
  [(8, AVal.imm (IVal.v (Value.int IntKind.i64 (IntKind.wrap IntKind.i64 ((↑i : Int) + (1 : Int)))))), (5, AVal.ptr 3 0), (4, AVal.ptr 2 0),
  (3, AVal.ptr 1 0), (2, AVal.ptr 0 0)]
  [(0, Entry.box 26 (AVal.imm (encL p))), (1, Entry.box 26 (AVal.imm (encL q))), (2, Z26),
  (3, Entry.box 26 (AVal.agg [AVal.own 50 (List.length (List.filter (noO q) p.origins)), AVal.own 90 (List.length (List.filter (noT q) p.paths)), AVal.own 140 (List.length (mK p q i))])),
  (50, Entry.row 68 6 (List.map encO (List.filter (noO q) p.origins))), (90, Entry.row 57 2 (List.map encT (List.filter (noT q) p.paths))),
  (140, Entry.row 75 18 (List.map encK (mK p q i)))]
  89 187 [])))))
  (Tree.done (Exit.exit 4)
  (LState.mk [(5, AVal.ptr 3 0), (4, AVal.ptr 2 0), (3, AVal.ptr 1 0), (2, AVal.ptr 0 0)]
  [(0, Entry.box 26 (AVal.imm (encL p))), (1, Entry.box 26 (AVal.imm (encL q))), (2, Z26),
  (3, Entry.box 26 (AVal.agg [AVal.own 50 (List.length (List.filter (noO q) p.origins)), AVal.own 90 (List.length (List.filter (noT q) p.paths)), AVal.own 140 (List.length (mK p q i))])),
  (50, Entry.row 68 6 (List.map encO (List.filter (noO q) p.origins))), (90, Entry.row 57 2 (List.map encT (List.filter (noT q) p.paths))),
  (140, Entry.row 75 18 (List.map encK (mK p q i)))]
  89 175 [])) := by kernel_rfl
theorem mK_succ (p q : Payload) (i : Nat) (h : i < p.keys.length) : mK p q (i + 1) = mK p q i ++ (if noK q (p.keys.getD i default) = true then [p.keys.getD i default] else []) := by
  rw [mK, mK, List.take_add_one, List.filter_append]
  simp only [List.getD_eq_getElem?_getD, List.getElem?_eq_getElem h, Option.toList_some, Option.getD_some, List.filter_cons, List.filter_nil]
theorem mK_all (p q : Payload) : mK p q p.keys.length = (p.keys.filter (noK q)) := by rw [mK, List.take_length]
theorem mK_len (p q : Payload) (i : Nat) : (mK p q i).length ≤ i := Nat.le_trans (List.length_filter_le _ _) (by simp; omega)
theorem l28c (p q : Payload) (hp : p.keys.length ≤ 3000) (hq : q.keys.length ≤ 3000) (σ : LState) (h : LSub σ (I28c p q 0)) : LoopOk prog [] (bodyOf Proofs.Tryz.f28) 13 σ (.done (.exit 4) (E28c p q)) := by
  refine LoopOk.countN p.keys.length 4 (I28c p q) (E28c p q) (T28cr p q) fin28c (by kernel_rfl) h fun i hi => ?_
  have hlen := mK_len p q i
  have hall := mK_all p q
  have hs := mK_succ p q i
  rw [t28cr]
  refine ⟨fun h1 => need_sat (elem_need ?_) (need_sat ⟨ILeL.refl _, c64 _ _ ?_⟩ ⟨fun h2 => need_sat (elem_need ?_) (need_sat ?_ ?_), fun h2 => ?_⟩), fun h1 => ?_⟩
  · (refine ⟨by omega, ?_, ?_⟩ <;> (simp only [List.length_map, decide_eq_true_eq, decide_eq_false_iff_not, Int.toNat_natCast] at * <;> omega))
  · omega
  · (refine ⟨by omega, ?_, ?_⟩ <;> (simp only [List.length_map, decide_eq_true_eq, decide_eq_false_iff_not, Int.toNat_natCast] at * <;> omega))
  · exact ⟨by simp, cellsOk_map encK (fun _ => rfl) _, rfl, by omega⟩
  · have hlt : i < p.keys.length := by (simp only [List.length_map, decide_eq_true_eq, decide_eq_false_iff_not, Int.toNat_natCast] at * <;> omega)
    have hs := hs hlt
    rw [if_pos (show noK q (p.keys.getD i default) = true from h2)] at hs
    refine ⟨hlt, ⟨congrArg (fun n => AVal.imm (i64 n)) (i64_succ (by omega)), rfl, rfl, rfl, rfl, trivial⟩, ?_, rfl, rfl, rfl⟩
    refine ⟨rfl, rfl, rfl, congrArg (fun (l : List AVal) => some (Entry.box 26 (.agg l))) (congrArg (fun x : Nat => ([.own 50 (p.origins.filter (noO q)).length, .own 90 (p.paths.filter (noT q)).length, .own 140 x] : List AVal)) (show (mK p q i).length + 1 = (mK p q (i + 1)).length by rw [hs, List.length_append]; rfl)), rfl, rfl, congrArg (fun l => some (Entry.row 75 18 l)) (show (mK p q i).map encK ++ [encK (p.keys.getD i default)] = (mK p q (i + 1)).map encK by rw [hs, List.map_append]; rfl), trivial⟩
  · have hlt : i < p.keys.length := by (simp only [List.length_map, decide_eq_true_eq, decide_eq_false_iff_not, Int.toNat_natCast] at * <;> omega)
    have hs := hs hlt
    rw [if_neg (show ¬ noK q (p.keys.getD i default) = true by rw [noK, h2]; decide), List.append_nil] at hs
    refine ⟨hlt, ⟨congrArg (fun n => AVal.imm (i64 n)) (i64_succ (by omega)), rfl, rfl, rfl, rfl, trivial⟩, ?_, rfl, rfl, rfl⟩
    refine ⟨rfl, rfl, rfl, congrArg (fun (l : List AVal) => some (Entry.box 26 (.agg l))) (congrArg (fun x : Nat => ([.own 50 (p.origins.filter (noO q)).length, .own 90 (p.paths.filter (noT q)).length, .own 140 x] : List AVal)) (show (mK p q i).length = (mK p q (i + 1)).length by rw [hs])), rfl, rfl, congrArg (fun l => some (Entry.row 75 18 l)) (show (mK p q i).map encK = (mK p q (i + 1)).map encK by rw [hs]), trivial⟩
  · have : i = p.keys.length := by (simp only [List.length_map, decide_eq_true_eq, decide_eq_false_iff_not, Int.toNat_natCast] at * <;> omega)
    subst this
    refine ⟨rfl, by omega, ⟨rfl, rfl, rfl, rfl, trivial⟩, ?_, rfl, rfl, rfl⟩
    refine ⟨rfl, rfl, rfl, congrArg (fun (l : List AVal) => some (Entry.box 26 (.agg l))) (congrArg (fun x : Nat => ([.own 50 (p.origins.filter (noO q)).length, .own 90 (p.paths.filter (noT q)).length, .own 140 x] : List AVal)) (show (mK p q p.keys.length).length = (p.keys.filter (noK q)).length by rw [hall])), rfl, rfl, congrArg (fun l => some (Entry.row 75 18 l)) (show (mK p q p.keys.length).map encK = (p.keys.filter (noK q)).map encK by rw [hall]), trivial⟩
def T28 (p q : Payload) : Tell :=
  Tell.mk (fun x x_1 => false) (fun x x_1 => Orc.no)
  (fun k =>
  match k with
  | 3 => Tree.done (Exit.exit 0) (E28a p q)
  | 8 => Tree.done (Exit.exit 2) (E28b p q)
  | x => Tree.done (Exit.exit 4) (E28c p q))
  (fun x => 0)
  (fun k =>
  match k with
  | 3 => ([6, 5, 4, 3, 2], [0, 1, 2, 3])
  | 8 => ([7, 5, 4, 3, 2], [0, 1, 2, 3, 50])
  | x => ([8, 5, 4, 3, 2], [0, 1, 2, 3, 50, 90]))
  (oget
  [(170, 17, 1,
  Orc.callf [50, 90, 140] [encL (Payload.mk (List.filter (noO q) p.origins) (List.filter (noT q) p.paths) (List.filter (noK q) p.keys))]
  (encL (Payload.mk (List.filter (noO q) p.origins) (List.filter (noT q) p.paths) (List.filter (noK q) p.keys))))])
  fun x k =>
  match k with
  | 3 => Tree.done (Exit.exit 0) (E28a p q)
  | 8 => Tree.done (Exit.exit 2) (E28b p q)
  | x => Tree.done (Exit.exit 4) (E28c p q)
theorem t28 (p q : Payload) : levF prog Proofs.Tryz.f28 [encL p, encL q] (T28 p q) =
  Tree.loop 3
  (LState.mk
  [(6, AVal.imm (IVal.v (Value.int IntKind.i64 (0 : Int)))), (5, AVal.ptr 3 0), (4, AVal.ptr 2 0), (3, AVal.ptr 1 0),
  (2, AVal.ptr 0 0)]
  [(0, Entry.box 26 (AVal.imm (encL p))), (1, Entry.box 26 (AVal.imm (encL q))),
  (2, Entry.box 26 (AVal.imm (IVal.agg [IVal.v (Value.slice none 0 0), IVal.v (Value.slice none 0 0), IVal.v (Value.slice none 0 0)]))),
  (3, Entry.box 26 (AVal.imm (IVal.agg [IVal.v (Value.slice none 0 0), IVal.v (Value.slice none 0 0), IVal.v (Value.slice none 0 0)])))]
  89 5 [])
  (Tree.done (Exit.exit 0) (E28a p q))
  (Tree.loop 8
  (LState.mk
  [(7, AVal.imm (IVal.v (Value.int IntKind.i64 (0 : Int)))), (5, AVal.ptr 3 0), (4, AVal.ptr 2 0), (3, AVal.ptr 1 0),
  (2, AVal.ptr 0 0)]
  [(0, Entry.box 26 (AVal.imm (encL p))), (1, Entry.box 26 (AVal.imm (encL q))), (2, Z26),
  (3, Entry.box 26 (AVal.agg [AVal.own 50 (List.length (List.filter (noO q) p.origins)), nilA, nilA])), (50, Entry.row 68 6 (List.map encO (List.filter (noO q) p.origins)))]
  89 81 [])
  (Tree.done (Exit.exit 2) (E28b p q))
  (Tree.loop 13
  (LState.mk
  [(8, AVal.imm (IVal.v (Value.int IntKind.i64 (0 : Int)))), (5, AVal.ptr 3 0), (4, AVal.ptr 2 0), (3, AVal.ptr 1 0),
  (2, AVal.ptr 0 0)]
  [(0, Entry.box 26 (AVal.imm (encL p))), (1, Entry.box 26 (AVal.imm (encL q))), (2, Z26),
  (3, Entry.box 26 (AVal.agg [AVal.own 50 (List.length (List.filter (noO q) p.origins)), AVal.own 90 (List.length (List.filter (noT q) p.paths)), nilA])),
  (50, Entry.row 68 6 (List.map encO (List.filter (noO q) p.origins))), (90, Entry.row 57 2 (List.map encT (List.filter (noT q) p.paths)))]
  89 131 [])
  (Tree.done (Exit.exit 4) (E28c p q))
  (Tree.need
  (eqs
  [(List.length (List.filter (noO q) p.origins), List.length (List.map encO (List.filter (noO q) p.origins))), (List.length (List.filter (noT q) p.paths), List.length (List.map encT (List.filter (noT q) p.paths))),
  (List.length (List.filter (noK q) p.keys), List.length (List.map encK (List.filter (noK q) p.keys)))] ∧
  ILeL
  [IVal.agg
  [IVal.sl true false 6 (List.map encO (List.filter (noO q) p.origins)), IVal.sl true false 2 (List.map encT (List.filter (noT q) p.paths)),
  IVal.sl true false 18 (List.map encK (List.filter (noK q) p.keys))]]
  [encL (Payload.mk (List.filter (noO q) p.origins) (List.filter (noT q) p.paths) (List.filter (noK q) p.keys))] ∧
  ASpec prog 8 [encL (Payload.mk (List.filter (noO q) p.origins) (List.filter (noT q) p.paths) (List.filter (noK q) p.keys))]
  (encL (Payload.mk (List.filter (noO q) p.origins) (List.filter (noT q) p.paths) (List.filter (noK q) p.keys))))
  (Tree.done Exit.ret
  (lret
  (IVal.agg
  [slE 6 encO (Payload.mk (List.filter (noO q) p.origins) (List.filter (noT q) p.paths) (List.filter (noK q) p.keys)).origins,
  slE 2 encT (Payload.mk (List.filter (noO q) p.origins) (List.filter (noT q) p.paths) (List.filter (noK q) p.keys)).paths,
  slE 18 encK (Payload.mk (List.filter (noO q) p.origins) (List.filter (noT q) p.paths) (List.filter (noK q) p.keys)).keys])))))) := by kernel_rfl
def minusR (p q : Payload) : Payload := ⟨p.origins.filter (noO q), p.paths.filter (noT q), p.keys.filter (noK q)⟩
theorem minusR_sm {p : Payload} (h : p.sm) (q : Payload) : (minusR p q).sm :=
  ⟨Nat.le_trans (List.length_filter_le _ _) h.o, Nat.le_trans (List.length_filter_le _ _) h.t, Nat.le_trans (List.length_filter_le _ _) h.k, fun a ha => h.p a (List.mem_filter.1 ha).1⟩
theorem c28 (p q : Payload) (hp : p.sm) (hq : q.sm) : ASpec prog 28 [encL p, encL q] (encL (minusR p q)) := by
  refine ASpec.treeW Proofs.Tryz.f28 (T28 p q) (by kernel_rfl) (by kernel_rfl) (t28 p q) ?_
  refine ⟨?_, ⟨?_, ⟨?_, need_sat ⟨?_, (by repeat' first | exact ILeL.refl _ | exact ILe.refl _ | exact ILe.nil _ _ _ | exact ILe.sl (fun h => by cases h) (fun h => h) (ILeL.refl _) | apply ILeL.cons | apply ILe.agg | apply ILe.tup), c8 _ ?_⟩ ⟨_, rfl, ?_⟩⟩⟩⟩
  · refine .nam (τ := I28a p q 0) (.cell 3 0 50 68 6 (show 5 ≤ 50 by decide) (.sub ?_)) (l28a p q hp.o hq.o _ ?_)
    all_goals exact ⟨⟨rfl, rfl, rfl, rfl, rfl, trivial⟩, ⟨rfl, rfl, rfl, rfl, rfl, trivial⟩, rfl, rfl, rfl⟩
  · refine .nam (τ := I28b p q 0) (.cell 3 1 90 57 2 (show 81 ≤ 90 by decide) (.sub ?_)) (l28b p q hp.t hq.t hq.p _ ?_)
    all_goals exact ⟨⟨rfl, rfl, rfl, rfl, rfl, trivial⟩, ⟨rfl, rfl, rfl, rfl, rfl, rfl, trivial⟩, rfl, rfl, rfl⟩
  · refine .nam (τ := I28c p q 0) (.cell 3 2 140 75 18 (show 131 ≤ 140 by decide) (.sub ?_)) (l28c p q hp.k hq.k _ ?_)
    all_goals exact ⟨⟨rfl, rfl, rfl, rfl, rfl, trivial⟩, ⟨rfl, rfl, rfl, rfl, rfl, rfl, rfl, trivial⟩, rfl, rfl, rfl⟩
  · exact ⟨by simp, by simp, by simp, trivial⟩
  · exact (minusR_sm hp q).ok
  · exact .refl _
end Gp
namespace Gp
theorem great_sm {p : Payload} (h : greatP p = false) : p.sm := by
  simp only [greatP, greatB, Bool.or_eq_false_iff, Bool.and_eq_false_imp, decide_eq_true_eq, decide_eq_false_iff_not] at h
  obtain ⟨⟨⟨⟨_, h1⟩, ⟨_, h2⟩⟩, ⟨_, h3⟩⟩, h4⟩ := h
  refine ⟨by omega, by omega, by omega, fun a ha => ?_⟩
  obtain ⟨i, hi, hx⟩ := List.mem_iff_getElem.1 ha
  unfold okT
  rcases Nat.lt_or_ge 60 a.provs.length with hlt | hge
  · exfalso
    have h4 := anyI_none.1 h4 i hi
    simp [P6, P6', List.getD_eq_getElem?_getD, List.getElem?_eq_getElem hi, hx] at h4; omega
  · omega
theorem noP_sm : noP.sm := noP_good.sm
theorem noD_sm : noD.sm := ⟨noP_sm, noP_sm⟩
theorem apply_sm (p : Payload) (d : Diff) : (applyS p d).1.sm := by
  by_cases h : (applyS p d).2 = 0
  · exact (apply_iff.1 (apply_eta p d h)).gq.sm
  · rw [apply_fail h]; exact noP_sm
theorem inverse_sm {d : Diff} (h : d.sm) : (inverseS d).1.sm := by
  unfold inverseS; split
  · exact noD_sm
  · exact ⟨h.c, h.g⟩
theorem compose_sm (d f : Diff) : (composeS d f).1.sm := by
  unfold composeS
  split
  · exact noD_sm
  · split
    · exact noD_sm
    · split
      · exact noD_sm
      · split
        · exact noD_sm
        · split
          · exact noD_sm
          · rename_i h
            have g1 : ckL (joinP d.gone f.gone f.come d.come) = 0 := Classical.byContradiction fun hn => h (.inl hn)
            have g2 : ckL (joinP d.come f.come f.gone d.gone) = 0 := Classical.byContradiction fun hn => h (.inr hn)
            exact ⟨((ck_iff _).1 g1).sm, ((ck_iff _).1 g2).sm⟩
end Gp
namespace Gp
theorem minusR_eq {q : Payload} (hq : PSS q) (p : Payload) : minusR p q = minusP p q := by
  have h1 : noO q = missO q.origins := funext fun x => by
    have := miss_iff tw_cmpO hq.o x
    change (missO q.origins x = true ↔ _) at this
    rw [Bool.eq_iff_iff, this, noO, Bool.not_eq_true', decide_eq_false_iff_not]
  have h2 : noT q = missT q.paths := funext fun x => by
    have := miss_iff tw_cmpT hq.t x
    change (missT q.paths x = true ↔ _) at this
    rw [Bool.eq_iff_iff, this, noT, Bool.not_eq_true', decide_eq_false_iff_not]
  have h3 : noK q = missK q.keys := funext fun x => by
    have := miss_iff tw_cmpK hq.k x
    change (missK q.keys x = true ↔ _) at this
    rw [Bool.eq_iff_iff, this, noK, Bool.not_eq_true', decide_eq_false_iff_not]
  rw [minusR, minusP, h1, h2, h3]
def apartR (p q : Payload) : Bool := decide (sizeP (minusR p q) = sizeP p)
def T37 (p q : Payload) : Tell :=
  Tell.mk (fun x x_1 => false) (fun x x_1 => Orc.no) (fun x => Tree.fail 1000003 0) (fun x => 0) (fun x => ([], []))
  (oget
  [(3, 1, 2, Orc.call [encL p, encL q] (encL (minusR p q))), (3, 1, 3, Orc.call [encL (minusR p q)] (i64 (sizeP (minusR p q)))),
  (3, 1, 5, Orc.call [encL p] (i64 (sizeP p)))])
  fun x x_1 => Tree.fail 1000003 0
theorem t37 (p q : Payload) : levF prog Proofs.Tryz.f37 [encL p, encL q] (T37 p q) =
  Tree.need (ILeL [encL p, encL q] [encL p, encL q] ∧ ASpec prog 28 [encL p, encL q] (encL (minusR p q)))
  (Tree.need (ILeL [encL (minusR p q)] [encL (minusR p q)] ∧ ASpec prog 24 [encL (minusR p q)] (i64 (sizeP (minusR p q))))
  (Tree.need (ILeL [encL p] [encL p] ∧ ASpec prog 24 [encL p] (i64 (sizeP p))) (Tree.done Exit.ret (lret (IVal.v (Value.bool (decide (sizeP (minusR p q) = sizeP p)))))))) := by kernel_rfl
theorem c37 (p q : Payload) (hp : p.sm) (hq : q.sm) : ASpec prog 37 [encL p, encL q] (bo (apartR p q)) := by
  refine ASpec.treeW Proofs.Tryz.f37 (T37 p q) (by kernel_rfl) (by kernel_rfl) (t37 p q) ?_
  refine need_sat ⟨ILeL.refl _, c28 _ _ ?_ ?_⟩ (need_sat ⟨ILeL.refl _, c24 _ ?_⟩ (need_sat ⟨ILeL.refl _, c24 _ ?_⟩ ⟨_, rfl, ?_⟩))
  · exact hp
  · exact hq
  · exact (minusR_sm hp q).ok
  · exact hp.ok
  · exact .refl _
def validR (d : Diff) : Int := if ckL' d.gone ≠ 0 then ckL' d.gone else if ckL' d.come ≠ 0 then ckL' d.come else if apartR d.gone d.come = true then 0 else 8
def T21 (d : Diff) : Tell :=
  Tell.mk (fun x x_1 => false) (fun x x_1 => Orc.no) (fun x => Tree.fail 1000003 0) (fun x => 0) (fun x => ([], []))
  (oget
  [(2, 1, 2, Orc.call [encL d.gone] (i64 (ckL' d.gone))), (8, 3, 2, Orc.call [encL d.come] (i64 (ckL' d.come))),
  (8, 4, 7, Orc.call [encL d.gone, encL d.come] (bo (apartR d.gone d.come))), (12, 4, 7, Orc.call [encL d.gone, encL d.come] (bo (apartR d.gone d.come)))])
  fun x x_1 => Tree.fail 1000003 0
theorem t21 (d : Diff) : levF prog Proofs.Tryz.f21 [encD d] (T21 d) =
  Tree.need (ILeL [IVal.agg [slE 6 encO d.gone.origins, slE 2 encT d.gone.paths, slE 18 encK d.gone.keys]] [encL d.gone] ∧ ASpec prog 23 [encL d.gone] (i64 (ckL' d.gone)))
  (Tree.br (decide (ckL' d.gone = (0 : Int)))
  (Tree.need (ILeL [IVal.agg [slE 6 encO d.come.origins, slE 2 encT d.come.paths, slE 18 encK d.come.keys]] [encL d.come] ∧ ASpec prog 23 [encL d.come] (i64 (ckL' d.come)))
  (Tree.br (decide (ckL' d.come = (0 : Int)))
  (Tree.need
  (ILeL [IVal.agg [slE 6 encO d.gone.origins, slE 2 encT d.gone.paths, slE 18 encK d.gone.keys], IVal.agg [slE 6 encO d.come.origins, slE 2 encT d.come.paths, slE 18 encK d.come.keys]]
  [encL d.gone, encL d.come] ∧
  ASpec prog 37 [encL d.gone, encL d.come] (bo (apartR d.gone d.come)))
  (Tree.br (!apartR d.gone d.come) (Tree.done Exit.ret (lret (IVal.v (Value.int IntKind.i64 (8 : Int))))) (Tree.done Exit.ret (lret (IVal.v (Value.int IntKind.i64 (ckL' d.come)))))))
  (Tree.done Exit.ret (lret (IVal.v (Value.int IntKind.i64 (ckL' d.come)))))))
  (Tree.br (decide (ckL' d.gone = (0 : Int)))
  (Tree.need
  (ILeL [IVal.agg [slE 6 encO d.gone.origins, slE 2 encT d.gone.paths, slE 18 encK d.gone.keys], IVal.agg [slE 6 encO d.come.origins, slE 2 encT d.come.paths, slE 18 encK d.come.keys]]
  [encL d.gone, encL d.come] ∧
  ASpec prog 37 [encL d.gone, encL d.come] (bo (apartR d.gone d.come)))
  (Tree.br (!apartR d.gone d.come) (Tree.done Exit.ret (lret (IVal.v (Value.int IntKind.i64 (8 : Int))))) (Tree.done Exit.ret (lret (IVal.v (Value.int IntKind.i64 (ckL' d.gone)))))))
  (Tree.done Exit.ret (lret (IVal.v (Value.int IntKind.i64 (ckL' d.gone))))))) := by kernel_rfl
theorem c21 (d : Diff) (hd : d.sm) : ASpec prog 21 [encD d] (i64 (validR d)) := by
  refine ASpec.treeW Proofs.Tryz.f21 (T21 d) (by kernel_rfl) (by kernel_rfl) (t21 d) ?_
  refine need_sat ⟨ILeL.refl _, c23 _⟩ ⟨fun h1 => need_sat ⟨ILeL.refl _, c23 _⟩ ⟨fun h2 => need_sat ⟨ILeL.refl _, c37 _ _ ?_ ?_⟩ ⟨fun h3 => ⟨_, rfl, ?_⟩, fun h3 => ⟨_, rfl, ?_⟩⟩, fun h2 => ⟨_, rfl, ?_⟩⟩, fun h1 => ⟨fun h2 => need_sat ⟨ILeL.refl _, c37 _ _ ?_ ?_⟩ ⟨fun h3 => ⟨_, rfl, ?_⟩, fun h3 => ⟨_, rfl, ?_⟩⟩, fun h2 => ⟨_, rfl, ?_⟩⟩⟩
  · exact hd.g
  · exact hd.c
  · simp only [decide_eq_true_eq, Bool.not_eq_true'] at h1 h2 h3; exact ile_i64 (by simp [validR, h1, h2, h3])
  · simp only [decide_eq_true_eq, Bool.not_eq_false'] at h1 h2 h3; exact ile_i64 (by simp [validR, h1, h2, h3])
  · simp only [decide_eq_true_eq, decide_eq_false_iff_not] at h1 h2; exact ile_i64 (by simp [validR, h1, h2])
  · exact hd.g
  · exact hd.c
  · simp only [decide_eq_true_eq, decide_eq_false_iff_not] at h1 h2; exact absurd h2 h1
  · simp only [decide_eq_true_eq, decide_eq_false_iff_not] at h1 h2; exact absurd h2 h1
  · simp only [decide_eq_true_eq, decide_eq_false_iff_not] at h1 h2; exact ile_i64 (by simp [validR, h1])
structure Diff.rng (d : Diff) : Prop where
  g : d.gone.rng
  c : d.come.rng
theorem validR_eq {d : Diff} (h : d.rng) : validR d = validD d := by
  rw [validR, validD, ← ckL_eq _ h.g, ← ckL_eq _ h.c]
  by_cases h1 : ckL d.come = 0
  · have hs := ((ck_iff _).1 h1).s
    rw [apartR, apartP, minusR_eq hs]
  · by_cases h0 : ckL d.gone = 0
    · rw [if_neg (Decidable.not_not.2 h0), if_pos h1, if_neg (Decidable.not_not.2 h0), if_pos h1]
    · rw [if_pos h0, if_pos h0]
def T5 (p q : Payload) (d : Diff) : Tell :=
  Tell.mk (fun x x_1 => false) (fun x x_1 => Orc.no) (fun x => Tree.fail 1000003 0) (fun x => 0) (fun x => ([], []))
  (oget
  [(4, 1, 0, Orc.call [] (bo true)), (6, 2, 1, Orc.call [encL p] (bo (greatP p))), (6, 2, 4, Orc.call [encL q] (bo (greatP q))),
  (6, 2, 8, Orc.call [encD d] (bo (greatP d.gone || greatP d.come))), (6, 2, 12, Orc.call [encL p] (i64 (ckL' p))), (6, 2, 17, Orc.call [encL q] (i64 (ckL' q))),
  (30, 4, 2, Orc.call [encL p, encL q] (IVal.tup [encD (betweenS p q).fst, i64 (betweenS p q).snd])),
  (39, 5, 2, Orc.call [encL p, encD (betweenS p q).fst] (IVal.tup [encL (applyS p (betweenS p q).fst).fst, i64 (applyS p (betweenS p q).fst).snd])),
  (48, 6, 9, Orc.call [encL (applyS p (betweenS p q).fst).fst, encL q] (bo (decide ((applyS p (betweenS p q).fst).fst = q)))),
  (48, 6, 14, Orc.call [encD (betweenS p q).fst] (i64 (validR (betweenS p q).fst))), (65, 8, 2, Orc.call [encL p, encD d] (IVal.tup [encL (applyS p d).fst, i64 (applyS p d).snd])),
  (76, 10, 3, Orc.call [encL (applyS p d).fst] (i64 (sizeP (applyS p d).fst))),
  (76, 11, 2, Orc.call [encL p, encL (applyS p d).fst] (IVal.tup [encD (betweenS p (applyS p d).fst).fst, i64 (betweenS p (applyS p d).fst).snd])),
  (85, 12, 8, Orc.call [encD (betweenS p (applyS p d).fst).fst, encD d] (bo (decide ((betweenS p (applyS p d).fst).fst = d)))),
  (85, 12, 12, Orc.call [encL (applyS p d).fst] (i64 (ckL' (applyS p d).fst)))])
  fun x x_1 => Tree.fail 1000003 0
theorem t5 (p q : Payload) (d : Diff) : levF prog Proofs.Tryz.f5 [encL p, encL q, encD d] (T5 p q d) =
  Tree.need (ILeL [] [] ∧ ASpec prog 22 [] (bo true))
  (Tree.need (ILeL [encL p] [encL p] ∧ ASpec prog 6 [encL p] (bo (greatP p)))
  (Tree.br (greatP p) (Tree.done Exit.ret (lret (IVal.v (Value.bool true))))
  (Tree.need (ILeL [encL q] [encL q] ∧ ASpec prog 6 [encL q] (bo (greatP q)))
  (Tree.br (greatP q) (Tree.done Exit.ret (lret (IVal.v (Value.bool true))))
  (Tree.need (ILeL [encD d] [encD d] ∧ ASpec prog 7 [encD d] (bo (greatP d.gone || greatP d.come)))
  (Tree.br (greatP d.gone || greatP d.come) (Tree.done Exit.ret (lret (IVal.v (Value.bool true))))
  (Tree.need (ILeL [encL p] [encL p] ∧ ASpec prog 23 [encL p] (i64 (ckL' p)))
  (Tree.br (!decide (ckL' p = (0 : Int))) (Tree.done Exit.ret (lret (IVal.v (Value.bool true))))
  (Tree.need (ILeL [encL q] [encL q] ∧ ASpec prog 23 [encL q] (i64 (ckL' q)))
  (Tree.br (!decide (ckL' q = (0 : Int))) (Tree.done Exit.ret (lret (IVal.v (Value.bool true))))
  (Tree.br false (Tree.done Exit.ret (lret (IVal.v (Value.bool true))))
  (Tree.need (ILeL [encL p, encL q] [encL p, encL q] ∧ ASpec prog 10 [encL p, encL q] (IVal.tup [encD (betweenS p q).fst, i64 (betweenS p q).snd]))
  (Tree.need
  (ILeL [encL p, encD (betweenS p q).fst] [encL p, encD (betweenS p q).fst] ∧
  ASpec prog 12 [encL p, encD (betweenS p q).fst] (IVal.tup [encL (applyS p (betweenS p q).fst).fst, i64 (applyS p (betweenS p q).fst).snd]))
  (Tree.br (!decide ((betweenS p q).snd = (0 : Int))) (Tree.done Exit.ret (lret (IVal.v (Value.bool false))))
  (Tree.br (!decide ((applyS p (betweenS p q).fst).snd = (0 : Int))) (Tree.done Exit.ret (lret (IVal.v (Value.bool false))))
  (Tree.need
  (ILeL [encL (applyS p (betweenS p q).fst).fst, encL q] [encL (applyS p (betweenS p q).fst).fst, encL q] ∧
  ASpec prog 15 [encL (applyS p (betweenS p q).fst).fst, encL q] (bo (decide ((applyS p (betweenS p q).fst).fst = q))))
  (Tree.br (!decide ((applyS p (betweenS p q).fst).fst = q)) (Tree.done Exit.ret (lret (IVal.v (Value.bool false))))
  (Tree.need (ILeL [encD (betweenS p q).fst] [encD (betweenS p q).fst] ∧ ASpec prog 21 [encD (betweenS p q).fst] (i64 (validR (betweenS p q).fst)))
  (Tree.br (!decide (validR (betweenS p q).fst = (0 : Int))) (Tree.done Exit.ret (lret (IVal.v (Value.bool false))))
  (Tree.need (ILeL [encL p, encD d] [encL p, encD d] ∧ ASpec prog 12 [encL p, encD d] (IVal.tup [encL (applyS p d).fst, i64 (applyS p d).snd]))
  (Tree.br (!decide ((applyS p d).snd = (0 : Int)))
  (Tree.br true
  (Tree.need (ILeL [encL (applyS p d).fst] [encL (applyS p d).fst] ∧ ASpec prog 24 [encL (applyS p d).fst] (i64 (sizeP (applyS p d).fst)))
  (Tree.done Exit.ret (lret (IVal.v (Value.bool (decide (sizeP (applyS p d).fst = (0 : Int))))))))
  (Tree.done Exit.ret (lret (IVal.v (Value.bool false)))))
  (Tree.need
  (ILeL [encL p, encL (applyS p d).fst] [encL p, encL (applyS p d).fst] ∧
  ASpec prog 10 [encL p, encL (applyS p d).fst] (IVal.tup [encD (betweenS p (applyS p d).fst).fst, i64 (betweenS p (applyS p d).fst).snd]))
  (Tree.br true
  (Tree.br (decide ((betweenS p (applyS p d).fst).snd = (0 : Int)))
  (Tree.need
  (ILeL [encD (betweenS p (applyS p d).fst).fst, encD d] [encD (betweenS p (applyS p d).fst).fst, encD d] ∧
  ASpec prog 14 [encD (betweenS p (applyS p d).fst).fst, encD d] (bo (decide ((betweenS p (applyS p d).fst).fst = d))))
  (Tree.br (decide ((betweenS p (applyS p d).fst).fst = d))
  (Tree.need (ILeL [encL (applyS p d).fst] [encL (applyS p d).fst] ∧ ASpec prog 23 [encL (applyS p d).fst] (i64 (ckL' (applyS p d).fst)))
  (Tree.done Exit.ret (lret (IVal.v (Value.bool (decide (ckL' (applyS p d).fst = (0 : Int))))))))
  (Tree.done Exit.ret (lret (IVal.v (Value.bool false))))))
  (Tree.done Exit.ret (lret (IVal.v (Value.bool false)))))
  (Tree.done Exit.ret (lret (IVal.v (Value.bool false))))))))))))))))))))))))))) := by kernel_rfl
theorem rng_sub {s p q : Payload} (hp : p.rng) (hq : q.rng) (h : ∀ e, inP e s → inP e p ∨ inP e q) : s.rng :=
  ⟨fun x hx => (h (.o x) hx).elim (hp.o x) (hq.o x), fun x hx => (h (.t x) hx).elim (hp.t x) (hq.t x), fun x hx => (h (.k x) hx).elim (hp.k x) (hq.k x)⟩
theorem applies_law {p q : Payload} {d : Diff} (rp : p.rng) (rq : q.rng) (rd : d.rng) (hp : ckL' p = 0) (hq : ckL' q = 0) :
    (betweenS p q).2 = 0 ∧ applyS p (betweenS p q).1 = (q, 0) ∧ validR (betweenS p q).1 = 0 ∧ (betweenS p q).1.sm ∧ ((applyS p d).2 = 0 → betweenS p (applyS p d).1 = (d, 0) ∧ ckL' (applyS p d).1 = 0) := by
  rw [← ckL_eq _ rp] at hp
  rw [← ckL_eq _ rq] at hq
  have gp := (ck_iff _).1 hp
  have gq := (ck_iff _).1 hq
  have key : ∀ {s : Payload}, Good s → betweenS p s = (⟨minusP p s, minusP s p⟩, 0) ∧ App p ⟨minusP p s, minusP s p⟩ s := by
    intro s gs
    have i1 := in_minus gs.s p
    have i2 := in_minus gp.s s
    refine ⟨by rw [betweenS, if_neg (Decidable.not_not.2 hp), if_neg (Decidable.not_not.2 ((ck_iff _).2 gs))], App.between gp gs ⟨gp.sub (gp.s.minus s) fun e he => ((i1 e).1 he).1, gs.sub (gs.s.minus p) fun e he => ((i2 e).1 he).1, fun e a b => ((i1 e).1 a).2 ((i2 e).1 b).1⟩ i1 i2⟩
  obtain ⟨k1, k2⟩ := key gq
  rw [k1]
  have rx : Diff.rng ⟨minusP p q, minusP q p⟩ := ⟨rng_sub rp rp fun e he => .inl ((in_minus gq.s p e).1 he).1, rng_sub rq rq fun e he => .inl ((in_minus gp.s q e).1 he).1⟩
  refine ⟨rfl, apply_iff.2 k2, by rw [validR_eq rx]; exact (valid_iff _).2 k2.gd, ⟨k2.gd.g.sm, k2.gd.c.sm⟩, fun h => ?_⟩
  have ha := apply_iff.1 (apply_eta p d h)
  obtain ⟨l1, l2⟩ := key ha.gq
  refine ⟨by rw [l1, l2.same ha], ?_⟩
  have rs : (applyS p d).1.rng := rng_sub rp rd.c fun e he => ((ha.out e).1 he).imp And.left id
  rw [← ckL_eq _ rs]
  exact (ck_iff _).2 ha.gq
end Gp
namespace Gp
section
variable {H : Type} {enc : TypeId × Value → H} {w : World} {base : Nat} {spare : Nat → Bool} {held : Bool}
theorem wf_u8 {n : Int} (h : (Lit.int .u8 n).wf = true) : byteI n := by have := wf_in h; simp [IntKind.min, IntKind.max, IntKind.bits, IntKind.signed] at this; exact this
theorem wf_u32 {n : Int} (h : (Lit.int .u32 n).wf = true) : 0 ≤ n := by have := wf_in h; simp [IntKind.min, IntKind.max, IntKind.bits, IntKind.signed] at this; omega
theorem wf_u64 {n : Int} (h : (Lit.int .u64 n).wf = true) : 0 ≤ n ∧ n < 2 ^ 64 := by have := wf_in h; simp [IntKind.min, IntKind.max, IntKind.bits, IntKind.signed] at this; omega
theorem fl54 : flatT prog 5 54 = some [.int .u32] := by kernel_rfl
theorem fl57 : flatT prog 5 57 = some [.int .u32, .sl 55] := by kernel_rfl
theorem fl68 : flatT prog 5 68 = some [.int .u32, .int .u8, .int .u64, .int .u64, .int .i64, .int .i64] := by kernel_rfl
theorem fl75 : flatT prog 5 75 = some [.int .u32, .int .u8, .int .u8, .int .u8, .int .u8, .int .u8, .int .u8, .int .u8, .int .u8, .int .u8, .int .u8, .int .u8, .int .u8, .int .u8, .int .u8, .int .u8, .int .u8, .int .i64] := by kernel_rfl
theorem un55 : prog.underlying 55 = some (.slice 54) := by kernel_rfl
theorem un22 : prog.underlying 22 = some (.slice 68) := by kernel_rfl
theorem un23 : prog.underlying 23 = some (.slice 57) := by kernel_rfl
theorem un24 : prog.underlying 24 = some (.slice 75) := by kernel_rfl
theorem rd54 {fuel : Nat} {cs : List Value} {x : DataW H × List MemPlace} (_ : cs.length = 1) (h : DataW.trod enc prog w base spare held fuel 54 cs = some x) : ∃ (n : Int) (v : Value), v.cells.toList = cs ∧ IRep w (allF w) (u32 n) v ∧ 0 ≤ n := by
  obtain ⟨_, _, rfl, ⟨n, rfl, w1⟩, rfl⟩ := flat_read 5 54 _ fuel cs x fl54 h
  refine ⟨n, .int .u32 n, rfl, ?_, wf_u32 w1⟩
  rw [u32, IRep]; exact ⟨rfl, rfl⟩
theorem rd55 {fuel : Nat} {v : Value} {x : DataW H × List MemPlace} (h : DataW.trod enc prog w base spare held fuel 55 [v] = some x) : ∃ l : List Int, IRep w (allF w) (lu32 l) v ∧ (∀ n ∈ l, 0 ≤ n) ∧ l.length ≤ maxLen :=
  slice_read u32 (fun n => 0 ≤ n) un55 (by kernel_rfl) (by decide) (fun _ _ _ => rd54) h
theorem rd57 {fuel : Nat} {cs : List Value} {x : DataW H × List MemPlace} (_ : cs.length = 2) (h : DataW.trod enc prog w base spare held fuel 57 cs = some x) : ∃ (a : Attest) (v : Value), v.cells.toList = cs ∧ IRep w (allF w) (encT a) v ∧ a.rng := by
  obtain ⟨_, _, rfl, ⟨n, rfl, w1⟩, v2, _, rfl, ⟨f2, x2, h2⟩, rfl⟩ := flat_read 5 57 _ fuel cs x fl57 h
  obtain ⟨l, g1, g2, _⟩ := rd55 h2
  exact ⟨⟨n, l⟩, .agg [.int .u32 n, v2].toArray, rfl, ia (ic iv (ic g1 in0)) rfl, wf_u32 w1, g2⟩
theorem rd68 {fuel : Nat} {cs : List Value} {x : DataW H × List MemPlace} (_ : cs.length = 6) (h : DataW.trod enc prog w base spare held fuel 68 cs = some x) : ∃ (o : Origin) (v : Value), v.cells.toList = cs ∧ IRep w (allF w) (encO o) v ∧ o.pfx.addr.rng := by
  obtain ⟨_, _, rfl, ⟨n1, rfl, w1⟩, _, _, rfl, ⟨n2, rfl, w2⟩, _, _, rfl, ⟨n3, rfl, w3⟩, _, _, rfl, ⟨n4, rfl, w4⟩, _, _, rfl, ⟨n5, rfl, w5⟩, _, _, rfl, ⟨n6, rfl, w6⟩, rfl⟩ := flat_read 5 68 _ fuel cs x fl68 h
  exact ⟨⟨n1, ⟨n2, ⟨n3, n4⟩, n5⟩, n6⟩, .agg [.int .u32 n1, .int .u8 n2, .int .u64 n3, .int .u64 n4, .int .i64 n5, .int .i64 n6].toArray, rfl, ia (ic iv (ic iv (ic iv (ic iv (ic iv (ic iv in0)))))) rfl, wf_u64 w3, wf_u64 w4⟩
theorem rd75 {fuel : Nat} {cs : List Value} {x : DataW H × List MemPlace} (_ : cs.length = 18) (h : DataW.trod enc prog w base spare held fuel 75 cs = some x) : ∃ (k : RKey) (v : Value), v.cells.toList = cs ∧ IRep w (allF w) (encK k) v ∧ k.rng := by
  obtain ⟨_, _, rfl, ⟨n, rfl, _⟩, _, _, rfl, ⟨b0, rfl, w0⟩, _, _, rfl, ⟨b1, rfl, w1⟩, _, _, rfl, ⟨b2, rfl, w2⟩, _, _, rfl, ⟨b3, rfl, w3⟩, _, _, rfl, ⟨b4, rfl, w4⟩, _, _, rfl, ⟨b5, rfl, w5⟩, _, _, rfl, ⟨b6, rfl, w6⟩, _, _, rfl, ⟨b7, rfl, w7⟩,
    _, _, rfl, ⟨b8, rfl, w8⟩, _, _, rfl, ⟨b9, rfl, w9⟩, _, _, rfl, ⟨b10, rfl, w10⟩, _, _, rfl, ⟨b11, rfl, w11⟩, _, _, rfl, ⟨b12, rfl, w12⟩, _, _, rfl, ⟨b13, rfl, w13⟩, _, _, rfl, ⟨b14, rfl, w14⟩, _, _, rfl, ⟨b15, rfl, w15⟩, _, _, rfl, ⟨hh, rfl, _⟩, rfl⟩ := flat_read 5 75 _ fuel cs x fl75 h
  refine ⟨⟨n, #v[b0, b1, b2, b3, b4, b5, b6, b7, b8, b9, b10, b11, b12, b13, b14, b15], hh⟩, .agg [.int .u32 n, .int .u8 b0, .int .u8 b1, .int .u8 b2, .int .u8 b3, .int .u8 b4, .int .u8 b5, .int .u8 b6, .int .u8 b7, .int .u8 b8, .int .u8 b9, .int .u8 b10, .int .u8 b11, .int .u8 b12, .int .u8 b13, .int .u8 b14, .int .u8 b15, .int .i64 hh].toArray, rfl,
    ia (ic iv (ic iv (ic iv (ic iv (ic iv (ic iv (ic iv (ic iv (ic iv (ic iv (ic iv (ic iv (ic iv (ic iv (ic iv (ic iv (ic iv (ic iv in0)))))))))))))))))) rfl, ?_⟩
  intro z hz
  have hz : z ∈ [b0, b1, b2, b3, b4, b5, b6, b7, b8, b9, b10, b11, b12, b13, b14, b15] := hz
  simp only [List.mem_cons, List.not_mem_nil, or_false] at hz
  rcases hz with rfl | rfl | rfl | rfl | rfl | rfl | rfl | rfl | rfl | rfl | rfl | rfl | rfl | rfl | rfl | rfl
  all_goals (apply wf_u8; assumption)
theorem rdP {f1 f2 f3 : Nat} {v1 v2 v3 : Value} {x1 x2 x3 : DataW H × List MemPlace} (h1 : DataW.trod enc prog w base spare held f1 22 [v1] = some x1) (h2 : DataW.trod enc prog w base spare held f2 23 [v2] = some x2) (h3 : DataW.trod enc prog w base spare held f3 24 [v3] = some x3) :
    ∃ p : Payload, IRep w (allF w) (slE 6 encO p.origins) v1 ∧ IRep w (allF w) (slE 2 encT p.paths) v2 ∧ IRep w (allF w) (slE 18 encK p.keys) v3 ∧ p.rng ∧ p.paths.length ≤ maxLen := by
  obtain ⟨l1, a1, b1, _⟩ := slice_read encO (fun o => o.pfx.addr.rng) un22 (by kernel_rfl) (by decide) (fun _ _ _ => rd68) h1
  obtain ⟨l2, a2, b2, c2⟩ := slice_read encT Attest.rng un23 (by kernel_rfl) (by decide) (fun _ _ _ => rd57) h2
  obtain ⟨l3, a3, b3, _⟩ := slice_read encK RKey.rng un24 (by kernel_rfl) (by decide) (fun _ _ _ => rd75) h3
  exact ⟨⟨l1, l2, l3⟩, a1, a2, a3, ⟨b1, b2, b3⟩, c2⟩
theorem fl28 : flatT prog 5 28 = some [.sl 22, .sl 23, .sl 24, .sl 22, .sl 23, .sl 24] := by kernel_rfl
theorem rd28 {fuel : Nat} {vs : Array Value} {x : DataW H × List MemPlace} (h : DataW.trod enc prog w base spare held fuel 28 (Value.agg vs).cells.toList = some x) : ∃ d : Diff, IRep w (allF w) (encD d) (.agg vs) ∧ d.rng ∧ d.gone.paths.length ≤ maxLen ∧ d.come.paths.length ≤ maxLen := by
  obtain ⟨v1, _, e1, ⟨f1, x1, h1⟩, v2, _, rfl, ⟨f2, x2, h2⟩, v3, _, rfl, ⟨f3, x3, h3⟩, v4, _, rfl, ⟨f4, x4, h4⟩, v5, _, rfl, ⟨f5, x5, h5⟩, v6, _, rfl, ⟨f6, x6, h6⟩, rfl⟩ := flat_read 5 28 _ fuel _ x fl28 h
  obtain ⟨p, p1, p2, p3, p4, p5⟩ := rdP h1 h2 h3
  obtain ⟨q, q1, q2, q3, q4, q5⟩ := rdP h4 h5 h6
  have e2 : vs = [v1, v2, v3, v4, v5, v6].toArray := by rw [← Array.toList_inj]; exact e1
  rw [e2]
  exact ⟨⟨p, q⟩, ia (ic p1 (ic p2 (ic p3 (ic q1 (ic q2 (ic q3 in0)))))) rfl, ⟨p4, q4⟩, p5, q5⟩
end
end Gp
namespace Gp
def B8g (p : Payload) (c : AVal) : Entry := .box 26 (.agg [.own 5 p.origins.length, c, .own 9 p.keys.length])
def I8g (p : Payload) (i : Nat) : LState := { t := [(4, .imm (i64 i)), (3, .ptr 11 0), (2, .ptr 1 0), (1, .ptr 0 0)], s := [(0, .box 26 (.imm (encL p))), (1, Z34), (11, B8g p (.own 50 i)), (5, .row 68 6 (p.origins.map encO)), (9, .row 75 18 (p.keys.map encK)), (50, .row 57 2 ((p.paths.take i).map encTF))], m := 42, n := 60 }
def E8g (p : Payload) : LState := { t := [(3, .ptr 11 0), (2, .ptr 1 0)], s := [(1, Z34), (11, B8g p (.own 50 p.paths.length)), (5, .row 68 6 (p.origins.map encO)), (9, .row 75 18 (p.keys.map encK)), (50, .row 57 2 (p.paths.map encTF))], m := 42, n := 60 }
def fin8g : Exit → Fin
  | .normal => ⟨[(50, 59), (83, 50)], [4, 3, 2, 1], [0, 1, 11, 5, 9, 50]⟩
  | _ => ⟨[], [3, 2], [1, 11, 5, 9, 50]⟩
def T8gr (p : Payload) (i : Nat) : Tell :=
  Tell.mk
  (fun r i =>
  (Tell.mk (fun x x_1 => false) (fun x x_1 => Orc.no) (fun x => Tree.fail 1000003 0) (fun x => 0) (fun x => ([], [])) (fun x x_1 x_2 => Orc.no) fun x x_1 => Tree.fail 1000003 0).fz r i ||
  fget [(5, 15), (5, 8)] r i)
  (fun x x_1 => Orc.no) (fun x => Tree.fail 1000003 0) (fun x => 0) (fun x => ([], []))
  (oget [(65, 5, 5, Orc.elem (encT (List.getD p.paths i default))), (65, 5, 12, Orc.elem (encT (List.getD p.paths i default)))]) fun x x_1 => Tree.fail 1000003 0
theorem t8gr (p : Payload) (i : Nat) : levL prog Proofs.Tryz.f8 3 (I8g p i) (T8gr p i) fin8g =
  Tree.br (decide ((↑i : Int) < (↑(List.length (List.map encT p.paths)) : Int)))
  (Tree.need ((0 : Int) ≤ (↑i : Int) ∧ (List.map encT p.paths)[i]? = some (encT (List.getD p.paths i default)))
  (Tree.need ((0 : Int) ≤ (↑i : Int) ∧ (List.map encT p.paths)[i]? = some (encT (List.getD p.paths i default)))
  (Tree.need (true = true ∧ cellsOk (List.map u32 (List.getD p.paths i default).provs) = true ∧ 0 + List.length (List.map u32 (List.getD p.paths i default).provs) ≤ 1000000)
  (Tree.need (List.length (List.map encTF (List.take i p.paths)) = i ∧ cellsOk (List.map encTF (List.take i p.paths)) = true ∧ true = true ∧ i + 1 ≤ 1000000)
  (Tree.done Exit.normal
  (LState.mk
  [(4, AVal.imm (IVal.v (Value.int IntKind.i64 (IntKind.wrap IntKind.i64 ((↑i : Int) + (1 : Int)))))), (3, AVal.ptr 11 0), (2, AVal.ptr 1 0),
  (1, AVal.ptr 0 0)]
  [(0, Entry.box 26 (AVal.imm (encL p))),
  (1, Entry.box 26 (AVal.imm (IVal.agg [IVal.v (Value.slice none 0 0), IVal.v (Value.slice none 0 0), IVal.v (Value.slice none 0 0)]))),
  (11, Entry.box 26 (AVal.agg [AVal.own 5 (List.length p.origins), AVal.own 50 (i + 1), AVal.own 9 (List.length p.keys)])),
  (5, Entry.row 68 6 (List.map encO p.origins)), (9, Entry.row 75 18 (List.map encK p.keys)),
  (50,
  Entry.row 57 2 (List.map encTF (List.take i p.paths) ++ [IVal.agg [u32 (List.getD p.paths i default).cust, IVal.sl true false 1 ([] ++ List.map u32 (List.getD p.paths i default).provs)]]))]
  42 89 []))))))
  (Tree.done (Exit.exit 0)
  (LState.mk [(3, AVal.ptr 11 0), (2, AVal.ptr 1 0)]
  [(1, Z34), (11, B8g p (AVal.own 50 i)), (5, Entry.row 68 6 (List.map encO p.origins)), (9, Entry.row 75 18 (List.map encK p.keys)),
  (50, Entry.row 57 2 (List.map encTF (List.take i p.paths)))]
  42 65 [])) := by kernel_rfl
def N8 (p : Payload) : List Entry := [.row 68 6 (p.origins.map encO), .row 57 2 (p.paths.map encT), .row 75 18 (p.keys.map encK)]
def R8 (p : Payload) : AVal := .agg [.own 0 p.origins.length, .own 1 p.paths.length, .own 2 p.keys.length]
def T8g (ls : Nat → Abs.Loc) (p : Payload) : Tell :=
  Tell.mk (fun r i => r == 1 && (i == 0 || i == 3 || i == 4 || i == 7)) (fun r i => if (r == 1 && (i == 3 || i == 7)) = true then Orc.apo else Orc.no)
  (fun x => Tree.done (Exit.exit 0) (E8g p)) (fun x => 0) (fun x => ([4, 3, 2, 1], [0, 1, 11, 5, 9]))
  (ogetO (fun r i => if (r == 1 && (i == 3 || i == 7)) = true then Orc.apo else Orc.no) []) fun x x_1 => Tree.done (Exit.exit 0) (E8g p)
theorem t8g (ls : Nat → Abs.Loc) (p : Payload) : levG prog Proofs.Tryz.f8 ls [] [] [.imm (encL p)] [] (N8 p) (R8 p) (T8g ls p) =
  Tree.need (cellsOk (List.map encO p.origins) = true ∧ List.length (List.map encO p.origins) ≤ 1000000)
  (Tree.need (cellsOk (List.map encK p.keys) = true ∧ List.length (List.map encK p.keys) ≤ 1000000)
  (Tree.loop 3
  (LState.mk [(4, AVal.imm (IVal.v (Value.int IntKind.i64 (0 : Int)))), (3, AVal.ptr 11 0), (2, AVal.ptr 1 0), (1, AVal.ptr 0 0)]
  [(0, Entry.box 26 (AVal.imm (encL p))),
  (1, Entry.box 26 (AVal.imm (IVal.agg [IVal.v (Value.slice none 0 0), IVal.v (Value.slice none 0 0), IVal.v (Value.slice none 0 0)]))),
  (11, Entry.box 26 (AVal.agg [AVal.own 5 (List.length (List.map encO p.origins)), AVal.imm (IVal.v (Value.slice none 0 0)), AVal.own 9 (List.length (List.map encK p.keys))])),
  (5, Entry.row 68 6 (List.map encO p.origins)), (9, Entry.row 75 18 (List.map encK p.keys))]
  42 14 [])
  (Tree.done (Exit.exit 0) (E8g p))
  (Tree.need
  (([] : List (Abs.Loc × Nat × AVal)) = [] ∧
  ELeL [Entry.row 68 6 (List.map encO p.origins), Entry.row 57 2 (List.map encTF p.paths), Entry.row 75 18 (List.map encK p.keys)] (N8 p) ∧
  ALe (AVal.agg [AVal.own 0 (List.length p.origins), AVal.own 1 (List.length p.paths), AVal.own 2 (List.length p.keys)]) (R8 p))
  (Tree.done Exit.ret lnil)))) := by kernel_rfl
theorem l8g (p : Payload) (hp : p.ok) (σ : LState) (h : LSub σ (I8g p 0)) : LoopOk prog [] (bodyOf Proofs.Tryz.f8) 3 σ (.done (.exit 0) (E8g p)) := by
  have hT := hp.t
  refine LoopOk.count p.paths.length 0 (I8g p) (E8g p) (T8gr p) fin8g (by kernel_rfl) h fun i hi => ?_
  rw [t8gr]
  refine ⟨fun h1 => need_sat (elem_need ?_) (need_sat (elem_need ?_) (need_sat ?_ (need_sat ?_ ?_))), fun h1 => ?_⟩
  · (refine ⟨by omega, ?_, ?_⟩ <;> (simp only [List.length_map, decide_eq_true_eq, decide_eq_false_iff_not, Int.toNat_natCast] at * <;> omega))
  · (refine ⟨by omega, ?_, ?_⟩ <;> (simp only [List.length_map, decide_eq_true_eq, decide_eq_false_iff_not, Int.toNat_natCast] at * <;> omega))
  · have := hp.p _ (getD_mem p.paths i (by (simp only [List.length_map, decide_eq_true_eq, decide_eq_false_iff_not, Int.toNat_natCast] at * <;> omega))); unfold okT at this
    exact ⟨rfl, cellsOk_map u32 (fun _ => rfl) _, by simpa using this⟩
  · have : i < p.paths.length := by (simp only [List.length_map, decide_eq_true_eq, decide_eq_false_iff_not, Int.toNat_natCast] at * <;> omega)
    exact ⟨by simp; omega, cellsOk_map encTF (fun _ => rfl) _, rfl, by omega⟩
  · have hlt : i < p.paths.length := by (simp only [List.length_map, decide_eq_true_eq, decide_eq_false_iff_not, Int.toNat_natCast] at * <;> omega)
    refine ⟨hlt, ⟨?_, rfl, rfl, rfl, trivial⟩, ⟨rfl, rfl, rfl, rfl, rfl, ?_, trivial⟩, rfl, rfl, rfl⟩
    · exact congrArg (fun n => AVal.imm (i64 n)) (i64_small hlt (by omega))
    · exact congrArg (fun l => some (Entry.row 57 2 l)) (take_succF p i hlt)
  · have : i = p.paths.length := by (simp only [List.length_map, decide_eq_true_eq, decide_eq_false_iff_not, Int.toNat_natCast] at * <;> omega)
    subst this
    refine ⟨rfl, by omega, ?_⟩
    simp [E8g, B8g, Z34, LSub, tsub, ssub, tl, sl, linT, linS, ainB, ainBL]
theorem g8 (p : Payload) (hp : p.ok) : GSpec prog 8 [] [] [.imm (encL p)] [] (N8 p) (R8 p) := by
  have h1 := hp.o; have h2 := hp.k
  refine GSpec.tree Proofs.Tryz.f8 (fun ls => T8g ls p) (by kernel_rfl) (by kernel_rfl) rfl fun ls => ?_
  rw [t8g]
  refine need_sat ?_ (need_sat ?_ ⟨?_, need_sat ?_ (trivial)⟩)
  · exact ⟨cellsOk_map encO (fun _ => rfl) _, by simp; omega⟩
  · exact ⟨cellsOk_map encK (fun _ => rfl) _, by simp; omega⟩
  · simp only [List.length_map]
    refine .nam (τ := I8g p 0) (.cell 11 1 50 57 2 (show 14 ≤ 50 by decide) (.sub ?_)) (l8g p hp _ ⟨⟨rfl, rfl, rfl, rfl, trivial⟩, ⟨rfl, rfl, rfl, rfl, rfl, rfl, trivial⟩, rfl, rfl, rfl⟩)
    exact ⟨⟨rfl, rfl, rfl, rfl, trivial⟩, ⟨rfl, rfl, rfl, rfl, rfl, rfl, trivial⟩, rfl, rfl, rfl⟩
  · exact ⟨rfl, ⟨.refl _, .row (ileL_map encTF_le _), .refl _, trivial⟩, .refl _⟩
end Gp
namespace Gp
def S31 (a b c : Nat) (x : List Origin) (y : List Attest) (z : List RKey) : List (Nat × Entry) := [(2, Z34), (8, .box 26 (.agg [.own 18 a, .own 25 b, .own 32 c])), (18, .row 68 6 (x.map encO)), (25, .row 57 2 (y.map encT)), (32, .row 75 18 (z.map encK))]
theorem swp_back {α : Type} [Inhabited α] (l : List α) (k : Nat) : Gp.swp l k (k + 1) = Gp.swp l (k + 1) k := by
  rw [Gp.swp, Gp.swp]; exact List.set_comm _ _ (by omega)
def J31O (a b c i j : Nat) (v : List Origin) (y : List Attest) (z : List RKey) : LState := { t := [(8, .imm (i64 j)), (7, .imm (i64 i)), (5, .ptr 8 0), (4, .ptr 2 0)], s := S31 a b c v y z, m := 174, n := 36 }
def I31O (a b c i : Nat) (v : List Origin) (y : List Attest) (z : List RKey) : LState := { t := [(7, .imm (i64 i)), (5, .ptr 8 0), (4, .ptr 2 0)], s := S31 a b c v y z, m := 174, n := 36 }
def E31O (a b c : Nat) (v : List Origin) (y : List Attest) (z : List RKey) : LState := { t := [(5, .ptr 8 0), (4, .ptr 2 0)], s := S31 a b c v y z, m := 174, n := 36 }
def finJ31O : Exit → Fin
  | .normal => ⟨[], [8, 7, 5, 4], [2, 8, 18, 25, 32]⟩
  | _ => ⟨[], [7, 5, 4], [2, 8, 18, 25, 32]⟩
def fin31O : Exit → Fin
  | .normal => ⟨[], [7, 5, 4], [2, 8, 18, 25, 32]⟩
  | _ => ⟨[], [5, 4], [2, 8, 18, 25, 32]⟩
def TJ31Or (a b c i j : Nat) (v : List Origin) (y : List Attest) (z : List RKey) : Tell :=
  Tell.mk (fun x x_1 => false) (fun x x_1 => Orc.no) (fun x => Tree.fail 1000003 0) (fun x => 0) (fun x => ([], []))
  (oget
  [(36, 10, 7, Orc.elem (encO (List.getD v j default))), (36, 10, 13, Orc.elem (encO (List.getD v (Int.toNat (IntKind.wrap IntKind.i64 ((↑j : Int) - (1 : Int)))) default))),
  (36, 10, 14,
  Orc.call [encO (List.getD v j default), encO (List.getD v (Int.toNat (IntKind.wrap IntKind.i64 ((↑j : Int) - (1 : Int)))) default)]
  (bo (befO (List.getD v j default) (List.getD v (Int.toNat (IntKind.wrap IntKind.i64 ((↑j : Int) - (1 : Int)))) default)))),
  (52, 12, 11, Orc.elem (encO (List.getD v j default))), (52, 12, 17, Orc.elem (encO (List.getD v (Int.toNat (IntKind.wrap IntKind.i64 ((↑j : Int) - (1 : Int)))) default))),
  (52, 12, 19, Orc.elem (IVal.tup [])), (52, 12, 21, Orc.elem (IVal.tup []))])
  fun x x_1 => Tree.fail 1000003 0
theorem tJ31Or (a b c i j : Nat) (v : List Origin) (y : List Attest) (z : List RKey) : levL prog Proofs.Tryz.f31 10 (J31O a b c i j v y z) (TJ31Or a b c i j v y z) finJ31O =
  Tree.br (decide ((0 : Int) < (↑j : Int)))
  (Tree.need ((0 : Int) ≤ (↑j : Int) ∧ j < a)
  (Tree.need ((List.map encO v)[j]? = some (encO (List.getD v j default)))
  (Tree.need ((0 : Int) ≤ IntKind.wrap IntKind.i64 ((↑j : Int) - (1 : Int)) ∧ Int.toNat (IntKind.wrap IntKind.i64 ((↑j : Int) - (1 : Int))) < a)
  (Tree.need ((List.map encO v)[Int.toNat (IntKind.wrap IntKind.i64 ((↑j : Int) - (1 : Int)))]? = some (encO (List.getD v (Int.toNat (IntKind.wrap IntKind.i64 ((↑j : Int) - (1 : Int)))) default)))
  (Tree.need
  (ILeL [encO (List.getD v j default), encO (List.getD v (Int.toNat (IntKind.wrap IntKind.i64 ((↑j : Int) - (1 : Int)))) default)]
  [encO (List.getD v j default), encO (List.getD v (Int.toNat (IntKind.wrap IntKind.i64 ((↑j : Int) - (1 : Int)))) default)] ∧
  ASpec prog 41 [encO (List.getD v j default), encO (List.getD v (Int.toNat (IntKind.wrap IntKind.i64 ((↑j : Int) - (1 : Int)))) default)]
  (bo (befO (List.getD v j default) (List.getD v (Int.toNat (IntKind.wrap IntKind.i64 ((↑j : Int) - (1 : Int)))) default))))
  (Tree.br (befO (List.getD v j default) (List.getD v (Int.toNat (IntKind.wrap IntKind.i64 ((↑j : Int) - (1 : Int)))) default))
  (Tree.need ((0 : Int) ≤ (↑j : Int) ∧ j < a)
  (Tree.need ((List.map encO v)[j]? = some (encO (List.getD v j default)))
  (Tree.need ((0 : Int) ≤ IntKind.wrap IntKind.i64 ((↑j : Int) - (1 : Int)) ∧ Int.toNat (IntKind.wrap IntKind.i64 ((↑j : Int) - (1 : Int))) < a)
  (Tree.need ((List.map encO v)[Int.toNat (IntKind.wrap IntKind.i64 ((↑j : Int) - (1 : Int)))]? = some (encO (List.getD v (Int.toNat (IntKind.wrap IntKind.i64 ((↑j : Int) - (1 : Int)))) default)))
  (Tree.need ((0 : Int) ≤ IntKind.wrap IntKind.i64 ((↑j : Int) - (1 : Int)) ∧ Int.toNat (IntKind.wrap IntKind.i64 ((↑j : Int) - (1 : Int))) < a)
  (Tree.need (Int.toNat (IntKind.wrap IntKind.i64 ((↑j : Int) - (1 : Int))) < List.length (List.map encO v))
  (Tree.need ((0 : Int) ≤ (↑j : Int) ∧ j < a)
  (Tree.need (j < List.length (List.set (List.map encO v) (Int.toNat (IntKind.wrap IntKind.i64 ((↑j : Int) - (1 : Int)))) (encO (List.getD v j default))))
  (Tree.done Exit.normal
  (LState.mk
  [(8, AVal.imm (IVal.v (Value.int IntKind.i64 (IntKind.wrap IntKind.i64 ((↑j : Int) - (1 : Int)))))), (7, AVal.imm (i64 (↑i : Int))), (5, AVal.ptr 8 0),
  (4, AVal.ptr 2 0)]
  [(2, Z34), (8, Entry.box 26 (AVal.agg [AVal.own 18 a, AVal.own 25 b, AVal.own 32 c])),
  (18,
  Entry.row 68 6
  (List.set (List.set (List.map encO v) (Int.toNat (IntKind.wrap IntKind.i64 ((↑j : Int) - (1 : Int)))) (encO (List.getD v j default))) j
  (encO (List.getD v (Int.toNat (IntKind.wrap IntKind.i64 ((↑j : Int) - (1 : Int)))) default)))),
  (25, Entry.row 57 2 (List.map encT y)), (32, Entry.row 75 18 (List.map encK z))]
  174 77 []))))))))))
  (Tree.done (Exit.exit 2)
  (LState.mk [(7, AVal.imm (i64 (↑i : Int))), (5, AVal.ptr 8 0), (4, AVal.ptr 2 0)]
  [(2, Z34), (8, Entry.box 26 (AVal.agg [AVal.own 18 a, AVal.own 25 b, AVal.own 32 c])), (18, Entry.row 68 6 (List.map encO v)),
  (25, Entry.row 57 2 (List.map encT y)), (32, Entry.row 75 18 (List.map encK z))]
  174 52 []))))))))
  (Tree.done (Exit.exit 2)
  (LState.mk [(7, AVal.imm (i64 (↑i : Int))), (5, AVal.ptr 8 0), (4, AVal.ptr 2 0)]
  [(2, Z34), (8, Entry.box 26 (AVal.agg [AVal.own 18 a, AVal.own 25 b, AVal.own 32 c])), (18, Entry.row 68 6 (List.map encO v)),
  (25, Entry.row 57 2 (List.map encT y)), (32, Entry.row 75 18 (List.map encK z))]
  174 52 [])) := by kernel_rfl
theorem lJ31O (a b c i j : Nat) (w : List Origin) (y : List Attest) (z : List RKey) (hj : j < w.length) (hn : w.length = a) (hl : a ≤ 2 ^ 61) (σ : LState) (h : LSub σ (J31O a b c i j w y z)) : LoopOk prog [] (bodyOf Proofs.Tryz.f31) 10 σ (.done (.exit 2) (I31O a b c i (insJ befO 0 j w) y z)) := by
  refine LoopOk.of_levL (γ := { g : Nat × List Origin // g.1 < g.2.length ∧ g.2.length = w.length ∧ insJ befO 0 g.1 g.2 = insJ befO 0 j w }) (fun g => TJ31Or a b c i g.1.1 g.1.2 y z) finJ31O (fun g => J31O a b c i g.1.1 g.1.2 y z) (fun g => g.1.1) ⟨(j, w), hj, rfl, rfl⟩ (by kernel_rfl) h ?_
  rintro ⟨⟨j, v⟩, q1, q2, q3⟩
  simp only at q1 q2 q3
  simp only []
  have e1 : 0 < j → IntKind.i64.wrap ((j : Int) - 1) = ((j - 1 : Nat) : Int) := fun h => by rw [IntWalk.i64_in _ (by omega)]; omega
  rw [tJ31Or]
  refine ⟨fun h1 => need_sat ?_ (need_sat (elem_need' ?_) (need_sat ?_ (need_sat (elem_need' ?_) (need_sat ⟨ILeL.refl _, c41 _ _⟩ ⟨fun h2 => need_sat ?_ (need_sat (elem_need' ?_) (need_sat ?_ (need_sat (elem_need' ?_) (need_sat ?_ (need_sat ?_ (need_sat ?_ (need_sat ?_ ?_))))))), fun h2 => ?_⟩)))), fun h1 => ?_⟩
  all_goals try first | omega | exact ⟨by omega, by omega⟩ | (rw [e1 (by simp at h1; omega)]; first | exact ⟨by omega, by omega⟩ | (simp; omega)) | (simp; omega)
  · have hj : 0 < j := by simp at h1; omega
    rw [e1 hj, Int.toNat_natCast] at h2 ⊢
    obtain ⟨k, rfl⟩ : ∃ k, j = k + 1 := ⟨j - 1, by omega⟩
    rw [insJ, if_pos ⟨hj, h2⟩] at q3
    refine ⟨⟨(k, swp v (k + 1) k), by simp only [swp_length]; omega, by simp only [swp_length]; omega, q3⟩, by simp only; omega, ?_⟩
    refine ⟨⟨rfl, rfl, rfl, rfl, trivial⟩, ⟨rfl, rfl, ?_, rfl, rfl, trivial⟩, rfl, rfl, rfl⟩
    refine congrArg (fun l => some (Entry.row 68 6 l)) ?_
    refine Eq.trans ?_ (congrArg (List.map encO) (swp_back v k))
    simp only [swp, List.map_set, Nat.add_sub_cancel]
  · have hj : 0 < j := by simp at h1; omega
    rw [e1 hj, Int.toNat_natCast] at h2
    obtain ⟨k, rfl⟩ : ∃ k, j = k + 1 := ⟨j - 1, by omega⟩
    rw [insJ, if_neg (fun hc => by have hc2 := hc.2; rw [show befO (v.getD (k + 1) default) (v.getD k default) = false from h2] at hc2; cases hc2)] at q3
    rw [← q3]
    exact ⟨rfl, ⟨rfl, rfl, rfl, trivial⟩, ⟨rfl, rfl, rfl, rfl, rfl, trivial⟩, rfl, rfl, rfl⟩
  · have q4 : insJ befO 0 j v = v := by
      cases j with
      | zero => rfl
      | succ k => rw [insJ, if_neg (fun hc => by simp at h1)]
    rw [q4] at q3
    rw [← q3]
    exact ⟨rfl, ⟨rfl, rfl, rfl, trivial⟩, ⟨rfl, rfl, rfl, rfl, rfl, trivial⟩, rfl, rfl, rfl⟩
def T31Or (a b c i : Nat) (v u : List Origin) (y : List Attest) (z : List RKey) : Tell :=
  Tell.mk (fun x x_1 => false) (fun x x_1 => Orc.no) (fun x => Tree.done (Exit.exit 2) (I31O a b c i u y z)) (fun x => 0)
  (fun x => ([8, 7, 5, 4], [2, 8, 18, 25, 32])) (fun x x_1 x_2 => Orc.no) fun x x_1 => Tree.done (Exit.exit 2) (I31O a b c i u y z)
theorem t31Or (a b c i : Nat) (v u : List Origin) (y : List Attest) (z : List RKey) : levL prog Proofs.Tryz.f31 7 (I31O a b c i v y z) (T31Or a b c i v u y z) fin31O =
  Tree.br (decide ((↑i : Int) < (↑a : Int)))
  (Tree.loop 10
  (LState.mk [(8, AVal.imm (i64 (↑i : Int))), (7, AVal.imm (i64 (↑i : Int))), (5, AVal.ptr 8 0), (4, AVal.ptr 2 0)]
  [(2, Z34), (8, Entry.box 26 (AVal.agg [AVal.own 18 a, AVal.own 25 b, AVal.own 32 c])), (18, Entry.row 68 6 (List.map encO v)),
  (25, Entry.row 57 2 (List.map encT y)), (32, Entry.row 75 18 (List.map encK z))]
  174 43 [])
  (Tree.done (Exit.exit 2) (I31O a b c i u y z))
  (Tree.done Exit.normal
  (LState.mk [(7, AVal.imm (IVal.v (Value.int IntKind.i64 (IntKind.wrap IntKind.i64 ((↑i : Int) + (1 : Int)))))), (5, AVal.ptr 8 0), (4, AVal.ptr 2 0)]
  [(2, Z34), (8, Entry.box 26 (AVal.agg [AVal.own 18 a, AVal.own 25 b, AVal.own 32 c])), (18, Entry.row 68 6 (List.map encO u)),
  (25, Entry.row 57 2 (List.map encT y)), (32, Entry.row 75 18 (List.map encK z))]
  174 39 [])))
  (Tree.done (Exit.exit 0)
  (LState.mk [(5, AVal.ptr 8 0), (4, AVal.ptr 2 0)]
  [(2, Z34), (8, Entry.box 26 (AVal.agg [AVal.own 18 a, AVal.own 25 b, AVal.own 32 c])), (18, Entry.row 68 6 (List.map encO v)),
  (25, Entry.row 57 2 (List.map encT y)), (32, Entry.row 75 18 (List.map encK z))]
  174 41 [])) := by kernel_rfl
theorem l31O (a b c : Nat) (l : List Origin) (y : List Attest) (z : List RKey) (hn : l.length = a) (hl : a ≤ 2 ^ 61) (σ : LState) (h : LSub σ (I31O a b c 1 l y z)) : LoopOk prog [] (bodyOf Proofs.Tryz.f31) 7 σ (.done (.exit 0) (E31O a b c (ins befO 0 a l) y z)) := by
  refine LoopOk.count (a - 1) 0 (fun n => I31O a b c (0 + 1 + n) (insR befO 0 l n) y z) (E31O a b c (ins befO 0 a l) y z) (fun n => T31Or a b c (0 + 1 + n) (insR befO 0 l n) (insR befO 0 l (n + 1)) y z) fin31O (by kernel_rfl) h fun n hn' => ?_
  rw [t31Or]
  refine ⟨fun h1 => ⟨?_, ?_⟩, fun h1 => ?_⟩
  · have hlt : 0 + 1 + n < a := by simp at h1; omega
    have hlen := insR_length befO 0 l n (by omega)
    exact lJ31O a b c (0 + 1 + n) (0 + 1 + n) _ y z (by omega) (by omega) hl _ ⟨⟨rfl, rfl, rfl, rfl, trivial⟩, ⟨rfl, rfl, rfl, rfl, rfl, trivial⟩, rfl, rfl, rfl⟩
  · have hlt : 0 + 1 + n < a := by simp at h1; omega
    refine ⟨by omega, ⟨?_, rfl, rfl, trivial⟩, ⟨rfl, rfl, rfl, rfl, rfl, trivial⟩, rfl, rfl, rfl⟩
    exact congrArg (fun n => AVal.imm (i64 n)) (by rw [IntWalk.i64_in _ (by omega)]; omega)
  · have hge : a ≤ 0 + 1 + n := by simp at h1; omega
    have : n = a - 1 := by omega
    subst this
    exact ⟨rfl, by omega, ⟨⟨rfl, rfl, trivial⟩, ⟨rfl, rfl, rfl, rfl, rfl, trivial⟩, rfl, rfl, rfl⟩⟩
def J31T (a b c i j : Nat) (v : List Attest) (x : List Origin) (z : List RKey) : LState := { t := [(10, .imm (i64 j)), (9, .imm (i64 i)), (5, .ptr 8 0), (4, .ptr 2 0)], s := S31 a b c x v z, m := 174, n := 36 }
def I31T (a b c i : Nat) (v : List Attest) (x : List Origin) (z : List RKey) : LState := { t := [(9, .imm (i64 i)), (5, .ptr 8 0), (4, .ptr 2 0)], s := S31 a b c x v z, m := 174, n := 36 }
def E31T (a b c : Nat) (v : List Attest) (x : List Origin) (z : List RKey) : LState := { t := [(5, .ptr 8 0), (4, .ptr 2 0)], s := S31 a b c x v z, m := 174, n := 36 }
def finJ31T : Exit → Fin
  | .normal => ⟨[], [10, 9, 5, 4], [2, 8, 18, 25, 32]⟩
  | _ => ⟨[], [9, 5, 4], [2, 8, 18, 25, 32]⟩
def fin31T : Exit → Fin
  | .normal => ⟨[], [9, 5, 4], [2, 8, 18, 25, 32]⟩
  | _ => ⟨[], [5, 4], [2, 8, 18, 25, 32]⟩
def TJ31Tr (a b c i j : Nat) (v : List Attest) (x : List Origin) (z : List RKey) : Tell :=
  Tell.mk (fun x x_1 => false) (fun x x_1 => Orc.no) (fun x => Tree.fail 1000003 0) (fun x => 0) (fun x => ([], []))
  (oget
  [(36, 17, 7, Orc.elem (encT (List.getD v j default))), (36, 17, 13, Orc.elem (encT (List.getD v (Int.toNat (IntKind.wrap IntKind.i64 ((↑j : Int) - (1 : Int)))) default))),
  (36, 17, 14,
  Orc.call [encT (List.getD v j default), encT (List.getD v (Int.toNat (IntKind.wrap IntKind.i64 ((↑j : Int) - (1 : Int)))) default)]
  (bo (decide ((List.getD v j default).cust < (List.getD v (Int.toNat (IntKind.wrap IntKind.i64 ((↑j : Int) - (1 : Int)))) default).cust)))),
  (52, 19, 11, Orc.elem (encT (List.getD v j default))), (52, 19, 17, Orc.elem (encT (List.getD v (Int.toNat (IntKind.wrap IntKind.i64 ((↑j : Int) - (1 : Int)))) default))),
  (52, 19, 19, Orc.elem (IVal.tup [])), (52, 19, 21, Orc.elem (IVal.tup []))])
  fun x x_1 => Tree.fail 1000003 0
theorem tJ31Tr (a b c i j : Nat) (v : List Attest) (x : List Origin) (z : List RKey) : levL prog Proofs.Tryz.f31 17 (J31T a b c i j v x z) (TJ31Tr a b c i j v x z) finJ31T =
  Tree.br (decide ((0 : Int) < (↑j : Int)))
  (Tree.need ((0 : Int) ≤ (↑j : Int) ∧ j < b)
  (Tree.need ((List.map encT v)[j]? = some (encT (List.getD v j default)))
  (Tree.need ((0 : Int) ≤ IntKind.wrap IntKind.i64 ((↑j : Int) - (1 : Int)) ∧ Int.toNat (IntKind.wrap IntKind.i64 ((↑j : Int) - (1 : Int))) < b)
  (Tree.need ((List.map encT v)[Int.toNat (IntKind.wrap IntKind.i64 ((↑j : Int) - (1 : Int)))]? = some (encT (List.getD v (Int.toNat (IntKind.wrap IntKind.i64 ((↑j : Int) - (1 : Int)))) default)))
  (Tree.need
  (ILeL [encT (List.getD v j default), encT (List.getD v (Int.toNat (IntKind.wrap IntKind.i64 ((↑j : Int) - (1 : Int)))) default)]
  [encT (List.getD v j default), encT (List.getD v (Int.toNat (IntKind.wrap IntKind.i64 ((↑j : Int) - (1 : Int)))) default)] ∧
  ASpec prog 43 [encT (List.getD v j default), encT (List.getD v (Int.toNat (IntKind.wrap IntKind.i64 ((↑j : Int) - (1 : Int)))) default)]
  (bo (decide ((List.getD v j default).cust < (List.getD v (Int.toNat (IntKind.wrap IntKind.i64 ((↑j : Int) - (1 : Int)))) default).cust))))
  (Tree.br (decide ((List.getD v j default).cust < (List.getD v (Int.toNat (IntKind.wrap IntKind.i64 ((↑j : Int) - (1 : Int)))) default).cust))
  (Tree.need ((0 : Int) ≤ (↑j : Int) ∧ j < b)
  (Tree.need ((List.map encT v)[j]? = some (encT (List.getD v j default)))
  (Tree.need ((0 : Int) ≤ IntKind.wrap IntKind.i64 ((↑j : Int) - (1 : Int)) ∧ Int.toNat (IntKind.wrap IntKind.i64 ((↑j : Int) - (1 : Int))) < b)
  (Tree.need ((List.map encT v)[Int.toNat (IntKind.wrap IntKind.i64 ((↑j : Int) - (1 : Int)))]? = some (encT (List.getD v (Int.toNat (IntKind.wrap IntKind.i64 ((↑j : Int) - (1 : Int)))) default)))
  (Tree.need ((0 : Int) ≤ IntKind.wrap IntKind.i64 ((↑j : Int) - (1 : Int)) ∧ Int.toNat (IntKind.wrap IntKind.i64 ((↑j : Int) - (1 : Int))) < b)
  (Tree.need (Int.toNat (IntKind.wrap IntKind.i64 ((↑j : Int) - (1 : Int))) < List.length (List.map encT v))
  (Tree.need ((0 : Int) ≤ (↑j : Int) ∧ j < b)
  (Tree.need (j < List.length (List.set (List.map encT v) (Int.toNat (IntKind.wrap IntKind.i64 ((↑j : Int) - (1 : Int)))) (encT (List.getD v j default))))
  (Tree.done Exit.normal
  (LState.mk
  [(10, AVal.imm (IVal.v (Value.int IntKind.i64 (IntKind.wrap IntKind.i64 ((↑j : Int) - (1 : Int)))))), (9, AVal.imm (i64 (↑i : Int))), (5, AVal.ptr 8 0),
  (4, AVal.ptr 2 0)]
  [(2, Z34), (8, Entry.box 26 (AVal.agg [AVal.own 18 a, AVal.own 25 b, AVal.own 32 c])), (18, Entry.row 68 6 (List.map encO x)),
  (25,
  Entry.row 57 2
  (List.set (List.set (List.map encT v) (Int.toNat (IntKind.wrap IntKind.i64 ((↑j : Int) - (1 : Int)))) (encT (List.getD v j default))) j
  (encT (List.getD v (Int.toNat (IntKind.wrap IntKind.i64 ((↑j : Int) - (1 : Int)))) default)))),
  (32, Entry.row 75 18 (List.map encK z))]
  174 77 []))))))))))
  (Tree.done (Exit.exit 6)
  (LState.mk [(9, AVal.imm (i64 (↑i : Int))), (5, AVal.ptr 8 0), (4, AVal.ptr 2 0)]
  [(2, Z34), (8, Entry.box 26 (AVal.agg [AVal.own 18 a, AVal.own 25 b, AVal.own 32 c])), (18, Entry.row 68 6 (List.map encO x)),
  (25, Entry.row 57 2 (List.map encT v)), (32, Entry.row 75 18 (List.map encK z))]
  174 52 []))))))))
  (Tree.done (Exit.exit 6)
  (LState.mk [(9, AVal.imm (i64 (↑i : Int))), (5, AVal.ptr 8 0), (4, AVal.ptr 2 0)]
  [(2, Z34), (8, Entry.box 26 (AVal.agg [AVal.own 18 a, AVal.own 25 b, AVal.own 32 c])), (18, Entry.row 68 6 (List.map encO x)),
  (25, Entry.row 57 2 (List.map encT v)), (32, Entry.row 75 18 (List.map encK z))]
  174 52 [])) := by kernel_rfl
theorem lJ31T (a b c i j : Nat) (w : List Attest) (x : List Origin) (z : List RKey) (hj : j < w.length) (hn : w.length = b) (hl : b ≤ 2 ^ 61) (σ : LState) (h : LSub σ (J31T a b c i j w x z)) : LoopOk prog [] (bodyOf Proofs.Tryz.f31) 17 σ (.done (.exit 6) (I31T a b c i (insJ befT 0 j w) x z)) := by
  refine LoopOk.of_levL (γ := { g : Nat × List Attest // g.1 < g.2.length ∧ g.2.length = w.length ∧ insJ befT 0 g.1 g.2 = insJ befT 0 j w }) (fun g => TJ31Tr a b c i g.1.1 g.1.2 x z) finJ31T (fun g => J31T a b c i g.1.1 g.1.2 x z) (fun g => g.1.1) ⟨(j, w), hj, rfl, rfl⟩ (by kernel_rfl) h ?_
  rintro ⟨⟨j, v⟩, q1, q2, q3⟩
  simp only at q1 q2 q3
  simp only []
  have e1 : 0 < j → IntKind.i64.wrap ((j : Int) - 1) = ((j - 1 : Nat) : Int) := fun h => by rw [IntWalk.i64_in _ (by omega)]; omega
  rw [tJ31Tr]
  refine ⟨fun h1 => need_sat ?_ (need_sat (elem_need' ?_) (need_sat ?_ (need_sat (elem_need' ?_) (need_sat ⟨ILeL.refl _, c43 _ _⟩ ⟨fun h2 => need_sat ?_ (need_sat (elem_need' ?_) (need_sat ?_ (need_sat (elem_need' ?_) (need_sat ?_ (need_sat ?_ (need_sat ?_ (need_sat ?_ ?_))))))), fun h2 => ?_⟩)))), fun h1 => ?_⟩
  all_goals try first | omega | exact ⟨by omega, by omega⟩ | (rw [e1 (by simp at h1; omega)]; first | exact ⟨by omega, by omega⟩ | (simp; omega)) | (simp; omega)
  · have hj : 0 < j := by simp at h1; omega
    rw [e1 hj, Int.toNat_natCast] at h2 ⊢
    obtain ⟨k, rfl⟩ : ∃ k, j = k + 1 := ⟨j - 1, by omega⟩
    rw [insJ, if_pos ⟨hj, h2⟩] at q3
    refine ⟨⟨(k, swp v (k + 1) k), by simp only [swp_length]; omega, by simp only [swp_length]; omega, q3⟩, by simp only; omega, ?_⟩
    refine ⟨⟨rfl, rfl, rfl, rfl, trivial⟩, ⟨rfl, rfl, rfl, ?_, rfl, trivial⟩, rfl, rfl, rfl⟩
    refine congrArg (fun l => some (Entry.row 57 2 l)) ?_
    refine Eq.trans ?_ (congrArg (List.map encT) (swp_back v k))
    simp only [swp, List.map_set, Nat.add_sub_cancel]
  · have hj : 0 < j := by simp at h1; omega
    rw [e1 hj, Int.toNat_natCast] at h2
    obtain ⟨k, rfl⟩ : ∃ k, j = k + 1 := ⟨j - 1, by omega⟩
    rw [insJ, if_neg (fun hc => by have hc2 := hc.2; rw [show befT (v.getD (k + 1) default) (v.getD k default) = false from h2] at hc2; cases hc2)] at q3
    rw [← q3]
    exact ⟨rfl, ⟨rfl, rfl, rfl, trivial⟩, ⟨rfl, rfl, rfl, rfl, rfl, trivial⟩, rfl, rfl, rfl⟩
  · have q4 : insJ befT 0 j v = v := by
      cases j with
      | zero => rfl
      | succ k => rw [insJ, if_neg (fun hc => by simp at h1)]
    rw [q4] at q3
    rw [← q3]
    exact ⟨rfl, ⟨rfl, rfl, rfl, trivial⟩, ⟨rfl, rfl, rfl, rfl, rfl, trivial⟩, rfl, rfl, rfl⟩
def T31Tr (a b c i : Nat) (v u : List Attest) (x : List Origin) (z : List RKey) : Tell :=
  Tell.mk (fun x x_1 => false) (fun x x_1 => Orc.no) (fun x_1 => Tree.done (Exit.exit 6) (I31T a b c i u x z)) (fun x => 0)
  (fun x => ([10, 9, 5, 4], [2, 8, 18, 25, 32])) (fun x x_1 x_2 => Orc.no) fun x_1 x_2 => Tree.done (Exit.exit 6) (I31T a b c i u x z)
theorem t31Tr (a b c i : Nat) (v u : List Attest) (x : List Origin) (z : List RKey) : levL prog Proofs.Tryz.f31 14 (I31T a b c i v x z) (T31Tr a b c i v u x z) fin31T =
  Tree.br (decide ((↑i : Int) < (↑b : Int)))
  (Tree.loop 17
  (LState.mk [(10, AVal.imm (i64 (↑i : Int))), (9, AVal.imm (i64 (↑i : Int))), (5, AVal.ptr 8 0), (4, AVal.ptr 2 0)]
  [(2, Z34), (8, Entry.box 26 (AVal.agg [AVal.own 18 a, AVal.own 25 b, AVal.own 32 c])), (18, Entry.row 68 6 (List.map encO x)),
  (25, Entry.row 57 2 (List.map encT v)), (32, Entry.row 75 18 (List.map encK z))]
  174 43 [])
  (Tree.done (Exit.exit 6) (I31T a b c i u x z))
  (Tree.done Exit.normal
  (LState.mk [(9, AVal.imm (IVal.v (Value.int IntKind.i64 (IntKind.wrap IntKind.i64 ((↑i : Int) + (1 : Int)))))), (5, AVal.ptr 8 0), (4, AVal.ptr 2 0)]
  [(2, Z34), (8, Entry.box 26 (AVal.agg [AVal.own 18 a, AVal.own 25 b, AVal.own 32 c])), (18, Entry.row 68 6 (List.map encO x)),
  (25, Entry.row 57 2 (List.map encT u)), (32, Entry.row 75 18 (List.map encK z))]
  174 39 [])))
  (Tree.done (Exit.exit 4)
  (LState.mk [(5, AVal.ptr 8 0), (4, AVal.ptr 2 0)]
  [(2, Z34), (8, Entry.box 26 (AVal.agg [AVal.own 18 a, AVal.own 25 b, AVal.own 32 c])), (18, Entry.row 68 6 (List.map encO x)),
  (25, Entry.row 57 2 (List.map encT v)), (32, Entry.row 75 18 (List.map encK z))]
  174 41 [])) := by kernel_rfl
theorem l31T (a b c : Nat) (l : List Attest) (x : List Origin) (z : List RKey) (hn : l.length = b) (hl : b ≤ 2 ^ 61) (σ : LState) (h : LSub σ (I31T a b c 1 l x z)) : LoopOk prog [] (bodyOf Proofs.Tryz.f31) 14 σ (.done (.exit 4) (E31T a b c (ins befT 0 b l) x z)) := by
  refine LoopOk.count (b - 1) 4 (fun n => I31T a b c (0 + 1 + n) (insR befT 0 l n) x z) (E31T a b c (ins befT 0 b l) x z) (fun n => T31Tr a b c (0 + 1 + n) (insR befT 0 l n) (insR befT 0 l (n + 1)) x z) fin31T (by kernel_rfl) h fun n hn' => ?_
  rw [t31Tr]
  refine ⟨fun h1 => ⟨?_, ?_⟩, fun h1 => ?_⟩
  · have hlt : 0 + 1 + n < b := by simp at h1; omega
    have hlen := insR_length befT 0 l n (by omega)
    exact lJ31T a b c (0 + 1 + n) (0 + 1 + n) _ x z (by omega) (by omega) hl _ ⟨⟨rfl, rfl, rfl, rfl, trivial⟩, ⟨rfl, rfl, rfl, rfl, rfl, trivial⟩, rfl, rfl, rfl⟩
  · have hlt : 0 + 1 + n < b := by simp at h1; omega
    refine ⟨by omega, ⟨?_, rfl, rfl, trivial⟩, ⟨rfl, rfl, rfl, rfl, rfl, trivial⟩, rfl, rfl, rfl⟩
    exact congrArg (fun n => AVal.imm (i64 n)) (by rw [IntWalk.i64_in _ (by omega)]; omega)
  · have hge : b ≤ 0 + 1 + n := by simp at h1; omega
    have : n = b - 1 := by omega
    subst this
    exact ⟨rfl, by omega, ⟨⟨rfl, rfl, trivial⟩, ⟨rfl, rfl, rfl, rfl, rfl, trivial⟩, rfl, rfl, rfl⟩⟩
def J31K (a b c i j : Nat) (v : List RKey) (x : List Origin) (y : List Attest) : LState := { t := [(12, .imm (i64 j)), (11, .imm (i64 i)), (5, .ptr 8 0), (4, .ptr 2 0)], s := S31 a b c x y v, m := 174, n := 36 }
def I31K (a b c i : Nat) (v : List RKey) (x : List Origin) (y : List Attest) : LState := { t := [(11, .imm (i64 i)), (5, .ptr 8 0), (4, .ptr 2 0)], s := S31 a b c x y v, m := 174, n := 36 }
def E31K (a b c : Nat) (v : List RKey) (x : List Origin) (y : List Attest) : LState := { t := [(5, .ptr 8 0), (4, .ptr 2 0)], s := S31 a b c x y v, m := 174, n := 36 }
def finJ31K : Exit → Fin
  | .normal => ⟨[], [12, 11, 5, 4], [2, 8, 18, 25, 32]⟩
  | _ => ⟨[], [11, 5, 4], [2, 8, 18, 25, 32]⟩
def fin31K : Exit → Fin
  | .normal => ⟨[], [11, 5, 4], [2, 8, 18, 25, 32]⟩
  | _ => ⟨[], [5, 4], [2, 8, 18, 25, 32]⟩
def TJ31Kr (a b c i j : Nat) (v : List RKey) (x : List Origin) (y : List Attest) : Tell :=
  Tell.mk (fun x x_1 => false) (fun x x_1 => Orc.no) (fun x => Tree.fail 1000003 0) (fun x => 0) (fun x => ([], []))
  (oget
  [(36, 24, 7, Orc.elem (encK (List.getD v j default))), (36, 24, 13, Orc.elem (encK (List.getD v (Int.toNat (IntKind.wrap IntKind.i64 ((↑j : Int) - (1 : Int)))) default))),
  (36, 24, 14,
  Orc.call [encK (List.getD v j default), encK (List.getD v (Int.toNat (IntKind.wrap IntKind.i64 ((↑j : Int) - (1 : Int)))) default)]
  (bo (befK (List.getD v j default) (List.getD v (Int.toNat (IntKind.wrap IntKind.i64 ((↑j : Int) - (1 : Int)))) default)))),
  (52, 26, 11, Orc.elem (encK (List.getD v j default))), (52, 26, 17, Orc.elem (encK (List.getD v (Int.toNat (IntKind.wrap IntKind.i64 ((↑j : Int) - (1 : Int)))) default))),
  (52, 26, 19, Orc.elem (IVal.tup [])), (52, 26, 21, Orc.elem (IVal.tup []))])
  fun x x_1 => Tree.fail 1000003 0
theorem tJ31Kr (a b c i j : Nat) (v : List RKey) (x : List Origin) (y : List Attest) : levL prog Proofs.Tryz.f31 24 (J31K a b c i j v x y) (TJ31Kr a b c i j v x y) finJ31K =
  Tree.br (decide ((0 : Int) < (↑j : Int)))
  (Tree.need ((0 : Int) ≤ (↑j : Int) ∧ j < c)
  (Tree.need ((List.map encK v)[j]? = some (encK (List.getD v j default)))
  (Tree.need ((0 : Int) ≤ IntKind.wrap IntKind.i64 ((↑j : Int) - (1 : Int)) ∧ Int.toNat (IntKind.wrap IntKind.i64 ((↑j : Int) - (1 : Int))) < c)
  (Tree.need ((List.map encK v)[Int.toNat (IntKind.wrap IntKind.i64 ((↑j : Int) - (1 : Int)))]? = some (encK (List.getD v (Int.toNat (IntKind.wrap IntKind.i64 ((↑j : Int) - (1 : Int)))) default)))
  (Tree.need
  (ILeL [encK (List.getD v j default), encK (List.getD v (Int.toNat (IntKind.wrap IntKind.i64 ((↑j : Int) - (1 : Int)))) default)]
  [encK (List.getD v j default), encK (List.getD v (Int.toNat (IntKind.wrap IntKind.i64 ((↑j : Int) - (1 : Int)))) default)] ∧
  ASpec prog 44 [encK (List.getD v j default), encK (List.getD v (Int.toNat (IntKind.wrap IntKind.i64 ((↑j : Int) - (1 : Int)))) default)]
  (bo (befK (List.getD v j default) (List.getD v (Int.toNat (IntKind.wrap IntKind.i64 ((↑j : Int) - (1 : Int)))) default))))
  (Tree.br (befK (List.getD v j default) (List.getD v (Int.toNat (IntKind.wrap IntKind.i64 ((↑j : Int) - (1 : Int)))) default))
  (Tree.need ((0 : Int) ≤ (↑j : Int) ∧ j < c)
  (Tree.need ((List.map encK v)[j]? = some (encK (List.getD v j default)))
  (Tree.need ((0 : Int) ≤ IntKind.wrap IntKind.i64 ((↑j : Int) - (1 : Int)) ∧ Int.toNat (IntKind.wrap IntKind.i64 ((↑j : Int) - (1 : Int))) < c)
  (Tree.need ((List.map encK v)[Int.toNat (IntKind.wrap IntKind.i64 ((↑j : Int) - (1 : Int)))]? = some (encK (List.getD v (Int.toNat (IntKind.wrap IntKind.i64 ((↑j : Int) - (1 : Int)))) default)))
  (Tree.need ((0 : Int) ≤ IntKind.wrap IntKind.i64 ((↑j : Int) - (1 : Int)) ∧ Int.toNat (IntKind.wrap IntKind.i64 ((↑j : Int) - (1 : Int))) < c)
  (Tree.need (Int.toNat (IntKind.wrap IntKind.i64 ((↑j : Int) - (1 : Int))) < List.length (List.map encK v))
  (Tree.need ((0 : Int) ≤ (↑j : Int) ∧ j < c)
  (Tree.need (j < List.length (List.set (List.map encK v) (Int.toNat (IntKind.wrap IntKind.i64 ((↑j : Int) - (1 : Int)))) (encK (List.getD v j default))))
  (Tree.done Exit.normal
  (LState.mk
  [(12, AVal.imm (IVal.v (Value.int IntKind.i64 (IntKind.wrap IntKind.i64 ((↑j : Int) - (1 : Int)))))), (11, AVal.imm (i64 (↑i : Int))), (5, AVal.ptr 8 0),
  (4, AVal.ptr 2 0)]
  [(2, Z34), (8, Entry.box 26 (AVal.agg [AVal.own 18 a, AVal.own 25 b, AVal.own 32 c])), (18, Entry.row 68 6 (List.map encO x)),
  (25, Entry.row 57 2 (List.map encT y)),
  (32,
  Entry.row 75 18
  (List.set (List.set (List.map encK v) (Int.toNat (IntKind.wrap IntKind.i64 ((↑j : Int) - (1 : Int)))) (encK (List.getD v j default))) j
  (encK (List.getD v (Int.toNat (IntKind.wrap IntKind.i64 ((↑j : Int) - (1 : Int)))) default))))]
  174 77 []))))))))))
  (Tree.done (Exit.exit 10)
  (LState.mk [(11, AVal.imm (i64 (↑i : Int))), (5, AVal.ptr 8 0), (4, AVal.ptr 2 0)]
  [(2, Z34), (8, Entry.box 26 (AVal.agg [AVal.own 18 a, AVal.own 25 b, AVal.own 32 c])), (18, Entry.row 68 6 (List.map encO x)),
  (25, Entry.row 57 2 (List.map encT y)), (32, Entry.row 75 18 (List.map encK v))]
  174 52 []))))))))
  (Tree.done (Exit.exit 10)
  (LState.mk [(11, AVal.imm (i64 (↑i : Int))), (5, AVal.ptr 8 0), (4, AVal.ptr 2 0)]
  [(2, Z34), (8, Entry.box 26 (AVal.agg [AVal.own 18 a, AVal.own 25 b, AVal.own 32 c])), (18, Entry.row 68 6 (List.map encO x)),
  (25, Entry.row 57 2 (List.map encT y)), (32, Entry.row 75 18 (List.map encK v))]
  174 52 [])) := by kernel_rfl
theorem lJ31K (a b c i j : Nat) (w : List RKey) (x : List Origin) (y : List Attest) (hj : j < w.length) (hn : w.length = c) (hl : c ≤ 2 ^ 61) (σ : LState) (h : LSub σ (J31K a b c i j w x y)) : LoopOk prog [] (bodyOf Proofs.Tryz.f31) 24 σ (.done (.exit 10) (I31K a b c i (insJ befK 0 j w) x y)) := by
  refine LoopOk.of_levL (γ := { g : Nat × List RKey // g.1 < g.2.length ∧ g.2.length = w.length ∧ insJ befK 0 g.1 g.2 = insJ befK 0 j w }) (fun g => TJ31Kr a b c i g.1.1 g.1.2 x y) finJ31K (fun g => J31K a b c i g.1.1 g.1.2 x y) (fun g => g.1.1) ⟨(j, w), hj, rfl, rfl⟩ (by kernel_rfl) h ?_
  rintro ⟨⟨j, v⟩, q1, q2, q3⟩
  simp only at q1 q2 q3
  simp only []
  have e1 : 0 < j → IntKind.i64.wrap ((j : Int) - 1) = ((j - 1 : Nat) : Int) := fun h => by rw [IntWalk.i64_in _ (by omega)]; omega
  rw [tJ31Kr]
  refine ⟨fun h1 => need_sat ?_ (need_sat (elem_need' ?_) (need_sat ?_ (need_sat (elem_need' ?_) (need_sat ⟨ILeL.refl _, c44 _ _⟩ ⟨fun h2 => need_sat ?_ (need_sat (elem_need' ?_) (need_sat ?_ (need_sat (elem_need' ?_) (need_sat ?_ (need_sat ?_ (need_sat ?_ (need_sat ?_ ?_))))))), fun h2 => ?_⟩)))), fun h1 => ?_⟩
  all_goals try first | omega | exact ⟨by omega, by omega⟩ | (rw [e1 (by simp at h1; omega)]; first | exact ⟨by omega, by omega⟩ | (simp; omega)) | (simp; omega)
  · have hj : 0 < j := by simp at h1; omega
    rw [e1 hj, Int.toNat_natCast] at h2 ⊢
    obtain ⟨k, rfl⟩ : ∃ k, j = k + 1 := ⟨j - 1, by omega⟩
    rw [insJ, if_pos ⟨hj, h2⟩] at q3
    refine ⟨⟨(k, swp v (k + 1) k), by simp only [swp_length]; omega, by simp only [swp_length]; omega, q3⟩, by simp only; omega, ?_⟩
    refine ⟨⟨rfl, rfl, rfl, rfl, trivial⟩, ⟨rfl, rfl, rfl, rfl, ?_, trivial⟩, rfl, rfl, rfl⟩
    refine congrArg (fun l => some (Entry.row 75 18 l)) ?_
    refine Eq.trans ?_ (congrArg (List.map encK) (swp_back v k))
    simp only [swp, List.map_set, Nat.add_sub_cancel]
  · have hj : 0 < j := by simp at h1; omega
    rw [e1 hj, Int.toNat_natCast] at h2
    obtain ⟨k, rfl⟩ : ∃ k, j = k + 1 := ⟨j - 1, by omega⟩
    rw [insJ, if_neg (fun hc => by have hc2 := hc.2; rw [show befK (v.getD (k + 1) default) (v.getD k default) = false from h2] at hc2; cases hc2)] at q3
    rw [← q3]
    exact ⟨rfl, ⟨rfl, rfl, rfl, trivial⟩, ⟨rfl, rfl, rfl, rfl, rfl, trivial⟩, rfl, rfl, rfl⟩
  · have q4 : insJ befK 0 j v = v := by
      cases j with
      | zero => rfl
      | succ k => rw [insJ, if_neg (fun hc => by simp at h1)]
    rw [q4] at q3
    rw [← q3]
    exact ⟨rfl, ⟨rfl, rfl, rfl, trivial⟩, ⟨rfl, rfl, rfl, rfl, rfl, trivial⟩, rfl, rfl, rfl⟩
def T31Kr (a b c i : Nat) (v u : List RKey) (x : List Origin) (y : List Attest) : Tell :=
  Tell.mk (fun x x_1 => false) (fun x x_1 => Orc.no) (fun x_1 => Tree.done (Exit.exit 10) (I31K a b c i u x y)) (fun x => 0)
  (fun x => ([12, 11, 5, 4], [2, 8, 18, 25, 32])) (fun x x_1 x_2 => Orc.no) fun x_1 x_2 => Tree.done (Exit.exit 10) (I31K a b c i u x y)
theorem t31Kr (a b c i : Nat) (v u : List RKey) (x : List Origin) (y : List Attest) : levL prog Proofs.Tryz.f31 21 (I31K a b c i v x y) (T31Kr a b c i v u x y) fin31K =
  Tree.br (decide ((↑i : Int) < (↑c : Int)))
  (Tree.loop 24
  (LState.mk [(12, AVal.imm (i64 (↑i : Int))), (11, AVal.imm (i64 (↑i : Int))), (5, AVal.ptr 8 0), (4, AVal.ptr 2 0)]
  [(2, Z34), (8, Entry.box 26 (AVal.agg [AVal.own 18 a, AVal.own 25 b, AVal.own 32 c])), (18, Entry.row 68 6 (List.map encO x)),
  (25, Entry.row 57 2 (List.map encT y)), (32, Entry.row 75 18 (List.map encK v))]
  174 43 [])
  (Tree.done (Exit.exit 10) (I31K a b c i u x y))
  (Tree.done Exit.normal
  (LState.mk [(11, AVal.imm (IVal.v (Value.int IntKind.i64 (IntKind.wrap IntKind.i64 ((↑i : Int) + (1 : Int)))))), (5, AVal.ptr 8 0), (4, AVal.ptr 2 0)]
  [(2, Z34), (8, Entry.box 26 (AVal.agg [AVal.own 18 a, AVal.own 25 b, AVal.own 32 c])), (18, Entry.row 68 6 (List.map encO x)),
  (25, Entry.row 57 2 (List.map encT y)), (32, Entry.row 75 18 (List.map encK u))]
  174 39 [])))
  (Tree.done (Exit.exit 8)
  (LState.mk [(5, AVal.ptr 8 0), (4, AVal.ptr 2 0)]
  [(2, Z34), (8, Entry.box 26 (AVal.agg [AVal.own 18 a, AVal.own 25 b, AVal.own 32 c])), (18, Entry.row 68 6 (List.map encO x)),
  (25, Entry.row 57 2 (List.map encT y)), (32, Entry.row 75 18 (List.map encK v))]
  174 41 [])) := by kernel_rfl
theorem l31K (a b c : Nat) (l : List RKey) (x : List Origin) (y : List Attest) (hn : l.length = c) (hl : c ≤ 2 ^ 61) (σ : LState) (h : LSub σ (I31K a b c 1 l x y)) : LoopOk prog [] (bodyOf Proofs.Tryz.f31) 21 σ (.done (.exit 8) (E31K a b c (ins befK 0 c l) x y)) := by
  refine LoopOk.count (c - 1) 8 (fun n => I31K a b c (0 + 1 + n) (insR befK 0 l n) x y) (E31K a b c (ins befK 0 c l) x y) (fun n => T31Kr a b c (0 + 1 + n) (insR befK 0 l n) (insR befK 0 l (n + 1)) x y) fin31K (by kernel_rfl) h fun n hn' => ?_
  rw [t31Kr]
  refine ⟨fun h1 => ⟨?_, ?_⟩, fun h1 => ?_⟩
  · have hlt : 0 + 1 + n < c := by simp at h1; omega
    have hlen := insR_length befK 0 l n (by omega)
    exact lJ31K a b c (0 + 1 + n) (0 + 1 + n) _ x y (by omega) (by omega) hl _ ⟨⟨rfl, rfl, rfl, rfl, trivial⟩, ⟨rfl, rfl, rfl, rfl, rfl, trivial⟩, rfl, rfl, rfl⟩
  · have hlt : 0 + 1 + n < c := by simp at h1; omega
    refine ⟨by omega, ⟨?_, rfl, rfl, trivial⟩, ⟨rfl, rfl, rfl, rfl, rfl, trivial⟩, rfl, rfl, rfl⟩
    exact congrArg (fun n => AVal.imm (i64 n)) (by rw [IntWalk.i64_in _ (by omega)]; omega)
  · have hge : c ≤ 0 + 1 + n := by simp at h1; omega
    have : n = c - 1 := by omega
    subst this
    exact ⟨rfl, by omega, ⟨⟨rfl, rfl, trivial⟩, ⟨rfl, rfl, rfl, rfl, rfl, trivial⟩, rfl, rfl, rfl⟩⟩
end Gp
namespace Gp
def plusR (a b : Payload) : Payload := ⟨ins befO 0 (a.origins.length + b.origins.length) (a.origins ++ b.origins), ins befT 0 (a.paths.length + b.paths.length) (a.paths ++ b.paths), ins befK 0 (a.keys.length + b.keys.length) (a.keys ++ b.keys)⟩
def T31 (a b : Payload) : Tell :=
  Tell.mk (fun x x_1 => false) (fun r i => if (r == 1 && i == 1) = true then Orc.callg [] 0 [AVal.imm (encL a)] [] (N8 a) (R8 a) else Orc.no)
  (fun k =>
  match k with
  | 7 =>
  Tree.done (Exit.exit 0) (E31O (List.length a.origins + List.length b.origins) (List.length a.paths + List.length b.paths) (List.length a.keys + List.length b.keys) (plusR a b).origins (a.paths ++ b.paths) (a.keys ++ b.keys))
  | 14 =>
  Tree.done (Exit.exit 4) (E31T (List.length a.origins + List.length b.origins) (List.length a.paths + List.length b.paths) (List.length a.keys + List.length b.keys) (plusR a b).paths (plusR a b).origins (a.keys ++ b.keys))
  | x => Tree.done (Exit.exit 8) (E31K (List.length a.origins + List.length b.origins) (List.length a.paths + List.length b.paths) (List.length a.keys + List.length b.keys) (plusR a b).keys (plusR a b).origins (plusR a b).paths))
  (fun x => 0)
  (fun k =>
  match k with
  | 7 => ([7, 5, 4], [2, 8, 18, 25, 32])
  | 14 => ([9, 5, 4], [2, 8, 18, 25, 32])
  | x => ([11, 5, 4], [2, 8, 18, 25, 32]))
  (ogetO (fun r i => if (r == 1 && i == 1) = true then Orc.callg [] 0 [AVal.imm (encL a)] [] (N8 a) (R8 a) else Orc.no) [(10, 2, 1, Orc.call [encL b] (encL b))]) fun x k =>
  match k with
  | 7 =>
  Tree.done (Exit.exit 0) (E31O (List.length a.origins + List.length b.origins) (List.length a.paths + List.length b.paths) (List.length a.keys + List.length b.keys) (plusR a b).origins (a.paths ++ b.paths) (a.keys ++ b.keys))
  | 14 =>
  Tree.done (Exit.exit 4) (E31T (List.length a.origins + List.length b.origins) (List.length a.paths + List.length b.paths) (List.length a.keys + List.length b.keys) (plusR a b).paths (plusR a b).origins (a.keys ++ b.keys))
  | x => Tree.done (Exit.exit 8) (E31K (List.length a.origins + List.length b.origins) (List.length a.paths + List.length b.paths) (List.length a.keys + List.length b.keys) (plusR a b).keys (plusR a b).origins (plusR a b).paths)
theorem t31 (a b : Payload) : levF prog Proofs.Tryz.f31 [encL a, encL b] (T31 a b) =
  Tree.need (ALeL [AVal.imm (encL a)] [AVal.imm (encL a)] ∧ GSpec prog 8 [] [] [AVal.imm (encL a)] [] (N8 a) (R8 a))
  (Tree.need (ILeL [encL b] [encL b] ∧ ASpec prog 8 [encL b] (encL b))
  (Tree.need
  (List.length (List.map encO a.origins) = List.length a.origins ∧ cellsOk (List.map encO a.origins) = true ∧ cellsOk (List.map encO b.origins) = true ∧ List.length a.origins + List.length (List.map encO b.origins) ≤ 1000000)
  (Tree.need (List.length (List.map encT a.paths) = List.length a.paths ∧ cellsOk (List.map encT a.paths) = true ∧ cellsOk (List.map encT b.paths) = true ∧ List.length a.paths + List.length (List.map encT b.paths) ≤ 1000000)
  (Tree.need (List.length (List.map encK a.keys) = List.length a.keys ∧ cellsOk (List.map encK a.keys) = true ∧ cellsOk (List.map encK b.keys) = true ∧ List.length a.keys + List.length (List.map encK b.keys) ≤ 1000000)
  (Tree.loop 7
  (LState.mk [(7, AVal.imm (IVal.v (Value.int IntKind.i64 (1 : Int)))), (5, AVal.ptr 8 0), (4, AVal.ptr 2 0)]
  [(2, Entry.box 26 (AVal.imm (IVal.agg [IVal.v (Value.slice none 0 0), IVal.v (Value.slice none 0 0), IVal.v (Value.slice none 0 0)]))),
  (8,
  Entry.box 26
  (AVal.agg
  [AVal.own 18 (List.length a.origins + List.length (List.map encO b.origins)), AVal.own 25 (List.length a.paths + List.length (List.map encT b.paths)),
  AVal.own 32 (List.length a.keys + List.length (List.map encK b.keys))])),
  (18, Entry.row 68 6 (List.map encO a.origins ++ List.map encO b.origins)), (25, Entry.row 57 2 (List.map encT a.paths ++ List.map encT b.paths)),
  (32, Entry.row 75 18 (List.map encK a.keys ++ List.map encK b.keys))]
  174 36 [])
  (Tree.done (Exit.exit 0)
  (E31O (List.length a.origins + List.length b.origins) (List.length a.paths + List.length b.paths) (List.length a.keys + List.length b.keys) (plusR a b).origins (a.paths ++ b.paths) (a.keys ++ b.keys)))
  (Tree.loop 14
  (LState.mk [(9, AVal.imm (IVal.v (Value.int IntKind.i64 (1 : Int)))), (5, AVal.ptr 8 0), (4, AVal.ptr 2 0)]
  [(2, Z34),
  (8,
  Entry.box 26
  (AVal.agg [AVal.own 18 (List.length a.origins + List.length b.origins), AVal.own 25 (List.length a.paths + List.length b.paths), AVal.own 32 (List.length a.keys + List.length b.keys)])),
  (18, Entry.row 68 6 (List.map encO (plusR a b).origins)), (25, Entry.row 57 2 (List.map encT (a.paths ++ b.paths))),
  (32, Entry.row 75 18 (List.map encK (a.keys ++ b.keys)))]
  174 37 [])
  (Tree.done (Exit.exit 4)
  (E31T (List.length a.origins + List.length b.origins) (List.length a.paths + List.length b.paths) (List.length a.keys + List.length b.keys) (plusR a b).paths (plusR a b).origins (a.keys ++ b.keys)))
  (Tree.loop 21
  (LState.mk [(11, AVal.imm (IVal.v (Value.int IntKind.i64 (1 : Int)))), (5, AVal.ptr 8 0), (4, AVal.ptr 2 0)]
  [(2, Z34),
  (8,
  Entry.box 26
  (AVal.agg [AVal.own 18 (List.length a.origins + List.length b.origins), AVal.own 25 (List.length a.paths + List.length b.paths), AVal.own 32 (List.length a.keys + List.length b.keys)])),
  (18, Entry.row 68 6 (List.map encO (plusR a b).origins)), (25, Entry.row 57 2 (List.map encT (plusR a b).paths)),
  (32, Entry.row 75 18 (List.map encK (a.keys ++ b.keys)))]
  174 37 [])
  (Tree.done (Exit.exit 8)
  (E31K (List.length a.origins + List.length b.origins) (List.length a.paths + List.length b.paths) (List.length a.keys + List.length b.keys) (plusR a b).keys (plusR a b).origins (plusR a b).paths))
  (Tree.need
  (eqs
  [(List.length a.origins + List.length b.origins, List.length (List.map encO (plusR a b).origins)), (List.length a.paths + List.length b.paths, List.length (List.map encT (plusR a b).paths)),
  (List.length a.keys + List.length b.keys, List.length (List.map encK (plusR a b).keys))])
  (Tree.done Exit.ret
  (lret
  (IVal.agg [IVal.sl true false 6 (List.map encO (plusR a b).origins), IVal.sl true false 2 (List.map encT (plusR a b).paths), IVal.sl true false 18 (List.map encK (plusR a b).keys)]))))))))))) := by kernel_rfl
theorem ins_len2 {α : Type} [Inhabited α] (od : α → α → Bool) (a b : List α) : (ins od 0 (a.length + b.length) (a ++ b)).length = a.length + b.length := by
  rw [ins_length _ _ _ _ (by simp)]; simp
theorem c31 (a b : Payload) (ha : a.sm) (hb : b.sm) : ASpec prog 31 [encL a, encL b] (encL (plusR a b)) := by
  have a1 := ha.o; have a2 := ha.t; have a3 := ha.k; have b1 := hb.o; have b2 := hb.t; have b3 := hb.k
  refine ASpec.treeW Proofs.Tryz.f31 (T31 a b) (by kernel_rfl) (by kernel_rfl) (t31 a b) ?_
  refine need_sat ⟨ALeL.refl _, g8 _ ?_⟩ (need_sat ⟨ILeL.refl _, c8 _ ?_⟩ (need_sat ?_ (need_sat ?_ (need_sat ?_ ⟨?_, ⟨?_, ⟨?_, need_sat ?_ ⟨_, rfl, ?_⟩⟩⟩⟩))))
  · exact ha.ok
  · exact hb.ok
  · exact ⟨by simp, cellsOk_map encO (fun _ => rfl) _, cellsOk_map encO (fun _ => rfl) _, by simp; omega⟩
  · exact ⟨by simp, cellsOk_map encT (fun _ => rfl) _, cellsOk_map encT (fun _ => rfl) _, by simp; omega⟩
  · exact ⟨by simp, cellsOk_map encK (fun _ => rfl) _, cellsOk_map encK (fun _ => rfl) _, by simp; omega⟩
  · simp only [List.length_map, ← List.map_append]
    exact l31O _ _ _ _ (a.paths ++ b.paths) (a.keys ++ b.keys) (by simp) (by omega) _ ⟨⟨rfl, rfl, rfl, trivial⟩, ⟨rfl, rfl, rfl, rfl, rfl, trivial⟩, rfl, rfl, rfl⟩
  · exact l31T _ _ _ _ (plusR a b).origins (a.keys ++ b.keys) (by simp) (by omega) _ ⟨⟨rfl, rfl, rfl, trivial⟩, ⟨rfl, rfl, rfl, rfl, rfl, trivial⟩, rfl, rfl, rfl⟩
  · exact l31K _ _ _ _ (plusR a b).origins (plusR a b).paths (by simp) (by omega) _ ⟨⟨rfl, rfl, rfl, trivial⟩, ⟨rfl, rfl, rfl, rfl, rfl, trivial⟩, rfl, rfl, rfl⟩
  · simp only [List.length_map, plusR, ins_len2]
    exact ⟨rfl, rfl, rfl, trivial⟩
  · exact .agg (.cons (ile_sl (.refl _)) (.cons (ile_sl (.refl _)) (.cons (ile_sl (.refl _)) (.refl _))))
end Gp
