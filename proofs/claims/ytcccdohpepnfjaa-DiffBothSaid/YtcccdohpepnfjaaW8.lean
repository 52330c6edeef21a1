/- Part 8 of the walk and of the plain law of DiffBoth. -/
import Derived.Test.YtcccdohpepnfjaaW7

set_option maxRecDepth 100000
set_option maxHeartbeats 0
set_option linter.unusedVariables false
set_option linter.unusedSimpArgs false
open Go Go.Abs
namespace Gp
def T75 (a b : Origin) : Tell :=
  Tell.mk (fun x x_1 => false) (fun x x_1 => Orc.no) (fun x => Tree.fail 1000003 0) (fun x => 0) (fun x => ([], [])) (fun x x_1 x_2 => Orc.no) fun x x_1 => Tree.fail 1000003 0
theorem t75 (a b : Origin) : levF prog Proofs.Try.f75 [encO a, encO b] (T75 a b) =
  Tree.done Exit.ret
  (lret
  (IVal.v
  (Value.bool
  (if BinOp.eql = BinOp.neq then
  !(decide (a.asn = b.asn) && (decide (a.pfx.fam = b.pfx.fam) && (decide (a.pfx.addr.hi = b.pfx.addr.hi) && (decide (a.pfx.addr.lo = b.pfx.addr.lo) && (decide (a.pfx.len = b.pfx.len) && (decide (a.max = b.max) && true))))))
  else decide (a.asn = b.asn) && (decide (a.pfx.fam = b.pfx.fam) && (decide (a.pfx.addr.hi = b.pfx.addr.hi) && (decide (a.pfx.addr.lo = b.pfx.addr.lo) && (decide (a.pfx.len = b.pfx.len) && (decide (a.max = b.max) && true))))))))) := by kernel_rfl
def T78 (a b : RKey) : Tell :=
  Tell.mk (fun x x_1 => false) (fun x x_1 => Orc.no) (fun x => Tree.fail 1000003 0) (fun x => 0) (fun x => ([], [])) (fun x x_1 x_2 => Orc.no) fun x x_1 => Tree.fail 1000003 0
theorem t78 (a b : RKey) : levF prog Proofs.Try.f78 [encK a, encK b] (T78 a b) =
  Tree.done Exit.ret
  (lret
  (IVal.v
  (Value.bool
  (if BinOp.eql = BinOp.neq then
  !(decide (a.asn = b.asn) &&
  (decide (a.root[0] = b.root[0]) &&
  (decide (a.root[1] = b.root[1]) &&
  (decide (a.root[2] = b.root[2]) &&
  (decide (a.root[3] = b.root[3]) &&
  (decide (a.root[4] = b.root[4]) &&
  (decide (a.root[5] = b.root[5]) &&
  (decide (a.root[6] = b.root[6]) &&
  (decide (a.root[7] = b.root[7]) &&
  (decide (a.root[8] = b.root[8]) &&
  (decide (a.root[9] = b.root[9]) &&
  (decide (a.root[10] = b.root[10]) &&
  (decide (a.root[11] = b.root[11]) &&
  (decide (a.root[12] = b.root[12]) &&
  (decide (a.root[13] = b.root[13]) &&
  (decide (a.root[14] = b.root[14]) && (decide (a.root[15] = b.root[15]) && (decide (a.height = b.height) && true))))))))))))))))))
  else
  decide (a.asn = b.asn) &&
  (decide (a.root[0] = b.root[0]) &&
  (decide (a.root[1] = b.root[1]) &&
  (decide (a.root[2] = b.root[2]) &&
  (decide (a.root[3] = b.root[3]) &&
  (decide (a.root[4] = b.root[4]) &&
  (decide (a.root[5] = b.root[5]) &&
  (decide (a.root[6] = b.root[6]) &&
  (decide (a.root[7] = b.root[7]) &&
  (decide (a.root[8] = b.root[8]) &&
  (decide (a.root[9] = b.root[9]) &&
  (decide (a.root[10] = b.root[10]) &&
  (decide (a.root[11] = b.root[11]) &&
  (decide (a.root[12] = b.root[12]) &&
  (decide (a.root[13] = b.root[13]) &&
  (decide (a.root[14] = b.root[14]) && (decide (a.root[15] = b.root[15]) && (decide (a.height = b.height) && true))))))))))))))))))))) := by kernel_rfl
theorem c75 (a b : Origin) : ASpec prog 75 [encO a, encO b] (bo (decide (a = b))) := by
  have he : decide (a = b) = !neO a b := by
    rw [Bool.eq_iff_iff, Bool.not_eq_true', neO_iff, decide_eq_true_eq]
  rw [he]
  refine ASpec.treeW Proofs.Try.f75 (T75 a b) (by kernel_rfl) (by kernel_rfl) (t75 a b) ⟨_, rfl, ile_bo ?_⟩
  rw [if_neg (by decide), neO, Bool.not_not]
theorem c78 (a b : RKey) : ASpec prog 78 [encK a, encK b] (bo (decide (a = b))) := by
  have he : decide (a = b) = !neK a b := by
    rw [Bool.eq_iff_iff, Bool.not_eq_true', neK_iff, decide_eq_true_eq]
  rw [he]
  refine ASpec.treeW Proofs.Try.f78 (T78 a b) (by kernel_rfl) (by kernel_rfl) (t78 a b) ⟨_, rfl, ile_bo ?_⟩
  rw [if_neg (by decide), neK, Bool.not_not]

def missO (b : List Origin) (x : Origin) : Bool := decide (posO b x = b.length) || !decide (b.getD (posO b x) default = x)
def I74 (a b : List Origin) (i : Nat) : LState := { t := [(16, .imm (i64 i)), (15, .imm (i64 a.length)), (14, .imm (slE 6 encO a)), (9, .own 50 ((a.take i).filter (missO b)).length), (3, .imm (fnV 75)), (2, .imm (fnV 35)), (1, .imm (slE 6 encO b))], s := [(50, .row 44 6 (((a.take i).filter (missO b)).map encO))], m := 47, n := 60 }
def E74 (a b : List Origin) : LState := { t := [(9, .own 50 (a.filter (missO b)).length)], s := [(50, .row 44 6 ((a.filter (missO b)).map encO))], m := 47, n := 60 }
def fin74 : Exit → Nat → Fin
  | .normal, 95 => ⟨[(50, 59), (91, 50)], [16, 15, 14, 9, 3, 2, 1], [50]⟩
  | .normal, _ => ⟨[], [16, 15, 14, 9, 3, 2, 1], [50]⟩
  | _, _ => ⟨[], [9], [50]⟩
def T74r (a b : List Origin) (i : Nat) : Tell :=
  Tell.mk (fun x x_1 => false) (fun x x_1 => Orc.no) (fun x => Tree.fail 1000003 0) (fun x => 0) (fun x => ([], []))
  (oget
  [(61, 4, 0, Orc.elem (encO (List.getD a i default))),
  (65, 5, 3, Orc.call [slE 6 encO b, encO (List.getD a i default), fnV 35] (IVal.tup [i64 (↑(posO b (List.getD a i default)) : Int), bo (foundO b (List.getD a i default))])),
  (74, 6, 8, Orc.elem (encO (List.getD b (posO b (List.getD a i default)) default))),
  (74, 6, 11, Orc.call [encO (List.getD b (posO b (List.getD a i default)) default), encO (List.getD a i default)] (bo (decide (List.getD b (posO b (List.getD a i default)) default = List.getD a i default))))])
  fun x x_1 => Tree.fail 1000003 0
theorem t74r (a b : List Origin) (i : Nat) : levLN prog Proofs.Try.f74 3 (I74 a b i) (T74r a b i) fin74 =
  Tree.br (decide ((↑i : Int) < (↑(List.length a) : Int)))
  (Tree.need ((0 : Int) ≤ (↑i : Int) ∧ (List.map encO a)[i]? = some (encO (List.getD a i default)))
  (Tree.need
  (ILeL [slE 6 encO b, encO (List.getD a i default), fnV 35] [slE 6 encO b, encO (List.getD a i default), fnV 35] ∧
  ASpec prog 94 [slE 6 encO b, encO (List.getD a i default), fnV 35] (IVal.tup [i64 (↑(posO b (List.getD a i default)) : Int), bo (foundO b (List.getD a i default))]))
  (Tree.br (decide ((↑(posO b (List.getD a i default)) : Int) = (↑(List.length (List.map encO b)) : Int)))
  (Tree.need
  (List.length (List.map encO (List.filter (missO b) (List.take i a))) = List.length (List.filter (missO b) (List.take i a)) ∧
  cellsOk (List.map encO (List.filter (missO b) (List.take i a))) = true ∧ true = true ∧ List.length (List.filter (missO b) (List.take i a)) + 1 ≤ 1000000)
  (Tree.done Exit.normal
  (LState.mk
  [(16, AVal.imm (IVal.v (Value.int IntKind.i64 (IntKind.wrap IntKind.i64 ((↑i : Int) + (1 : Int)))))), (15, AVal.imm (i64 (↑(List.length a) : Int))), (14, AVal.imm (slE 6 encO a)),
  (9, AVal.own 50 (List.length (List.filter (missO b) (List.take i a)) + 1)), (3, AVal.imm (fnV 75)), (2, AVal.imm (fnV 35)),
  (1, AVal.imm (slE 6 encO b))]
  [(50, Entry.row 44 6 (List.map encO (List.filter (missO b) (List.take i a)) ++ [encO (List.getD a i default)]))] 47 95 [])))
  (Tree.need ((0 : Int) ≤ (↑(posO b (List.getD a i default)) : Int) ∧ (List.map encO b)[posO b (List.getD a i default)]? = some (encO (List.getD b (posO b (List.getD a i default)) default)))
  (Tree.need
  (ILeL [encO (List.getD b (posO b (List.getD a i default)) default), encO (List.getD a i default)] [encO (List.getD b (posO b (List.getD a i default)) default), encO (List.getD a i default)] ∧
  ASpec prog 75 [encO (List.getD b (posO b (List.getD a i default)) default), encO (List.getD a i default)] (bo (decide (List.getD b (posO b (List.getD a i default)) default = List.getD a i default))))
  (Tree.br (!decide (List.getD b (posO b (List.getD a i default)) default = List.getD a i default))
  (Tree.need
  (List.length (List.map encO (List.filter (missO b) (List.take i a))) = List.length (List.filter (missO b) (List.take i a)) ∧
  cellsOk (List.map encO (List.filter (missO b) (List.take i a))) = true ∧ true = true ∧ List.length (List.filter (missO b) (List.take i a)) + 1 ≤ 1000000)
  (Tree.done Exit.normal
  (LState.mk
  [(16, AVal.imm (IVal.v (Value.int IntKind.i64 (IntKind.wrap IntKind.i64 ((↑i : Int) + (1 : Int)))))), (15, AVal.imm (i64 (↑(List.length a) : Int))), (14, AVal.imm (slE 6 encO a)),
  (9, AVal.own 50 (List.length (List.filter (missO b) (List.take i a)) + 1)), (3, AVal.imm (fnV 75)), (2, AVal.imm (fnV 35)),
  (1, AVal.imm (slE 6 encO b))]
  [(50, Entry.row 44 6 (List.map encO (List.filter (missO b) (List.take i a)) ++ [encO (List.getD a i default)]))] 47 95 [])))
  (Tree.done Exit.normal
  (LState.mk
  [(16, AVal.imm (IVal.v (Value.int IntKind.i64 (IntKind.wrap IntKind.i64 ((↑i : Int) + (1 : Int)))))), (15, AVal.imm (i64 (↑(List.length a) : Int))), (14, AVal.imm (slE 6 encO a)),
  (9, AVal.own 50 (List.length (List.filter (missO b) (List.take i a)))), (3, AVal.imm (fnV 75)), (2, AVal.imm (fnV 35)), (1, AVal.imm (slE 6 encO b))]
  [(50, Entry.row 44 6 (List.map encO (List.filter (missO b) (List.take i a))))] 47 90 []))))))))
  (Tree.done (Exit.exit 0)
  (LState.mk [(9, AVal.own 50 (List.length (List.filter (missO b) (List.take i a))))] [(50, Entry.row 44 6 (List.map encO (List.filter (missO b) (List.take i a))))] 47 61 [])) := by kernel_rfl
theorem fltO_succ (a b : List Origin) (i : Nat) (h : i < a.length) : (a.take (i + 1)).filter (missO b) = (a.take i).filter (missO b) ++ (if missO b (a.getD i default) = true then [a.getD i default] else []) := by
  rw [List.take_add_one, List.filter_append]
  simp only [List.getD_eq_getElem?_getD, List.getElem?_eq_getElem h, Option.toList_some, Option.getD_some, List.filter_cons, List.filter_nil]
theorem l74 (a b : List Origin) (ha : a.length ≤ 400000) (hb : b.length ≤ 400000) (σ : LState) (h : LSub σ (I74 a b 0)) : LoopOk prog [] (bodyOf Proofs.Try.f74) 3 σ (.done (.exit 0) (E74 a b)) := by
  refine LoopOk.countN a.length 0 (I74 a b) (E74 a b) (T74r a b) fin74 (by kernel_rfl) h fun i hi => ?_
  have hlen : ((a.take i).filter (missO b)).length ≤ i := Nat.le_trans (List.length_filter_le _ _) (by simp; omega)
  have hpos := posO_le b (a.getD i default)
  have yes : i < a.length → missO b (a.getD i default) = true → LSub ⟨[(16, .imm (.v (.int .i64 (IntKind.i64.wrap ((i : Int) + 1))))), (15, .imm (i64 a.length)), (14, .imm (slE 6 encO a)), (9, .own 50 (((a.take i).filter (missO b)).length + 1)), (3, .imm (fnV 75)), (2, .imm (fnV 35)), (1, .imm (slE 6 encO b))],
      [(50, .row 44 6 (((a.take i).filter (missO b)).map encO ++ [encO (a.getD i default)]))], 47, 95, []⟩ (I74 a b (i + 1)) := by
    intro hlt hm
    have hs := fltO_succ a b i hlt
    rw [if_pos hm] at hs
    exact ⟨⟨congrArg (fun n => AVal.imm (i64 n)) (i64_succ (by omega)), rfl, rfl, congrArg (AVal.own 50) (by rw [hs, List.length_append]; rfl), rfl, rfl, rfl, trivial⟩, ⟨congrArg (fun l => some (Entry.row 44 6 l)) (by rw [hs, List.map_append]; rfl), trivial⟩, rfl, rfl, rfl⟩
  rw [t74r]
  refine ⟨fun h1 => ⟨elem_need ?_, fun _ => ⟨⟨ILeL.refl _, c94 _ _ ?_⟩, fun _ => ⟨fun h2 => ⟨?_, fun _ => ?_⟩, fun h2 => ⟨elem_need ?_, fun _ => ⟨⟨ILeL.refl _, c75 _ _⟩, fun _ => ⟨fun h3 => ⟨?_, fun _ => ?_⟩, fun h3 => ?_⟩⟩⟩⟩⟩⟩, fun h1 => ?_⟩
  · (refine ⟨by omega, ?_, ?_⟩ <;> (simp only [List.length_map, decide_eq_true_eq, decide_eq_false_iff_not, Int.toNat_natCast] at * <;> omega))
  · omega
  · exact ⟨by simp, cellsOk_map encO (fun _ => rfl) _, rfl, by omega⟩
  · have hlt : i < a.length := by (simp only [List.length_map, decide_eq_true_eq, decide_eq_false_iff_not, Int.toNat_natCast] at * <;> omega)
    have hm : missO b (a.getD i default) = true := by simp only [List.length_map, decide_eq_true_eq, decide_eq_false_iff_not] at h2; rw [missO, decide_eq_true (show posO b (a.getD i default) = b.length by omega)]; rfl
    exact ⟨hlt, yes hlt hm⟩
  · have hp : posO b (a.getD i default) < b.length := by simp only [List.length_map, decide_eq_true_eq, decide_eq_false_iff_not] at h2; omega
    exact ⟨by omega, hp, rfl⟩

  · exact ⟨by simp, cellsOk_map encO (fun _ => rfl) _, rfl, by omega⟩
  · have hlt : i < a.length := by (simp only [List.length_map, decide_eq_true_eq, decide_eq_false_iff_not, Int.toNat_natCast] at * <;> omega)
    exact ⟨hlt, yes hlt (by rw [missO, h3, Bool.or_true])⟩
  · have hlt : i < a.length := by (simp only [List.length_map, decide_eq_true_eq, decide_eq_false_iff_not, Int.toNat_natCast] at * <;> omega)
    have hp : ¬ posO b (a.getD i default) = b.length := by simp only [List.length_map, decide_eq_true_eq, decide_eq_false_iff_not] at h2; omega
    have hs := fltO_succ a b i hlt
    rw [if_neg (by rw [missO, h3, decide_eq_false hp]; decide), List.append_nil] at hs
    exact ⟨hlt, ⟨⟨congrArg (fun n => AVal.imm (i64 n)) (i64_succ (by omega)), rfl, rfl, congrArg (AVal.own 50) (by rw [hs]), rfl, rfl, rfl, trivial⟩, ⟨congrArg (fun l => some (Entry.row 44 6 l)) (by rw [hs]), trivial⟩, rfl, rfl, rfl⟩⟩
  · have : i = a.length := by (simp only [List.length_map, decide_eq_true_eq, decide_eq_false_iff_not, Int.toNat_natCast] at * <;> omega)
    subst this
    refine ⟨rfl, by omega, ⟨⟨congrArg (AVal.own 50) (by rw [List.take_length]), trivial⟩, ⟨congrArg (fun l => some (Entry.row 44 6 l)) (by rw [List.take_length]), trivial⟩, rfl, rfl, rfl⟩⟩
def B74 (a b : List Origin) : Tell := { Lp := fun _ => .done (.exit 0) (E74 a b), lv := fun _ => ([16, 15, 14, 9, 3, 2, 1], []) }
def T74 (a b : List Origin) : Tell :=
  Tell.mk (fun x x_1 => false) (fun x x_1 => Orc.no) (fun x => Tree.done (Exit.exit 0) (E74 a b)) (fun x => 0) (fun x => ([16, 15, 14, 9, 3, 2, 1], []))
  (fun x x_1 x_2 => Orc.no) fun x x_1 => Tree.done (Exit.exit 0) (E74 a b)
theorem t74 (a b : List Origin) : levF prog Proofs.Try.f74 [slE 6 encO a, slE 6 encO b, fnV 35, fnV 75] (T74 a b) =
  Tree.loop 3
  (LState.mk
  [(16, AVal.imm (IVal.v (Value.int IntKind.i64 (0 : Int)))), (15, AVal.imm (IVal.v (Value.int IntKind.i64 (↑(List.length (List.map encO a)) : Int)))), (14, AVal.imm (slE 6 encO a)),
  (9, AVal.imm (IVal.v (Value.slice none 0 0))), (3, AVal.imm (fnV 75)), (2, AVal.imm (fnV 35)), (1, AVal.imm (slE 6 encO b))]
  [] 47 5 [])
  (Tree.done (Exit.exit 0) (E74 a b))
  (Tree.need (eqs [(List.length (List.filter (missO b) a), List.length (List.map encO (List.filter (missO b) a)))]) (Tree.done Exit.ret (lret (IVal.sl true false 6 (List.map encO (List.filter (missO b) a)))))) := by kernel_rfl
theorem c74 (a b : List Origin) (ha : a.length ≤ 400000) (hb : b.length ≤ 400000) : ASpec prog 74 [slE 6 encO a, slE 6 encO b, fnV 35, fnV 75] (slE 6 encO (a.filter (missO b))) := by
  refine ASpec.treeW Proofs.Try.f74 (T74 a b) (by kernel_rfl) (by kernel_rfl) (t74 a b) ?_
  refine ⟨?_, ⟨?_, fun _ => ⟨_, rfl, ?_⟩⟩⟩
  · refine .nam (τ := I74 a b 0) (.temp 9 50 44 6 (show 5 ≤ 50 by decide) (.sub ?_)) (l74 a b ha hb _ ?_)
    all_goals exact ⟨⟨rfl, congrArg (fun n => AVal.imm (i64 n)) (by simp), rfl, rfl, rfl, rfl, rfl, trivial⟩, ⟨rfl, trivial⟩, rfl, rfl, rfl⟩
  · exact ⟨by simp, trivial⟩
  · exact ile_sl (.refl _)

def missT (b : List Attest) (x : Attest) : Bool := decide (posT b x = b.length) || !decide (b.getD (posT b x) default = x)
def I76 (a b : List Attest) (i : Nat) : LState := { t := [(16, .imm (i64 i)), (15, .imm (i64 a.length)), (14, .imm (slE 2 encT a)), (9, .own 50 ((a.take i).filter (missT b)).length), (3, .imm (fnV 50)), (2, .imm (fnV 38)), (1, .imm (slE 2 encT b))], s := [(50, .row 47 2 (((a.take i).filter (missT b)).map encT))], m := 47, n := 60 }
def E76 (a b : List Attest) : LState := { t := [(9, .own 50 (a.filter (missT b)).length)], s := [(50, .row 47 2 ((a.filter (missT b)).map encT))], m := 47, n := 60 }
def fin76 : Exit → Nat → Fin
  | .normal, 95 => ⟨[(50, 59), (91, 50)], [16, 15, 14, 9, 3, 2, 1], [50]⟩
  | .normal, _ => ⟨[], [16, 15, 14, 9, 3, 2, 1], [50]⟩
  | _, _ => ⟨[], [9], [50]⟩
def T76r (a b : List Attest) (i : Nat) : Tell :=
  Tell.mk (fun x x_1 => false) (fun x x_1 => Orc.no) (fun x => Tree.fail 1000003 0) (fun x => 0) (fun x => ([], []))
  (oget
  [(61, 4, 0, Orc.elem (encT (List.getD a i default))),
  (65, 5, 3, Orc.call [slE 2 encT b, encT (List.getD a i default), fnV 38] (IVal.tup [i64 (↑(posT b (List.getD a i default)) : Int), bo (foundT b (List.getD a i default))])),
  (74, 6, 8, Orc.elem (encT (List.getD b (posT b (List.getD a i default)) default))),
  (74, 6, 11, Orc.call [encT (List.getD b (posT b (List.getD a i default)) default), encT (List.getD a i default)] (bo (decide (List.getD b (posT b (List.getD a i default)) default = List.getD a i default))))])
  fun x x_1 => Tree.fail 1000003 0
theorem t76r (a b : List Attest) (i : Nat) : levLN prog Proofs.Try.f76 3 (I76 a b i) (T76r a b i) fin76 =
  Tree.br (decide ((↑i : Int) < (↑(List.length a) : Int)))
  (Tree.need ((0 : Int) ≤ (↑i : Int) ∧ (List.map encT a)[i]? = some (encT (List.getD a i default)))
  (Tree.need
  (ILeL [slE 2 encT b, encT (List.getD a i default), fnV 38] [slE 2 encT b, encT (List.getD a i default), fnV 38] ∧
  ASpec prog 95 [slE 2 encT b, encT (List.getD a i default), fnV 38] (IVal.tup [i64 (↑(posT b (List.getD a i default)) : Int), bo (foundT b (List.getD a i default))]))
  (Tree.br (decide ((↑(posT b (List.getD a i default)) : Int) = (↑(List.length (List.map encT b)) : Int)))
  (Tree.need
  (List.length (List.map encT (List.filter (missT b) (List.take i a))) = List.length (List.filter (missT b) (List.take i a)) ∧
  cellsOk (List.map encT (List.filter (missT b) (List.take i a))) = true ∧ true = true ∧ List.length (List.filter (missT b) (List.take i a)) + 1 ≤ 1000000)
  (Tree.done Exit.normal
  (LState.mk
  [(16, AVal.imm (IVal.v (Value.int IntKind.i64 (IntKind.wrap IntKind.i64 ((↑i : Int) + (1 : Int)))))), (15, AVal.imm (i64 (↑(List.length a) : Int))), (14, AVal.imm (slE 2 encT a)),
  (9, AVal.own 50 (List.length (List.filter (missT b) (List.take i a)) + 1)), (3, AVal.imm (fnV 50)), (2, AVal.imm (fnV 38)),
  (1, AVal.imm (slE 2 encT b))]
  [(50, Entry.row 47 2 (List.map encT (List.filter (missT b) (List.take i a)) ++ [encT (List.getD a i default)]))] 47 95 [])))
  (Tree.need ((0 : Int) ≤ (↑(posT b (List.getD a i default)) : Int) ∧ (List.map encT b)[posT b (List.getD a i default)]? = some (encT (List.getD b (posT b (List.getD a i default)) default)))
  (Tree.need
  (ILeL [encT (List.getD b (posT b (List.getD a i default)) default), encT (List.getD a i default)] [encT (List.getD b (posT b (List.getD a i default)) default), encT (List.getD a i default)] ∧
  ASpec prog 50 [encT (List.getD b (posT b (List.getD a i default)) default), encT (List.getD a i default)] (bo (decide (List.getD b (posT b (List.getD a i default)) default = List.getD a i default))))
  (Tree.br (!decide (List.getD b (posT b (List.getD a i default)) default = List.getD a i default))
  (Tree.need
  (List.length (List.map encT (List.filter (missT b) (List.take i a))) = List.length (List.filter (missT b) (List.take i a)) ∧
  cellsOk (List.map encT (List.filter (missT b) (List.take i a))) = true ∧ true = true ∧ List.length (List.filter (missT b) (List.take i a)) + 1 ≤ 1000000)
  (Tree.done Exit.normal
  (LState.mk
  [(16, AVal.imm (IVal.v (Value.int IntKind.i64 (IntKind.wrap IntKind.i64 ((↑i : Int) + (1 : Int)))))), (15, AVal.imm (i64 (↑(List.length a) : Int))), (14, AVal.imm (slE 2 encT a)),
  (9, AVal.own 50 (List.length (List.filter (missT b) (List.take i a)) + 1)), (3, AVal.imm (fnV 50)), (2, AVal.imm (fnV 38)),
  (1, AVal.imm (slE 2 encT b))]
  [(50, Entry.row 47 2 (List.map encT (List.filter (missT b) (List.take i a)) ++ [encT (List.getD a i default)]))] 47 95 [])))
  (Tree.done Exit.normal
  (LState.mk
  [(16, AVal.imm (IVal.v (Value.int IntKind.i64 (IntKind.wrap IntKind.i64 ((↑i : Int) + (1 : Int)))))), (15, AVal.imm (i64 (↑(List.length a) : Int))), (14, AVal.imm (slE 2 encT a)),
  (9, AVal.own 50 (List.length (List.filter (missT b) (List.take i a)))), (3, AVal.imm (fnV 50)), (2, AVal.imm (fnV 38)), (1, AVal.imm (slE 2 encT b))]
  [(50, Entry.row 47 2 (List.map encT (List.filter (missT b) (List.take i a))))] 47 90 []))))))))
  (Tree.done (Exit.exit 0)
  (LState.mk [(9, AVal.own 50 (List.length (List.filter (missT b) (List.take i a))))] [(50, Entry.row 47 2 (List.map encT (List.filter (missT b) (List.take i a))))] 47 61 [])) := by kernel_rfl
theorem fltT_succ (a b : List Attest) (i : Nat) (h : i < a.length) : (a.take (i + 1)).filter (missT b) = (a.take i).filter (missT b) ++ (if missT b (a.getD i default) = true then [a.getD i default] else []) := by
  rw [List.take_add_one, List.filter_append]
  simp only [List.getD_eq_getElem?_getD, List.getElem?_eq_getElem h, Option.toList_some, Option.getD_some, List.filter_cons, List.filter_nil]
theorem l76 (a b : List Attest) (ha : a.length ≤ 400000) (hb : b.length ≤ 400000) (hT : ∀ x ∈ b, okT x) (σ : LState) (h : LSub σ (I76 a b 0)) : LoopOk prog [] (bodyOf Proofs.Try.f76) 3 σ (.done (.exit 0) (E76 a b)) := by
  refine LoopOk.countN a.length 0 (I76 a b) (E76 a b) (T76r a b) fin76 (by kernel_rfl) h fun i hi => ?_
  have hlen : ((a.take i).filter (missT b)).length ≤ i := Nat.le_trans (List.length_filter_le _ _) (by simp; omega)
  have hpos := posT_le b (a.getD i default)
  have yes : i < a.length → missT b (a.getD i default) = true → LSub ⟨[(16, .imm (.v (.int .i64 (IntKind.i64.wrap ((i : Int) + 1))))), (15, .imm (i64 a.length)), (14, .imm (slE 2 encT a)), (9, .own 50 (((a.take i).filter (missT b)).length + 1)), (3, .imm (fnV 50)), (2, .imm (fnV 38)), (1, .imm (slE 2 encT b))],
      [(50, .row 47 2 (((a.take i).filter (missT b)).map encT ++ [encT (a.getD i default)]))], 47, 95, []⟩ (I76 a b (i + 1)) := by
    intro hlt hm
    have hs := fltT_succ a b i hlt
    rw [if_pos hm] at hs
    exact ⟨⟨congrArg (fun n => AVal.imm (i64 n)) (i64_succ (by omega)), rfl, rfl, congrArg (AVal.own 50) (by rw [hs, List.length_append]; rfl), rfl, rfl, rfl, trivial⟩, ⟨congrArg (fun l => some (Entry.row 47 2 l)) (by rw [hs, List.map_append]; rfl), trivial⟩, rfl, rfl, rfl⟩
  rw [t76r]
  refine ⟨fun h1 => ⟨elem_need ?_, fun _ => ⟨⟨ILeL.refl _, c95 _ _ ?_⟩, fun _ => ⟨fun h2 => ⟨?_, fun _ => ?_⟩, fun h2 => ⟨elem_need ?_, fun _ => ⟨⟨ILeL.refl _, c50 _ _ ?_⟩, fun _ => ⟨fun h3 => ⟨?_, fun _ => ?_⟩, fun h3 => ?_⟩⟩⟩⟩⟩⟩, fun h1 => ?_⟩
  · (refine ⟨by omega, ?_, ?_⟩ <;> (simp only [List.length_map, decide_eq_true_eq, decide_eq_false_iff_not, Int.toNat_natCast] at * <;> omega))
  · omega
  · exact ⟨by simp, cellsOk_map encT (fun _ => rfl) _, rfl, by omega⟩
  · have hlt : i < a.length := by (simp only [List.length_map, decide_eq_true_eq, decide_eq_false_iff_not, Int.toNat_natCast] at * <;> omega)
    have hm : missT b (a.getD i default) = true := by simp only [List.length_map, decide_eq_true_eq, decide_eq_false_iff_not] at h2; rw [missT, decide_eq_true (show posT b (a.getD i default) = b.length by omega)]; rfl
    exact ⟨hlt, yes hlt hm⟩
  · have hp : posT b (a.getD i default) < b.length := by simp only [List.length_map, decide_eq_true_eq, decide_eq_false_iff_not] at h2; omega
    exact ⟨by omega, hp, rfl⟩
  · have hp : posT b (a.getD i default) < b.length := by simp only [List.length_map, decide_eq_true_eq, decide_eq_false_iff_not] at h2; omega
    have := hT _ (getD_mem b _ hp); unfold okT at this; omega
  · exact ⟨by simp, cellsOk_map encT (fun _ => rfl) _, rfl, by omega⟩
  · have hlt : i < a.length := by (simp only [List.length_map, decide_eq_true_eq, decide_eq_false_iff_not, Int.toNat_natCast] at * <;> omega)
    exact ⟨hlt, yes hlt (by rw [missT, h3, Bool.or_true])⟩
  · have hlt : i < a.length := by (simp only [List.length_map, decide_eq_true_eq, decide_eq_false_iff_not, Int.toNat_natCast] at * <;> omega)
    have hp : ¬ posT b (a.getD i default) = b.length := by simp only [List.length_map, decide_eq_true_eq, decide_eq_false_iff_not] at h2; omega
    have hs := fltT_succ a b i hlt
    rw [if_neg (by rw [missT, h3, decide_eq_false hp]; decide), List.append_nil] at hs
    exact ⟨hlt, ⟨⟨congrArg (fun n => AVal.imm (i64 n)) (i64_succ (by omega)), rfl, rfl, congrArg (AVal.own 50) (by rw [hs]), rfl, rfl, rfl, trivial⟩, ⟨congrArg (fun l => some (Entry.row 47 2 l)) (by rw [hs]), trivial⟩, rfl, rfl, rfl⟩⟩
  · have : i = a.length := by (simp only [List.length_map, decide_eq_true_eq, decide_eq_false_iff_not, Int.toNat_natCast] at * <;> omega)
    subst this
    refine ⟨rfl, by omega, ⟨⟨congrArg (AVal.own 50) (by rw [List.take_length]), trivial⟩, ⟨congrArg (fun l => some (Entry.row 47 2 l)) (by rw [List.take_length]), trivial⟩, rfl, rfl, rfl⟩⟩
def B76 (a b : List Attest) : Tell := { Lp := fun _ => .done (.exit 0) (E76 a b), lv := fun _ => ([16, 15, 14, 9, 3, 2, 1], []) }
def T76 (a b : List Attest) : Tell :=
  Tell.mk (fun x x_1 => false) (fun x x_1 => Orc.no) (fun x => Tree.done (Exit.exit 0) (E76 a b)) (fun x => 0) (fun x => ([16, 15, 14, 9, 3, 2, 1], []))
  (fun x x_1 x_2 => Orc.no) fun x x_1 => Tree.done (Exit.exit 0) (E76 a b)
theorem t76 (a b : List Attest) : levF prog Proofs.Try.f76 [slE 2 encT a, slE 2 encT b, fnV 38, fnV 50] (T76 a b) =
  Tree.loop 3
  (LState.mk
  [(16, AVal.imm (IVal.v (Value.int IntKind.i64 (0 : Int)))), (15, AVal.imm (IVal.v (Value.int IntKind.i64 (↑(List.length (List.map encT a)) : Int)))), (14, AVal.imm (slE 2 encT a)),
  (9, AVal.imm (IVal.v (Value.slice none 0 0))), (3, AVal.imm (fnV 50)), (2, AVal.imm (fnV 38)), (1, AVal.imm (slE 2 encT b))]
  [] 47 5 [])
  (Tree.done (Exit.exit 0) (E76 a b))
  (Tree.need (eqs [(List.length (List.filter (missT b) a), List.length (List.map encT (List.filter (missT b) a)))]) (Tree.done Exit.ret (lret (IVal.sl true false 2 (List.map encT (List.filter (missT b) a)))))) := by kernel_rfl
theorem c76 (a b : List Attest) (ha : a.length ≤ 400000) (hb : b.length ≤ 400000) (hT : ∀ x ∈ b, okT x) : ASpec prog 76 [slE 2 encT a, slE 2 encT b, fnV 38, fnV 50] (slE 2 encT (a.filter (missT b))) := by
  refine ASpec.treeW Proofs.Try.f76 (T76 a b) (by kernel_rfl) (by kernel_rfl) (t76 a b) ?_
  refine ⟨?_, ⟨?_, fun _ => ⟨_, rfl, ?_⟩⟩⟩
  · refine .nam (τ := I76 a b 0) (.temp 9 50 47 2 (show 5 ≤ 50 by decide) (.sub ?_)) (l76 a b ha hb hT _ ?_)
    all_goals exact ⟨⟨rfl, congrArg (fun n => AVal.imm (i64 n)) (by simp), rfl, rfl, rfl, rfl, rfl, trivial⟩, ⟨rfl, trivial⟩, rfl, rfl, rfl⟩
  · exact ⟨by simp, trivial⟩
  · exact ile_sl (.refl _)

def missK (b : List RKey) (x : RKey) : Bool := decide (posK b x = b.length) || !decide (b.getD (posK b x) default = x)
def I77 (a b : List RKey) (i : Nat) : LState := { t := [(16, .imm (i64 i)), (15, .imm (i64 a.length)), (14, .imm (slE 18 encK a)), (9, .own 50 ((a.take i).filter (missK b)).length), (3, .imm (fnV 78)), (2, .imm (fnV 41)), (1, .imm (slE 18 encK b))], s := [(50, .row 53 18 (((a.take i).filter (missK b)).map encK))], m := 47, n := 60 }
def E77 (a b : List RKey) : LState := { t := [(9, .own 50 (a.filter (missK b)).length)], s := [(50, .row 53 18 ((a.filter (missK b)).map encK))], m := 47, n := 60 }
def fin77 : Exit → Nat → Fin
  | .normal, 95 => ⟨[(50, 59), (91, 50)], [16, 15, 14, 9, 3, 2, 1], [50]⟩
  | .normal, _ => ⟨[], [16, 15, 14, 9, 3, 2, 1], [50]⟩
  | _, _ => ⟨[], [9], [50]⟩
def T77r (a b : List RKey) (i : Nat) : Tell :=
  Tell.mk (fun x x_1 => false) (fun x x_1 => Orc.no) (fun x => Tree.fail 1000003 0) (fun x => 0) (fun x => ([], []))
  (oget
  [(61, 4, 0, Orc.elem (encK (List.getD a i default))),
  (65, 5, 3, Orc.call [slE 18 encK b, encK (List.getD a i default), fnV 41] (IVal.tup [i64 (↑(posK b (List.getD a i default)) : Int), bo (foundK b (List.getD a i default))])),
  (74, 6, 8, Orc.elem (encK (List.getD b (posK b (List.getD a i default)) default))),
  (74, 6, 11, Orc.call [encK (List.getD b (posK b (List.getD a i default)) default), encK (List.getD a i default)] (bo (decide (List.getD b (posK b (List.getD a i default)) default = List.getD a i default))))])
  fun x x_1 => Tree.fail 1000003 0
theorem t77r (a b : List RKey) (i : Nat) : levLN prog Proofs.Try.f77 3 (I77 a b i) (T77r a b i) fin77 =
  Tree.br (decide ((↑i : Int) < (↑(List.length a) : Int)))
  (Tree.need ((0 : Int) ≤ (↑i : Int) ∧ (List.map encK a)[i]? = some (encK (List.getD a i default)))
  (Tree.need
  (ILeL [slE 18 encK b, encK (List.getD a i default), fnV 41] [slE 18 encK b, encK (List.getD a i default), fnV 41] ∧
  ASpec prog 96 [slE 18 encK b, encK (List.getD a i default), fnV 41] (IVal.tup [i64 (↑(posK b (List.getD a i default)) : Int), bo (foundK b (List.getD a i default))]))
  (Tree.br (decide ((↑(posK b (List.getD a i default)) : Int) = (↑(List.length (List.map encK b)) : Int)))
  (Tree.need
  (List.length (List.map encK (List.filter (missK b) (List.take i a))) = List.length (List.filter (missK b) (List.take i a)) ∧
  cellsOk (List.map encK (List.filter (missK b) (List.take i a))) = true ∧ true = true ∧ List.length (List.filter (missK b) (List.take i a)) + 1 ≤ 1000000)
  (Tree.done Exit.normal
  (LState.mk
  [(16, AVal.imm (IVal.v (Value.int IntKind.i64 (IntKind.wrap IntKind.i64 ((↑i : Int) + (1 : Int)))))), (15, AVal.imm (i64 (↑(List.length a) : Int))), (14, AVal.imm (slE 18 encK a)),
  (9, AVal.own 50 (List.length (List.filter (missK b) (List.take i a)) + 1)), (3, AVal.imm (fnV 78)), (2, AVal.imm (fnV 41)),
  (1, AVal.imm (slE 18 encK b))]
  [(50, Entry.row 53 18 (List.map encK (List.filter (missK b) (List.take i a)) ++ [encK (List.getD a i default)]))] 47 95 [])))
  (Tree.need ((0 : Int) ≤ (↑(posK b (List.getD a i default)) : Int) ∧ (List.map encK b)[posK b (List.getD a i default)]? = some (encK (List.getD b (posK b (List.getD a i default)) default)))
  (Tree.need
  (ILeL [encK (List.getD b (posK b (List.getD a i default)) default), encK (List.getD a i default)] [encK (List.getD b (posK b (List.getD a i default)) default), encK (List.getD a i default)] ∧
  ASpec prog 78 [encK (List.getD b (posK b (List.getD a i default)) default), encK (List.getD a i default)] (bo (decide (List.getD b (posK b (List.getD a i default)) default = List.getD a i default))))
  (Tree.br (!decide (List.getD b (posK b (List.getD a i default)) default = List.getD a i default))
  (Tree.need
  (List.length (List.map encK (List.filter (missK b) (List.take i a))) = List.length (List.filter (missK b) (List.take i a)) ∧
  cellsOk (List.map encK (List.filter (missK b) (List.take i a))) = true ∧ true = true ∧ List.length (List.filter (missK b) (List.take i a)) + 1 ≤ 1000000)
  (Tree.done Exit.normal
  (LState.mk
  [(16, AVal.imm (IVal.v (Value.int IntKind.i64 (IntKind.wrap IntKind.i64 ((↑i : Int) + (1 : Int)))))), (15, AVal.imm (i64 (↑(List.length a) : Int))), (14, AVal.imm (slE 18 encK a)),
  (9, AVal.own 50 (List.length (List.filter (missK b) (List.take i a)) + 1)), (3, AVal.imm (fnV 78)), (2, AVal.imm (fnV 41)),
  (1, AVal.imm (slE 18 encK b))]
  [(50, Entry.row 53 18 (List.map encK (List.filter (missK b) (List.take i a)) ++ [encK (List.getD a i default)]))] 47 95 [])))
  (Tree.done Exit.normal
  (LState.mk
  [(16, AVal.imm (IVal.v (Value.int IntKind.i64 (IntKind.wrap IntKind.i64 ((↑i : Int) + (1 : Int)))))), (15, AVal.imm (i64 (↑(List.length a) : Int))), (14, AVal.imm (slE 18 encK a)),
  (9, AVal.own 50 (List.length (List.filter (missK b) (List.take i a)))), (3, AVal.imm (fnV 78)), (2, AVal.imm (fnV 41)), (1, AVal.imm (slE 18 encK b))]
  [(50, Entry.row 53 18 (List.map encK (List.filter (missK b) (List.take i a))))] 47 90 []))))))))
  (Tree.done (Exit.exit 0)
  (LState.mk [(9, AVal.own 50 (List.length (List.filter (missK b) (List.take i a))))] [(50, Entry.row 53 18 (List.map encK (List.filter (missK b) (List.take i a))))] 47 61 [])) := by kernel_rfl
theorem fltK_succ (a b : List RKey) (i : Nat) (h : i < a.length) : (a.take (i + 1)).filter (missK b) = (a.take i).filter (missK b) ++ (if missK b (a.getD i default) = true then [a.getD i default] else []) := by
  rw [List.take_add_one, List.filter_append]
  simp only [List.getD_eq_getElem?_getD, List.getElem?_eq_getElem h, Option.toList_some, Option.getD_some, List.filter_cons, List.filter_nil]
theorem l77 (a b : List RKey) (ha : a.length ≤ 400000) (hb : b.length ≤ 400000) (σ : LState) (h : LSub σ (I77 a b 0)) : LoopOk prog [] (bodyOf Proofs.Try.f77) 3 σ (.done (.exit 0) (E77 a b)) := by
  refine LoopOk.countN a.length 0 (I77 a b) (E77 a b) (T77r a b) fin77 (by kernel_rfl) h fun i hi => ?_
  have hlen : ((a.take i).filter (missK b)).length ≤ i := Nat.le_trans (List.length_filter_le _ _) (by simp; omega)
  have hpos := posK_le b (a.getD i default)
  have yes : i < a.length → missK b (a.getD i default) = true → LSub ⟨[(16, .imm (.v (.int .i64 (IntKind.i64.wrap ((i : Int) + 1))))), (15, .imm (i64 a.length)), (14, .imm (slE 18 encK a)), (9, .own 50 (((a.take i).filter (missK b)).length + 1)), (3, .imm (fnV 78)), (2, .imm (fnV 41)), (1, .imm (slE 18 encK b))],
      [(50, .row 53 18 (((a.take i).filter (missK b)).map encK ++ [encK (a.getD i default)]))], 47, 95, []⟩ (I77 a b (i + 1)) := by
    intro hlt hm
    have hs := fltK_succ a b i hlt
    rw [if_pos hm] at hs
    exact ⟨⟨congrArg (fun n => AVal.imm (i64 n)) (i64_succ (by omega)), rfl, rfl, congrArg (AVal.own 50) (by rw [hs, List.length_append]; rfl), rfl, rfl, rfl, trivial⟩, ⟨congrArg (fun l => some (Entry.row 53 18 l)) (by rw [hs, List.map_append]; rfl), trivial⟩, rfl, rfl, rfl⟩
  rw [t77r]
  refine ⟨fun h1 => ⟨elem_need ?_, fun _ => ⟨⟨ILeL.refl _, c96 _ _ ?_⟩, fun _ => ⟨fun h2 => ⟨?_, fun _ => ?_⟩, fun h2 => ⟨elem_need ?_, fun _ => ⟨⟨ILeL.refl _, c78 _ _⟩, fun _ => ⟨fun h3 => ⟨?_, fun _ => ?_⟩, fun h3 => ?_⟩⟩⟩⟩⟩⟩, fun h1 => ?_⟩
  · (refine ⟨by omega, ?_, ?_⟩ <;> (simp only [List.length_map, decide_eq_true_eq, decide_eq_false_iff_not, Int.toNat_natCast] at * <;> omega))
  · omega
  · exact ⟨by simp, cellsOk_map encK (fun _ => rfl) _, rfl, by omega⟩
  · have hlt : i < a.length := by (simp only [List.length_map, decide_eq_true_eq, decide_eq_false_iff_not, Int.toNat_natCast] at * <;> omega)
    have hm : missK b (a.getD i default) = true := by simp only [List.length_map, decide_eq_true_eq, decide_eq_false_iff_not] at h2; rw [missK, decide_eq_true (show posK b (a.getD i default) = b.length by omega)]; rfl
    exact ⟨hlt, yes hlt hm⟩
  · have hp : posK b (a.getD i default) < b.length := by simp only [List.length_map, decide_eq_true_eq, decide_eq_false_iff_not] at h2; omega
    exact ⟨by omega, hp, rfl⟩

  · exact ⟨by simp, cellsOk_map encK (fun _ => rfl) _, rfl, by omega⟩
  · have hlt : i < a.length := by (simp only [List.length_map, decide_eq_true_eq, decide_eq_false_iff_not, Int.toNat_natCast] at * <;> omega)
    exact ⟨hlt, yes hlt (by rw [missK, h3, Bool.or_true])⟩
  · have hlt : i < a.length := by (simp only [List.length_map, decide_eq_true_eq, decide_eq_false_iff_not, Int.toNat_natCast] at * <;> omega)
    have hp : ¬ posK b (a.getD i default) = b.length := by simp only [List.length_map, decide_eq_true_eq, decide_eq_false_iff_not] at h2; omega
    have hs := fltK_succ a b i hlt
    rw [if_neg (by rw [missK, h3, decide_eq_false hp]; decide), List.append_nil] at hs
    exact ⟨hlt, ⟨⟨congrArg (fun n => AVal.imm (i64 n)) (i64_succ (by omega)), rfl, rfl, congrArg (AVal.own 50) (by rw [hs]), rfl, rfl, rfl, trivial⟩, ⟨congrArg (fun l => some (Entry.row 53 18 l)) (by rw [hs]), trivial⟩, rfl, rfl, rfl⟩⟩
  · have : i = a.length := by (simp only [List.length_map, decide_eq_true_eq, decide_eq_false_iff_not, Int.toNat_natCast] at * <;> omega)
    subst this
    refine ⟨rfl, by omega, ⟨⟨congrArg (AVal.own 50) (by rw [List.take_length]), trivial⟩, ⟨congrArg (fun l => some (Entry.row 53 18 l)) (by rw [List.take_length]), trivial⟩, rfl, rfl, rfl⟩⟩
def B77 (a b : List RKey) : Tell := { Lp := fun _ => .done (.exit 0) (E77 a b), lv := fun _ => ([16, 15, 14, 9, 3, 2, 1], []) }
def T77 (a b : List RKey) : Tell :=
  Tell.mk (fun x x_1 => false) (fun x x_1 => Orc.no) (fun x => Tree.done (Exit.exit 0) (E77 a b)) (fun x => 0) (fun x => ([16, 15, 14, 9, 3, 2, 1], []))
  (fun x x_1 x_2 => Orc.no) fun x x_1 => Tree.done (Exit.exit 0) (E77 a b)
theorem t77 (a b : List RKey) : levF prog Proofs.Try.f77 [slE 18 encK a, slE 18 encK b, fnV 41, fnV 78] (T77 a b) =
  Tree.loop 3
  (LState.mk
  [(16, AVal.imm (IVal.v (Value.int IntKind.i64 (0 : Int)))), (15, AVal.imm (IVal.v (Value.int IntKind.i64 (↑(List.length (List.map encK a)) : Int)))), (14, AVal.imm (slE 18 encK a)),
  (9, AVal.imm (IVal.v (Value.slice none 0 0))), (3, AVal.imm (fnV 78)), (2, AVal.imm (fnV 41)), (1, AVal.imm (slE 18 encK b))]
  [] 47 5 [])
  (Tree.done (Exit.exit 0) (E77 a b))
  (Tree.need (eqs [(List.length (List.filter (missK b) a), List.length (List.map encK (List.filter (missK b) a)))]) (Tree.done Exit.ret (lret (IVal.sl true false 18 (List.map encK (List.filter (missK b) a)))))) := by kernel_rfl
theorem c77 (a b : List RKey) (ha : a.length ≤ 400000) (hb : b.length ≤ 400000) : ASpec prog 77 [slE 18 encK a, slE 18 encK b, fnV 41, fnV 78] (slE 18 encK (a.filter (missK b))) := by
  refine ASpec.treeW Proofs.Try.f77 (T77 a b) (by kernel_rfl) (by kernel_rfl) (t77 a b) ?_
  refine ⟨?_, ⟨?_, fun _ => ⟨_, rfl, ?_⟩⟩⟩
  · refine .nam (τ := I77 a b 0) (.temp 9 50 53 18 (show 5 ≤ 50 by decide) (.sub ?_)) (l77 a b ha hb _ ?_)
    all_goals exact ⟨⟨rfl, congrArg (fun n => AVal.imm (i64 n)) (by simp), rfl, rfl, rfl, rfl, rfl, trivial⟩, ⟨rfl, trivial⟩, rfl, rfl, rfl⟩
  · exact ⟨by simp, trivial⟩
  · exact ile_sl (.refl _)
end Gp
namespace Gp
/-! payloads, put together and taken apart -/
structure Payload.sm (p : Payload) : Prop where
  o : p.origins.length ≤ 3000
  t : p.paths.length ≤ 3000
  k : p.keys.length ≤ 3000
  p : ∀ a ∈ p.paths, okT a
theorem Payload.sm.ok {p : Payload} (h : p.sm) : p.ok := ⟨by have := h.o; omega, by have := h.t; omega, by have := h.k; omega, h.p⟩
def minusP (p q : Payload) : Payload := ⟨p.origins.filter (missO q.origins), p.paths.filter (missT q.paths), p.keys.filter (missK q.keys)⟩
theorem minusP_sm {p : Payload} (h : p.sm) (q : Payload) : (minusP p q).sm :=
  ⟨Nat.le_trans (List.length_filter_le _ _) h.o, Nat.le_trans (List.length_filter_le _ _) h.t, Nat.le_trans (List.length_filter_le _ _) h.k, fun a ha => h.p a (List.mem_filter.1 ha).1⟩
def plusP (p q : Payload) : Payload := ⟨sorted ltO (p.origins ++ q.origins), sorted ltT (p.paths ++ q.paths), sorted ltK (p.keys ++ q.keys)⟩
def dupP (p : Payload) : Bool := dupO p.origins || (dupT p.paths || dupK p.keys)
theorem totO : Tot ltO := tw_cmpO.tot
theorem totT : Tot ltT := tw_cmpT.tot
theorem totK : Tot ltK := tw_cmpK.tot
theorem mem_sorted {α : Type} [Inhabited α] {od : α → α → Bool} (h : Tot od) {l : List α} {x : α} : x ∈ sorted od l ↔ x ∈ l := (sorted_spec h l).1.mem_iff
theorem plusP_ok {p q : Payload} (hp : p.sm) (hq : q.sm) : (plusP p q).ok := by
  have h1 := hp.o; have h2 := hp.t; have h3 := hp.k; have g1 := hq.o; have g2 := hq.t; have g3 := hq.k
  refine ⟨?_, ?_, ?_, fun a ha => ?_⟩
  · simp only [plusP, sorted_length, List.length_append]; omega
  · simp only [plusP, sorted_length, List.length_append]; omega
  · simp only [plusP, sorted_length, List.length_append]; omega
  · rcases List.mem_append.1 ((mem_sorted totT).1 ha) with h | h
    · exact hp.p a h
    · exact hq.p a h
def T54 (p q : Payload) : Tell :=
  Tell.mk (fun x x_1 => false) (fun x x_1 => Orc.no) (fun x => Tree.fail 1000003 0) (fun x => 0) (fun x => ([], []))
  (oget
  [(3, 1, 4, Orc.call [slE 6 encO p.origins, slE 6 encO q.origins, fnV 35, fnV 75] (slE 6 encO (List.filter (missO q.origins) p.origins))),
  (3, 1, 9, Orc.call [slE 2 encT p.paths, slE 2 encT q.paths, fnV 38, fnV 50] (slE 2 encT (List.filter (missT q.paths) p.paths))),
  (3, 1, 14, Orc.call [slE 18 encK p.keys, slE 18 encK q.keys, fnV 41, fnV 78] (slE 18 encK (List.filter (missK q.keys) p.keys))),
  (3, 1, 16,
  Orc.call [encL (Payload.mk (List.filter (missO q.origins) p.origins) (List.filter (missT q.paths) p.paths) (List.filter (missK q.keys) p.keys))]
  (encL (Payload.mk (List.filter (missO q.origins) p.origins) (List.filter (missT q.paths) p.paths) (List.filter (missK q.keys) p.keys))))])
  fun x x_1 => Tree.fail 1000003 0
theorem t54 (p q : Payload) : levF prog Proofs.Try.f54 [encL p, encL q] (T54 p q) =
  Tree.need
  (ILeL [slE 6 encO p.origins, slE 6 encO q.origins, IVal.v (Value.func (Fn.func 35) (Array.mk []) (Array.mk [])), IVal.v (Value.func (Fn.func 75) (Array.mk []) (Array.mk []))]
  [slE 6 encO p.origins, slE 6 encO q.origins, fnV 35, fnV 75] ∧
  ASpec prog 74 [slE 6 encO p.origins, slE 6 encO q.origins, fnV 35, fnV 75] (slE 6 encO (List.filter (missO q.origins) p.origins)))
  (Tree.need
  (ILeL [slE 2 encT p.paths, slE 2 encT q.paths, IVal.v (Value.func (Fn.func 38) (Array.mk []) (Array.mk [])), IVal.v (Value.func (Fn.func 50) (Array.mk []) (Array.mk []))]
  [slE 2 encT p.paths, slE 2 encT q.paths, fnV 38, fnV 50] ∧
  ASpec prog 76 [slE 2 encT p.paths, slE 2 encT q.paths, fnV 38, fnV 50] (slE 2 encT (List.filter (missT q.paths) p.paths)))
  (Tree.need
  (ILeL [slE 18 encK p.keys, slE 18 encK q.keys, IVal.v (Value.func (Fn.func 41) (Array.mk []) (Array.mk [])), IVal.v (Value.func (Fn.func 78) (Array.mk []) (Array.mk []))]
  [slE 18 encK p.keys, slE 18 encK q.keys, fnV 41, fnV 78] ∧
  ASpec prog 77 [slE 18 encK p.keys, slE 18 encK q.keys, fnV 41, fnV 78] (slE 18 encK (List.filter (missK q.keys) p.keys)))
  (Tree.need
  (ILeL [IVal.agg [slE 6 encO (List.filter (missO q.origins) p.origins), slE 2 encT (List.filter (missT q.paths) p.paths), slE 18 encK (List.filter (missK q.keys) p.keys)]]
  [encL (Payload.mk (List.filter (missO q.origins) p.origins) (List.filter (missT q.paths) p.paths) (List.filter (missK q.keys) p.keys))] ∧
  ASpec prog 10 [encL (Payload.mk (List.filter (missO q.origins) p.origins) (List.filter (missT q.paths) p.paths) (List.filter (missK q.keys) p.keys))]
  (encL (Payload.mk (List.filter (missO q.origins) p.origins) (List.filter (missT q.paths) p.paths) (List.filter (missK q.keys) p.keys))))
  (Tree.done Exit.ret
  (lret
  (IVal.agg
  [slE 6 encO (Payload.mk (List.filter (missO q.origins) p.origins) (List.filter (missT q.paths) p.paths) (List.filter (missK q.keys) p.keys)).origins,
  slE 2 encT (Payload.mk (List.filter (missO q.origins) p.origins) (List.filter (missT q.paths) p.paths) (List.filter (missK q.keys) p.keys)).paths,
  slE 18 encK (Payload.mk (List.filter (missO q.origins) p.origins) (List.filter (missT q.paths) p.paths) (List.filter (missK q.keys) p.keys)).keys])))))) := by kernel_rfl
theorem c54 (p q : Payload) (hp : p.sm) (hq : q.sm) : ASpec prog 54 [encL p, encL q] (encL (minusP p q)) := by
  have h1 := hp.o; have h2 := hp.t; have h3 := hp.k; have g1 := hq.o; have g2 := hq.t; have g3 := hq.k
  refine ASpec.treeW Proofs.Try.f54 (T54 p q) (by kernel_rfl) (by kernel_rfl) (t54 p q) ?_
  refine need_sat ⟨ILeL.refl _, c74 _ _ ?_ ?_⟩ (need_sat ⟨ILeL.refl _, c76 _ _ ?_ ?_ ?_⟩ (need_sat ⟨ILeL.refl _, c77 _ _ ?_ ?_⟩ (need_sat ⟨ILeL.refl _, c10 _ ?_⟩ ⟨_, rfl, ?_⟩)))
  · omega
  · omega
  · omega
  · omega
  · exact hq.p
  · omega
  · omega
  · exact (minusP_sm hp q).ok
  · exact .refl _
def T55 (p q : Payload) : Tell :=
  Tell.mk (fun x x_1 => false) (fun x x_1 => Orc.no) (fun x => Tree.fail 1000003 0) (fun x => 0) (fun x => ([], []))
  (oget
  [(8, 3, 4,
  Orc.call [slE 6 encO p.origins, slE 6 encO q.origins, fnV 35] (IVal.tup [slE 6 encO (sorted ltO (p.origins ++ q.origins)), bo (dupO (sorted ltO (p.origins ++ q.origins)))])),
  (19, 4, 4, Orc.call [slE 2 encT p.paths, slE 2 encT q.paths, fnV 38] (IVal.tup [slE 2 encT (sorted ltT (p.paths ++ q.paths)), bo (dupT (sorted ltT (p.paths ++ q.paths)))])),
  (30, 5, 4, Orc.call [slE 18 encK p.keys, slE 18 encK q.keys, fnV 41] (IVal.tup [slE 18 encK (sorted ltK (p.keys ++ q.keys)), bo (dupK (sorted ltK (p.keys ++ q.keys)))])),
  (41, 6, 1,
  Orc.call [encL (Payload.mk (sorted ltO (p.origins ++ q.origins)) (sorted ltT (p.paths ++ q.paths)) (sorted ltK (p.keys ++ q.keys)))]
  (encL (Payload.mk (sorted ltO (p.origins ++ q.origins)) (sorted ltT (p.paths ++ q.paths)) (sorted ltK (p.keys ++ q.keys)))))])
  fun x x_1 => Tree.fail 1000003 0
theorem t55 (p q : Payload) : levF prog Proofs.Try.f55 [encL p, encL q] (T55 p q) =
  Tree.need
  (ILeL [slE 6 encO p.origins, slE 6 encO q.origins, IVal.v (Value.func (Fn.func 35) (Array.mk []) (Array.mk []))] [slE 6 encO p.origins, slE 6 encO q.origins, fnV 35] ∧
  ASpec prog 79 [slE 6 encO p.origins, slE 6 encO q.origins, fnV 35] (IVal.tup [slE 6 encO (sorted ltO (p.origins ++ q.origins)), bo (dupO (sorted ltO (p.origins ++ q.origins)))]))
  (Tree.need
  (ILeL [slE 2 encT p.paths, slE 2 encT q.paths, IVal.v (Value.func (Fn.func 38) (Array.mk []) (Array.mk []))] [slE 2 encT p.paths, slE 2 encT q.paths, fnV 38] ∧
  ASpec prog 80 [slE 2 encT p.paths, slE 2 encT q.paths, fnV 38] (IVal.tup [slE 2 encT (sorted ltT (p.paths ++ q.paths)), bo (dupT (sorted ltT (p.paths ++ q.paths)))]))
  (Tree.need
  (ILeL [slE 18 encK p.keys, slE 18 encK q.keys, IVal.v (Value.func (Fn.func 41) (Array.mk []) (Array.mk []))] [slE 18 encK p.keys, slE 18 encK q.keys, fnV 41] ∧
  ASpec prog 81 [slE 18 encK p.keys, slE 18 encK q.keys, fnV 41] (IVal.tup [slE 18 encK (sorted ltK (p.keys ++ q.keys)), bo (dupK (sorted ltK (p.keys ++ q.keys)))]))
  (Tree.need
  (ILeL [IVal.agg [slE 6 encO (sorted ltO (p.origins ++ q.origins)), slE 2 encT (sorted ltT (p.paths ++ q.paths)), slE 18 encK (sorted ltK (p.keys ++ q.keys))]]
  [encL (Payload.mk (sorted ltO (p.origins ++ q.origins)) (sorted ltT (p.paths ++ q.paths)) (sorted ltK (p.keys ++ q.keys)))] ∧
  ASpec prog 10 [encL (Payload.mk (sorted ltO (p.origins ++ q.origins)) (sorted ltT (p.paths ++ q.paths)) (sorted ltK (p.keys ++ q.keys)))]
  (encL (Payload.mk (sorted ltO (p.origins ++ q.origins)) (sorted ltT (p.paths ++ q.paths)) (sorted ltK (p.keys ++ q.keys)))))
  (Tree.br (dupO (sorted ltO (p.origins ++ q.origins)))
  (Tree.done Exit.ret (lret (IVal.tup [encL (Payload.mk (sorted ltO (p.origins ++ q.origins)) (sorted ltT (p.paths ++ q.paths)) (sorted ltK (p.keys ++ q.keys))), IVal.v (Value.bool true)])))
  (Tree.br (dupT (sorted ltT (p.paths ++ q.paths)))
  (Tree.done Exit.ret (lret (IVal.tup [encL (Payload.mk (sorted ltO (p.origins ++ q.origins)) (sorted ltT (p.paths ++ q.paths)) (sorted ltK (p.keys ++ q.keys))), IVal.v (Value.bool true)])))
  (Tree.done Exit.ret (lret (IVal.tup [encL (Payload.mk (sorted ltO (p.origins ++ q.origins)) (sorted ltT (p.paths ++ q.paths)) (sorted ltK (p.keys ++ q.keys))), bo (dupK (sorted ltK (p.keys ++ q.keys)))])))))))) := by kernel_rfl
theorem c55 (p q : Payload) (hp : p.sm) (hq : q.sm) : ASpec prog 55 [encL p, encL q] (.tup [encL (plusP p q), bo (dupP (plusP p q))]) := by
  have h1 := hp.o; have h2 := hp.t; have h3 := hp.k; have g1 := hq.o; have g2 := hq.t; have g3 := hq.k
  refine ASpec.treeW Proofs.Try.f55 (T55 p q) (by kernel_rfl) (by kernel_rfl) (t55 p q) ?_
  refine need_sat ⟨ILeL.refl _, c79 _ _ ?_ ?_⟩ (need_sat ⟨ILeL.refl _, c80 _ _ ?_ ?_⟩ (need_sat ⟨ILeL.refl _, c81 _ _ ?_ ?_⟩ (need_sat ⟨ILeL.refl _, c10 _ ?_⟩ ⟨fun h1 => ⟨_, rfl, ?_⟩, fun h1 => ⟨fun h2 => ⟨_, rfl, ?_⟩, fun h2 => ⟨_, rfl, ?_⟩⟩⟩)))
  · omega
  · omega
  · omega
  · omega
  · omega
  · omega
  · exact plusP_ok hp hq
  · refine .tup (.cons (.refl _) (.cons (ile_bo ?_) (.refl _)))
    simp only [dupP, plusP, h1, Bool.true_or]
  · refine .tup (.cons (.refl _) (.cons (ile_bo ?_) (.refl _)))
    simp only [dupP, plusP, h1, h2, Bool.true_or, Bool.or_true]
  · refine .tup (.cons (.refl _) (.cons (ile_bo ?_) (.refl _)))
    simp only [dupP, plusP, h1, h2, Bool.false_or]
def T53 (p : Payload) : Tell :=
  Tell.mk (fun x x_1 => false) (fun x x_1 => Orc.no) (fun x => Tree.fail 1000003 0) (fun x => 0) (fun x => ([], [])) (fun x x_1 x_2 => Orc.no) fun x x_1 => Tree.fail 1000003 0
theorem t53 (p : Payload) : levF prog Proofs.Try.f53 [encL p] (T53 p) =
  Tree.done Exit.ret
  (lret
  (IVal.v (Value.int IntKind.i64 (IntKind.wrap IntKind.i64 (IntKind.wrap IntKind.i64 ((↑(List.length (List.map encO p.origins)) : Int) + (↑(List.length (List.map encT p.paths)) : Int)) + (↑(List.length (List.map encK p.keys)) : Int)))))) := by kernel_rfl
theorem c53 (p : Payload) (hp : p.ok) : ASpec prog 53 [encL p] (i64 (sizeP p)) := by
  have h1 := hp.o; have h2 := hp.t; have h3 := hp.k
  refine ASpec.treeW Proofs.Try.f53 (T53 p) (by kernel_rfl) (by kernel_rfl) (t53 p) ?_
  refine ⟨_, rfl, ?_⟩
  refine ile_i64 ?_
  simp only [List.length_map]
  have e1 : IntKind.i64.wrap ((p.origins.length : Int) + (p.paths.length : Int)) = (p.origins.length : Int) + (p.paths.length : Int) := IntWalk.i64_in _ (by omega)
  rw [e1, IntWalk.i64_in _ (by omega)]; rfl
def apartP (p q : Payload) : Bool := decide (sizeP (minusP p q) = sizeP p)
def T57 (p q : Payload) : Tell :=
  Tell.mk (fun x x_1 => false) (fun x x_1 => Orc.no) (fun x => Tree.fail 1000003 0) (fun x => 0) (fun x => ([], []))
  (oget
  [(3, 1, 2, Orc.call [encL p, encL q] (encL (minusP p q))), (3, 1, 3, Orc.call [encL (minusP p q)] (i64 (sizeP (minusP p q)))),
  (3, 1, 5, Orc.call [encL p] (i64 (sizeP p)))])
  fun x x_1 => Tree.fail 1000003 0
theorem t57 (p q : Payload) : levF prog Proofs.Try.f57 [encL p, encL q] (T57 p q) =
  Tree.need (ILeL [encL p, encL q] [encL p, encL q] ∧ ASpec prog 54 [encL p, encL q] (encL (minusP p q)))
  (Tree.need (ILeL [encL (minusP p q)] [encL (minusP p q)] ∧ ASpec prog 53 [encL (minusP p q)] (i64 (sizeP (minusP p q))))
  (Tree.need (ILeL [encL p] [encL p] ∧ ASpec prog 53 [encL p] (i64 (sizeP p))) (Tree.done Exit.ret (lret (IVal.v (Value.bool (decide (sizeP (minusP p q) = sizeP p)))))))) := by kernel_rfl
theorem c57 (p q : Payload) (hp : p.sm) (hq : q.sm) : ASpec prog 57 [encL p, encL q] (bo (apartP p q)) := by
  refine ASpec.treeW Proofs.Try.f57 (T57 p q) (by kernel_rfl) (by kernel_rfl) (t57 p q) ?_
  refine need_sat ⟨ILeL.refl _, c54 _ _ ?_ ?_⟩ (need_sat ⟨ILeL.refl _, c53 _ ?_⟩ (need_sat ⟨ILeL.refl _, c53 _ ?_⟩ ⟨_, rfl, ?_⟩))
  · exact hp
  · exact hq
  · exact (minusP_sm hp q).ok
  · exact hp.ok
  · exact .refl _
structure Diff where
  gone : Payload
  come : Payload
  deriving DecidableEq, Inhabited
def encD (d : Diff) : IVal := .agg [slE 6 encO d.gone.origins, slE 2 encT d.gone.paths, slE 18 encK d.gone.keys, slE 6 encO d.come.origins, slE 2 encT d.come.paths, slE 18 encK d.come.keys]
structure Diff.sm (d : Diff) : Prop where
  g : d.gone.sm
  c : d.come.sm
def validD (d : Diff) : Int := if ckL d.gone ≠ 0 then ckL d.gone else if ckL d.come ≠ 0 then ckL d.come else if apartP d.gone d.come = true then 0 else 8
def T26 (d : Diff) : Tell :=
  Tell.mk (fun x x_1 => false) (fun x x_1 => Orc.no) (fun x => Tree.fail 1000003 0) (fun x => 0) (fun x => ([], []))
  (oget
  [(2, 1, 2, Orc.call [encL d.gone] (i64 (ckL d.gone))), (8, 3, 2, Orc.call [encL d.come] (i64 (ckL d.come))),
  (8, 4, 7, Orc.call [encL d.gone, encL d.come] (bo (apartP d.gone d.come))), (12, 4, 7, Orc.call [encL d.gone, encL d.come] (bo (apartP d.gone d.come)))])
  fun x x_1 => Tree.fail 1000003 0
theorem t26 (d : Diff) : levF prog Proofs.Try.f26 [encD d] (T26 d) =
  Tree.need (ILeL [IVal.agg [slE 6 encO d.gone.origins, slE 2 encT d.gone.paths, slE 18 encK d.gone.keys]] [encL d.gone] ∧ ASpec prog 13 [encL d.gone] (i64 (ckL d.gone)))
  (Tree.br (decide (ckL d.gone = (0 : Int)))
  (Tree.need (ILeL [IVal.agg [slE 6 encO d.come.origins, slE 2 encT d.come.paths, slE 18 encK d.come.keys]] [encL d.come] ∧ ASpec prog 13 [encL d.come] (i64 (ckL d.come)))
  (Tree.br (decide (ckL d.come = (0 : Int)))
  (Tree.need
  (ILeL [IVal.agg [slE 6 encO d.gone.origins, slE 2 encT d.gone.paths, slE 18 encK d.gone.keys], IVal.agg [slE 6 encO d.come.origins, slE 2 encT d.come.paths, slE 18 encK d.come.keys]]
  [encL d.gone, encL d.come] ∧
  ASpec prog 57 [encL d.gone, encL d.come] (bo (apartP d.gone d.come)))
  (Tree.br (!apartP d.gone d.come) (Tree.done Exit.ret (lret (IVal.v (Value.int IntKind.i64 (8 : Int))))) (Tree.done Exit.ret (lret (IVal.v (Value.int IntKind.i64 (ckL d.come)))))))
  (Tree.done Exit.ret (lret (IVal.v (Value.int IntKind.i64 (ckL d.come)))))))
  (Tree.br (decide (ckL d.gone = (0 : Int)))
  (Tree.need
  (ILeL [IVal.agg [slE 6 encO d.gone.origins, slE 2 encT d.gone.paths, slE 18 encK d.gone.keys], IVal.agg [slE 6 encO d.come.origins, slE 2 encT d.come.paths, slE 18 encK d.come.keys]]
  [encL d.gone, encL d.come] ∧
  ASpec prog 57 [encL d.gone, encL d.come] (bo (apartP d.gone d.come)))
  (Tree.br (!apartP d.gone d.come) (Tree.done Exit.ret (lret (IVal.v (Value.int IntKind.i64 (8 : Int))))) (Tree.done Exit.ret (lret (IVal.v (Value.int IntKind.i64 (ckL d.gone)))))))
  (Tree.done Exit.ret (lret (IVal.v (Value.int IntKind.i64 (ckL d.gone))))))) := by kernel_rfl
theorem c26 (d : Diff) (hd : d.sm) : ASpec prog 26 [encD d] (i64 (validD d)) := by
  refine ASpec.treeW Proofs.Try.f26 (T26 d) (by kernel_rfl) (by kernel_rfl) (t26 d) ?_
  refine need_sat ⟨ILeL.refl _, c13 _⟩ ⟨fun h1 => need_sat ⟨ILeL.refl _, c13 _⟩ ⟨fun h2 => need_sat ⟨ILeL.refl _, c57 _ _ ?_ ?_⟩ ⟨fun h3 => ⟨_, rfl, ?_⟩, fun h3 => ⟨_, rfl, ?_⟩⟩, fun h2 => ⟨_, rfl, ?_⟩⟩, fun h1 => ⟨fun h2 => need_sat ⟨ILeL.refl _, c57 _ _ ?_ ?_⟩ ⟨fun h3 => ⟨_, rfl, ?_⟩, fun h3 => ⟨_, rfl, ?_⟩⟩, fun h2 => ⟨_, rfl, ?_⟩⟩⟩
  · exact hd.g
  · exact hd.c
  · simp only [decide_eq_true_eq, Bool.not_eq_true'] at h1 h2 h3; exact ile_i64 (by simp [validD, h1, h2, h3])
  · simp only [decide_eq_true_eq, Bool.not_eq_false'] at h1 h2 h3; exact ile_i64 (by simp [validD, h1, h2, h3])
  · simp only [decide_eq_true_eq, decide_eq_false_iff_not] at h1 h2; exact ile_i64 (by simp [validD, h1, h2])
  · exact hd.g
  · exact hd.c
  · simp only [decide_eq_true_eq, decide_eq_false_iff_not] at h1 h2; exact absurd h2 h1
  · simp only [decide_eq_true_eq, decide_eq_false_iff_not] at h1 h2; exact absurd h2 h1
  · simp only [decide_eq_true_eq, decide_eq_false_iff_not] at h1 h2; exact ile_i64 (by simp [validD, h1])
end Gp
namespace Gp
def noP : Payload := ⟨[], [], []⟩
def noD : Diff := ⟨noP, noP⟩
def betweenS (a b : Payload) : Diff × Int := if ckL a ≠ 0 then (noD, ckL a) else if ckL b ≠ 0 then (noD, ckL b) else (⟨minusP a b, minusP b a⟩, 0)
def applyS (p : Payload) (d : Diff) : Payload × Int :=
  if ckL p ≠ 0 then (noP, ckL p) else if validD d ≠ 0 then (noP, validD d) else if 0 < sizeP (minusP d.gone p) then (noP, 6)
  else if dupP (plusP (minusP p d.gone) d.come) = true then (noP, 14) else if ckL (plusP (minusP p d.gone) d.come) ≠ 0 then (noP, ckL (plusP (minusP p d.gone) d.come)) else (plusP (minusP p d.gone) d.come, 0)
def inverseS (d : Diff) : Diff × Int := if validD d ≠ 0 then (noD, validD d) else (⟨d.come, d.gone⟩, 0)
def joinP (a b la lb : Payload) : Payload := plusP (minusP a la) (minusP b lb)
def joinB (a b la lb : Payload) : Bool := dupP (plusP (minusP a la) (minusP b lb)) || !apartP a b
def beforeS (a b : Int) : Bool × Int := if IntKind.u32.wrap (b - a) = 2147483648 then (false, 2) else (decide (IntKind.u32.wrap (b - a) ≠ 0) && decide (IntKind.u32.wrap (b - a) < 2147483648), 0)
theorem no_leaf {x y : Int} (h : x = y) : ILe (.tup [.agg [.v (.slice none 0 0), .v (.slice none 0 0), .v (.slice none 0 0)], .v (.int .i64 x)]) (.tup [encL noP, i64 y]) := by
  subst h; exact .tup (.cons (.agg (.cons (.nil _ _ _) (.cons (.nil _ _ _) (.cons (.nil _ _ _) (.refl _))))) (.refl _))
theorem noD_leaf {x y : Int} (h : x = y) : ILe (.tup [.agg [.v (.slice none 0 0), .v (.slice none 0 0), .v (.slice none 0 0), .v (.slice none 0 0), .v (.slice none 0 0), .v (.slice none 0 0)], .v (.int .i64 x)]) (.tup [encD noD, i64 y]) := by
  subst h; exact .tup (.cons (.agg (.cons (.nil _ _ _) (.cons (.nil _ _ _) (.cons (.nil _ _ _) (.cons (.nil _ _ _) (.cons (.nil _ _ _) (.cons (.nil _ _ _) (.refl _)))))))) (.refl _))
theorem pair_leaf {a b : IVal} {x y : Int} (h : a = b) (h2 : x = y) : ILe (.tup [a, .v (.int .i64 x)]) (.tup [b, i64 y]) := by
  subst h h2; exact .refl _
theorem bit_t {p : Prop} [Decidable p] (h : decide p = true) : p := of_decide_eq_true h
theorem bit_f {p : Prop} [Decidable p] (h : decide p = false) : ¬ p := of_decide_eq_false h
theorem nbit_t {p : Prop} [Decidable p] (h : (!decide p) = true) : ¬ p := by simpa using h
theorem nbit_f {p : Prop} [Decidable p] (h : (!decide p) = false) : p := by simpa using h
def T24 (p q : Payload) : Tell :=
  Tell.mk (fun x x_1 => false) (fun x x_1 => Orc.no) (fun x => Tree.fail 1000003 0) (fun x => 0) (fun x => ([], []))
  (oget
  [(4, 1, 1, Orc.call [encL p] (i64 (ckL p))), (9, 3, 1, Orc.call [encL q] (i64 (ckL q))), (11, 6, 2, Orc.call [encL p, encL q] (encL (minusP p q))),
  (14, 6, 2, Orc.call [encL p, encL q] (encL (minusP p q))), (11, 6, 5, Orc.call [encL q, encL p] (encL (minusP q p))),
  (14, 6, 5, Orc.call [encL q, encL p] (encL (minusP q p)))])
  fun x x_1 => Tree.fail 1000003 0
theorem t24 (p q : Payload) : levF prog Proofs.Try.f24 [encL p, encL q] (T24 p q) =
  Tree.need (ILeL [encL p] [encL p] ∧ ASpec prog 13 [encL p] (i64 (ckL p)))
  (Tree.br (decide (ckL p = (0 : Int)))
  (Tree.need (ILeL [encL q] [encL q] ∧ ASpec prog 13 [encL q] (i64 (ckL q)))
  (Tree.br (!decide (ckL q = (0 : Int)))
  (Tree.done Exit.ret
  (lret
  (IVal.tup
  [IVal.agg
  [IVal.v (Value.slice none 0 0), IVal.v (Value.slice none 0 0), IVal.v (Value.slice none 0 0), IVal.v (Value.slice none 0 0),
  IVal.v (Value.slice none 0 0), IVal.v (Value.slice none 0 0)],
  i64 (ckL q)])))
  (Tree.need (ILeL [encL p, encL q] [encL p, encL q] ∧ ASpec prog 54 [encL p, encL q] (encL (minusP p q)))
  (Tree.need (ILeL [encL q, encL p] [encL q, encL p] ∧ ASpec prog 54 [encL q, encL p] (encL (minusP q p)))
  (Tree.done Exit.ret
  (lret
  (IVal.tup
  [IVal.agg
  [slE 6 encO (minusP p q).origins, slE 2 encT (minusP p q).paths, slE 18 encK (minusP p q).keys, slE 6 encO (minusP q p).origins, slE 2 encT (minusP q p).paths,
  slE 18 encK (minusP q p).keys],
  IVal.v (Value.int IntKind.i64 (0 : Int))])))))))
  (Tree.br (!decide (ckL p = (0 : Int)))
  (Tree.done Exit.ret
  (lret
  (IVal.tup
  [IVal.agg
  [IVal.v (Value.slice none 0 0), IVal.v (Value.slice none 0 0), IVal.v (Value.slice none 0 0), IVal.v (Value.slice none 0 0),
  IVal.v (Value.slice none 0 0), IVal.v (Value.slice none 0 0)],
  i64 (ckL p)])))
  (Tree.need (ILeL [encL p, encL q] [encL p, encL q] ∧ ASpec prog 54 [encL p, encL q] (encL (minusP p q)))
  (Tree.need (ILeL [encL q, encL p] [encL q, encL p] ∧ ASpec prog 54 [encL q, encL p] (encL (minusP q p)))
  (Tree.done Exit.ret
  (lret
  (IVal.tup
  [IVal.agg
  [slE 6 encO (minusP p q).origins, slE 2 encT (minusP p q).paths, slE 18 encK (minusP p q).keys, slE 6 encO (minusP q p).origins, slE 2 encT (minusP q p).paths,
  slE 18 encK (minusP q p).keys],
  IVal.v (Value.int IntKind.i64 (0 : Int))]))))))) := by kernel_rfl
theorem c24 (p q : Payload) (hp : p.sm) (hq : q.sm) : ASpec prog 24 [encL p, encL q] (.tup [encD (betweenS p q).1, i64 (betweenS p q).2]) := by
  refine ASpec.treeW Proofs.Try.f24 (T24 p q) (by kernel_rfl) (by kernel_rfl) (t24 p q) ?_
  refine need_sat ⟨ILeL.refl _, c13 _⟩ ⟨fun h1 => need_sat ⟨ILeL.refl _, c13 _⟩ ⟨fun h2 => ⟨_, rfl, ?_⟩, fun h2 => need_sat ⟨ILeL.refl _, c54 _ _ ?_ ?_⟩ (need_sat ⟨ILeL.refl _, c54 _ _ ?_ ?_⟩ ⟨_, rfl, ?_⟩)⟩, fun h1 => ⟨fun h2 => ⟨_, rfl, ?_⟩, fun h2 => need_sat ⟨ILeL.refl _, c54 _ _ ?_ ?_⟩ (need_sat ⟨ILeL.refl _, c54 _ _ ?_ ?_⟩ ⟨_, rfl, ?_⟩)⟩⟩
  all_goals try exact absurd (nbit_f h2) (bit_f h1)
  · rw [betweenS, if_neg (Decidable.not_not.2 (bit_t h1)), if_pos (nbit_t h2)]; exact noD_leaf rfl
  · exact hp
  · exact hq
  · exact hq
  · exact hp
  · rw [betweenS, if_neg (Decidable.not_not.2 (bit_t h1)), if_neg (Decidable.not_not.2 (nbit_f h2))]; exact pair_leaf rfl rfl
  · rw [betweenS, if_pos (bit_f h1)]; exact noD_leaf rfl
def T19 (p : Payload) (d : Diff) : Tell :=
  Tell.mk (fun x x_1 => false) (fun x x_1 => Orc.no) (fun x => Tree.fail 1000003 0) (fun x => 0) (fun x => ([], []))
  (oget
  [(4, 1, 1, Orc.call [encL p] (i64 (ckL p))), (9, 3, 1, Orc.call [encD d] (i64 (validD d))), (11, 6, 3, Orc.call [encL d.gone, encL p] (encL (minusP d.gone p))),
  (14, 6, 3, Orc.call [encL d.gone, encL p] (encL (minusP d.gone p))), (11, 6, 4, Orc.call [encL (minusP d.gone p)] (i64 (sizeP (minusP d.gone p)))),
  (14, 6, 4, Orc.call [encL (minusP d.gone p)] (i64 (sizeP (minusP d.gone p)))), (17, 8, 3, Orc.call [encL p, encL d.gone] (encL (minusP p d.gone))),
  (20, 8, 3, Orc.call [encL p, encL d.gone] (encL (minusP p d.gone))),
  (17, 8, 6, Orc.call [encL (minusP p d.gone), encL d.come] (IVal.tup [encL (plusP (minusP p d.gone) d.come), bo (dupP (plusP (minusP p d.gone) d.come))])),
  (20, 8, 6, Orc.call [encL (minusP p d.gone), encL d.come] (IVal.tup [encL (plusP (minusP p d.gone) d.come), bo (dupP (plusP (minusP p d.gone) d.come))])),
  (31, 11, 1, Orc.call [encL (plusP (minusP p d.gone) d.come)] (i64 (ckL (plusP (minusP p d.gone) d.come)))),
  (34, 11, 1, Orc.call [encL (plusP (minusP p d.gone) d.come)] (i64 (ckL (plusP (minusP p d.gone) d.come))))])
  fun x x_1 => Tree.fail 1000003 0
theorem t19 (p : Payload) (d : Diff) : levF prog Proofs.Try.f19 [encL p, encD d] (T19 p d) =
  Tree.need (ILeL [encL p] [encL p] ∧ ASpec prog 13 [encL p] (i64 (ckL p)))
  (Tree.br (decide (ckL p = (0 : Int)))
  (Tree.need (ILeL [encD d] [encD d] ∧ ASpec prog 26 [encD d] (i64 (validD d)))
  (Tree.br (!decide (validD d = (0 : Int)))
  (Tree.done Exit.ret (lret (IVal.tup [IVal.agg [IVal.v (Value.slice none 0 0), IVal.v (Value.slice none 0 0), IVal.v (Value.slice none 0 0)], i64 (validD d)])))
  (Tree.need (ILeL [IVal.agg [slE 6 encO d.gone.origins, slE 2 encT d.gone.paths, slE 18 encK d.gone.keys], encL p] [encL d.gone, encL p] ∧ ASpec prog 54 [encL d.gone, encL p] (encL (minusP d.gone p)))
  (Tree.need (ILeL [encL (minusP d.gone p)] [encL (minusP d.gone p)] ∧ ASpec prog 53 [encL (minusP d.gone p)] (i64 (sizeP (minusP d.gone p))))
  (Tree.br (decide ((0 : Int) < sizeP (minusP d.gone p)))
  (Tree.done Exit.ret
  (lret (IVal.tup [IVal.agg [IVal.v (Value.slice none 0 0), IVal.v (Value.slice none 0 0), IVal.v (Value.slice none 0 0)], IVal.v (Value.int IntKind.i64 (6 : Int))])))
  (Tree.need
  (ILeL [encL p, IVal.agg [slE 6 encO d.gone.origins, slE 2 encT d.gone.paths, slE 18 encK d.gone.keys]] [encL p, encL d.gone] ∧ ASpec prog 54 [encL p, encL d.gone] (encL (minusP p d.gone)))
  (Tree.need
  (ILeL [encL (minusP p d.gone), IVal.agg [slE 6 encO d.come.origins, slE 2 encT d.come.paths, slE 18 encK d.come.keys]] [encL (minusP p d.gone), encL d.come] ∧
  ASpec prog 55 [encL (minusP p d.gone), encL d.come] (IVal.tup [encL (plusP (minusP p d.gone) d.come), bo (dupP (plusP (minusP p d.gone) d.come))]))
  (Tree.br (dupP (plusP (minusP p d.gone) d.come))
  (Tree.done Exit.ret
  (lret (IVal.tup [IVal.agg [IVal.v (Value.slice none 0 0), IVal.v (Value.slice none 0 0), IVal.v (Value.slice none 0 0)], IVal.v (Value.int IntKind.i64 (14 : Int))])))
  (Tree.need (ILeL [encL (plusP (minusP p d.gone) d.come)] [encL (plusP (minusP p d.gone) d.come)] ∧ ASpec prog 13 [encL (plusP (minusP p d.gone) d.come)] (i64 (ckL (plusP (minusP p d.gone) d.come))))
  (Tree.br (!decide (ckL (plusP (minusP p d.gone) d.come) = (0 : Int)))
  (Tree.done Exit.ret
  (lret
  (IVal.tup [IVal.agg [IVal.v (Value.slice none 0 0), IVal.v (Value.slice none 0 0), IVal.v (Value.slice none 0 0)], i64 (ckL (plusP (minusP p d.gone) d.come))])))
  (Tree.done Exit.ret (lret (IVal.tup [encL (plusP (minusP p d.gone) d.come), IVal.v (Value.int IntKind.i64 (0 : Int))])))))))))))))
  (Tree.br (!decide (ckL p = (0 : Int)))
  (Tree.done Exit.ret (lret (IVal.tup [IVal.agg [IVal.v (Value.slice none 0 0), IVal.v (Value.slice none 0 0), IVal.v (Value.slice none 0 0)], i64 (ckL p)])))
  (Tree.need (ILeL [IVal.agg [slE 6 encO d.gone.origins, slE 2 encT d.gone.paths, slE 18 encK d.gone.keys], encL p] [encL d.gone, encL p] ∧ ASpec prog 54 [encL d.gone, encL p] (encL (minusP d.gone p)))
  (Tree.need (ILeL [encL (minusP d.gone p)] [encL (minusP d.gone p)] ∧ ASpec prog 53 [encL (minusP d.gone p)] (i64 (sizeP (minusP d.gone p))))
  (Tree.br (decide ((0 : Int) < sizeP (minusP d.gone p)))
  (Tree.done Exit.ret
  (lret (IVal.tup [IVal.agg [IVal.v (Value.slice none 0 0), IVal.v (Value.slice none 0 0), IVal.v (Value.slice none 0 0)], IVal.v (Value.int IntKind.i64 (6 : Int))])))
  (Tree.need
  (ILeL [encL p, IVal.agg [slE 6 encO d.gone.origins, slE 2 encT d.gone.paths, slE 18 encK d.gone.keys]] [encL p, encL d.gone] ∧ ASpec prog 54 [encL p, encL d.gone] (encL (minusP p d.gone)))
  (Tree.need
  (ILeL [encL (minusP p d.gone), IVal.agg [slE 6 encO d.come.origins, slE 2 encT d.come.paths, slE 18 encK d.come.keys]] [encL (minusP p d.gone), encL d.come] ∧
  ASpec prog 55 [encL (minusP p d.gone), encL d.come] (IVal.tup [encL (plusP (minusP p d.gone) d.come), bo (dupP (plusP (minusP p d.gone) d.come))]))
  (Tree.br (dupP (plusP (minusP p d.gone) d.come))
  (Tree.done Exit.ret
  (lret (IVal.tup [IVal.agg [IVal.v (Value.slice none 0 0), IVal.v (Value.slice none 0 0), IVal.v (Value.slice none 0 0)], IVal.v (Value.int IntKind.i64 (14 : Int))])))
  (Tree.need (ILeL [encL (plusP (minusP p d.gone) d.come)] [encL (plusP (minusP p d.gone) d.come)] ∧ ASpec prog 13 [encL (plusP (minusP p d.gone) d.come)] (i64 (ckL (plusP (minusP p d.gone) d.come))))
  (Tree.br (!decide (ckL (plusP (minusP p d.gone) d.come) = (0 : Int)))
  (Tree.done Exit.ret
  (lret (IVal.tup [IVal.agg [IVal.v (Value.slice none 0 0), IVal.v (Value.slice none 0 0), IVal.v (Value.slice none 0 0)], i64 (ckL (plusP (minusP p d.gone) d.come))])))
  (Tree.done Exit.ret (lret (IVal.tup [encL (plusP (minusP p d.gone) d.come), IVal.v (Value.int IntKind.i64 (0 : Int))]))))))))))))) := by kernel_rfl
theorem c19 (p : Payload) (d : Diff) (hp : p.sm) (hd : d.sm) : ASpec prog 19 [encL p, encD d] (.tup [encL (applyS p d).1, i64 (applyS p d).2]) := by
  refine ASpec.treeW Proofs.Try.f19 (T19 p d) (by kernel_rfl) (by kernel_rfl) (t19 p d) ?_
  refine need_sat ⟨ILeL.refl _, c13 _⟩ ⟨fun h1 => need_sat ⟨ILeL.refl _, c26 _ ?_⟩ ⟨fun h2 => ⟨_, rfl, ?_⟩, fun h2 => need_sat ⟨ILeL.refl _, c54 _ _ ?_ ?_⟩ (need_sat ⟨ILeL.refl _, c53 _ ?_⟩ ⟨fun h3 => ⟨_, rfl, ?_⟩, fun h3 => need_sat ⟨ILeL.refl _, c54 _ _ ?_ ?_⟩ (need_sat ⟨ILeL.refl _, c55 _ _ ?_ ?_⟩ ⟨fun h4 => ⟨_, rfl, ?_⟩, fun h4 => need_sat ⟨ILeL.refl _, c13 _⟩ ⟨fun h5 => ⟨_, rfl, ?_⟩, fun h5 => ⟨_, rfl, ?_⟩⟩⟩)⟩)⟩, fun h1 => ⟨fun h2 => ⟨_, rfl, ?_⟩, fun h2 => need_sat ⟨ILeL.refl _, c54 _ _ ?_ ?_⟩ (need_sat ⟨ILeL.refl _, c53 _ ?_⟩ ⟨fun h3 => ⟨_, rfl, ?_⟩, fun h3 => need_sat ⟨ILeL.refl _, c54 _ _ ?_ ?_⟩ (need_sat ⟨ILeL.refl _, c55 _ _ ?_ ?_⟩ ⟨fun h4 => ⟨_, rfl, ?_⟩, fun h4 => need_sat ⟨ILeL.refl _, c13 _⟩ ⟨fun h5 => ⟨_, rfl, ?_⟩, fun h5 => ⟨_, rfl, ?_⟩⟩⟩)⟩)⟩⟩
  all_goals try exact absurd (nbit_f h2) (bit_f h1)
  · exact hd
  · rw [applyS, if_neg (Decidable.not_not.2 (bit_t h1)), if_pos (nbit_t h2)]; exact no_leaf rfl
  · exact hd.g
  · exact hp
  · exact (minusP_sm hd.g p).ok
  · rw [applyS, if_neg (Decidable.not_not.2 (bit_t h1)), if_neg (Decidable.not_not.2 (nbit_f h2)), if_pos (bit_t h3)]; exact no_leaf rfl
  · exact hp
  · exact hd.g
  · exact minusP_sm hp _
  · exact hd.c
  · rw [applyS, if_neg (Decidable.not_not.2 (bit_t h1)), if_neg (Decidable.not_not.2 (nbit_f h2)), if_neg (bit_f h3), if_pos h4]; exact no_leaf rfl
  · rw [applyS, if_neg (Decidable.not_not.2 (bit_t h1)), if_neg (Decidable.not_not.2 (nbit_f h2)), if_neg (bit_f h3), if_neg (by rw [h4]; decide), if_pos (nbit_t h5)]; exact no_leaf rfl
  · rw [applyS, if_neg (Decidable.not_not.2 (bit_t h1)), if_neg (Decidable.not_not.2 (nbit_f h2)), if_neg (bit_f h3), if_neg (by rw [h4]; decide), if_neg (Decidable.not_not.2 (nbit_f h5))]; exact pair_leaf rfl rfl
  · rw [applyS, if_pos (bit_f h1)]; exact no_leaf rfl
def T25 (d : Diff) : Tell :=
  Tell.mk (fun x x_1 => false) (fun x x_1 => Orc.no) (fun x => Tree.fail 1000003 0) (fun x => 0) (fun x => ([], []))
  (oget [(3, 1, 1, Orc.call [encD d] (i64 (validD d))), (8, 4, 2, Orc.call [encL d.come] (encL d.come)), (8, 4, 5, Orc.call [encL d.gone] (encL d.gone))]) fun x x_1 =>
  Tree.fail 1000003 0
theorem t25 (d : Diff) : levF prog Proofs.Try.f25 [encD d] (T25 d) =
  Tree.need (ILeL [encD d] [encD d] ∧ ASpec prog 26 [encD d] (i64 (validD d)))
  (Tree.br (!decide (validD d = (0 : Int)))
  (Tree.done Exit.ret
  (lret
  (IVal.tup
  [IVal.agg
  [IVal.v (Value.slice none 0 0), IVal.v (Value.slice none 0 0), IVal.v (Value.slice none 0 0), IVal.v (Value.slice none 0 0),
  IVal.v (Value.slice none 0 0), IVal.v (Value.slice none 0 0)],
  i64 (validD d)])))
  (Tree.need (ILeL [IVal.agg [slE 6 encO d.come.origins, slE 2 encT d.come.paths, slE 18 encK d.come.keys]] [encL d.come] ∧ ASpec prog 10 [encL d.come] (encL d.come))
  (Tree.need (ILeL [IVal.agg [slE 6 encO d.gone.origins, slE 2 encT d.gone.paths, slE 18 encK d.gone.keys]] [encL d.gone] ∧ ASpec prog 10 [encL d.gone] (encL d.gone))
  (Tree.done Exit.ret
  (lret
  (IVal.tup
  [IVal.agg [slE 6 encO d.come.origins, slE 2 encT d.come.paths, slE 18 encK d.come.keys, slE 6 encO d.gone.origins, slE 2 encT d.gone.paths, slE 18 encK d.gone.keys],
  IVal.v (Value.int IntKind.i64 (0 : Int))])))))) := by kernel_rfl
theorem c25 (d : Diff) (hd : d.sm) : ASpec prog 25 [encD d] (.tup [encD (inverseS d).1, i64 (inverseS d).2]) := by
  refine ASpec.treeW Proofs.Try.f25 (T25 d) (by kernel_rfl) (by kernel_rfl) (t25 d) ?_
  refine need_sat ⟨ILeL.refl _, c26 _ ?_⟩ ⟨fun h1 => ⟨_, rfl, ?_⟩, fun h1 => need_sat ⟨ILeL.refl _, c10 _ ?_⟩ (need_sat ⟨ILeL.refl _, c10 _ ?_⟩ ⟨_, rfl, ?_⟩)⟩
  · exact hd
  · rw [inverseS, if_pos (nbit_t h1)]; exact noD_leaf rfl
  · exact hd.c.ok
  · exact hd.g.ok
  · rw [inverseS, if_neg (Decidable.not_not.2 (nbit_f h1))]; exact pair_leaf rfl rfl
def T56 (a b c d : Payload) : Tell :=
  Tell.mk (fun x x_1 => false) (fun x x_1 => Orc.no) (fun x => Tree.fail 1000003 0) (fun x => 0) (fun x => ([], []))
  (oget
  [(6, 1, 2, Orc.call [encL a, encL c] (encL (minusP a c))), (6, 1, 5, Orc.call [encL b, encL d] (encL (minusP b d))),
  (6, 1, 6, Orc.call [encL (minusP a c), encL (minusP b d)] (IVal.tup [encL (plusP (minusP a c) (minusP b d)), bo (dupP (plusP (minusP a c) (minusP b d)))])),
  (19, 2, 5, Orc.call [encL a, encL b] (bo (apartP a b)))])
  fun x x_1 => Tree.fail 1000003 0
theorem t56 (a b c d : Payload) : levF prog Proofs.Try.f56 [encL a, encL b, encL c, encL d] (T56 a b c d) =
  Tree.need (ILeL [encL a, encL c] [encL a, encL c] ∧ ASpec prog 54 [encL a, encL c] (encL (minusP a c)))
  (Tree.need (ILeL [encL b, encL d] [encL b, encL d] ∧ ASpec prog 54 [encL b, encL d] (encL (minusP b d)))
  (Tree.need
  (ILeL [encL (minusP a c), encL (minusP b d)] [encL (minusP a c), encL (minusP b d)] ∧
  ASpec prog 55 [encL (minusP a c), encL (minusP b d)] (IVal.tup [encL (plusP (minusP a c) (minusP b d)), bo (dupP (plusP (minusP a c) (minusP b d)))]))
  (Tree.br (dupP (plusP (minusP a c) (minusP b d))) (Tree.done Exit.ret (lret (IVal.tup [encL (plusP (minusP a c) (minusP b d)), IVal.v (Value.bool true)])))
  (Tree.need (ILeL [encL a, encL b] [encL a, encL b] ∧ ASpec prog 57 [encL a, encL b] (bo (apartP a b))) (Tree.done Exit.ret (lret (IVal.tup [encL (plusP (minusP a c) (minusP b d)), IVal.v (Value.bool !apartP a b)]))))))) := by kernel_rfl
theorem c56 (a b c d : Payload) (ha : a.sm) (hb : b.sm) (hc : c.sm) (hd : d.sm) : ASpec prog 56 [encL a, encL b, encL c, encL d] (.tup [encL (joinP a b c d), bo (joinB a b c d)]) := by
  refine ASpec.treeW Proofs.Try.f56 (T56 a b c d) (by kernel_rfl) (by kernel_rfl) (t56 a b c d) ?_
  refine need_sat ⟨ILeL.refl _, c54 _ _ ?_ ?_⟩ (need_sat ⟨ILeL.refl _, c54 _ _ ?_ ?_⟩ (need_sat ⟨ILeL.refl _, c55 _ _ ?_ ?_⟩ ⟨fun h1 => ⟨_, rfl, ?_⟩, fun h1 => need_sat ⟨ILeL.refl _, c57 _ _ ?_ ?_⟩ ⟨_, rfl, ?_⟩⟩))
  · exact ha
  · exact hc
  · exact hb
  · exact hd
  · exact minusP_sm ha _
  · exact minusP_sm hb _
  · exact .tup (.cons (.refl _) (.cons (ile_bo (by simp only [joinB, h1, Bool.true_or])) (.refl _)))
  · exact ha
  · exact hb
  · exact .tup (.cons (.refl _) (.cons (ile_bo (by simp only [joinB, h1, Bool.false_or])) (.refl _)))
def T11 (a b : Int) : Tell :=
  Tell.mk (fun x x_1 => false) (fun x x_1 => Orc.no) (fun x => Tree.fail 1000003 0) (fun x => 0) (fun x => ([], [])) (fun x x_1 x_2 => Orc.no) fun x x_1 => Tree.fail 1000003 0
theorem t11 (a b : Int) : levF prog Proofs.Try.f11 [u32 a, u32 b] (T11 a b) =
  Tree.br (decide (IntKind.wrap IntKind.u32 (b - a) = (2147483648 : Int))) (Tree.done Exit.ret (lret (IVal.tup [IVal.v (Value.bool false), IVal.v (Value.int IntKind.i64 (2 : Int))])))
  (Tree.br (!decide (IntKind.wrap IntKind.u32 (b - a) = (0 : Int))) (Tree.done Exit.ret (lret (IVal.tup [IVal.v (Value.bool (decide (IntKind.wrap IntKind.u32 (b - a) < (2147483648 : Int)))), IVal.v (Value.int IntKind.i64 (0 : Int))])))
  (Tree.done Exit.ret (lret (IVal.tup [IVal.v (Value.bool false), IVal.v (Value.int IntKind.i64 (0 : Int))])))) := by kernel_rfl
theorem c11 (a b : Int) : ASpec prog 11 [u32 a, u32 b] (.tup [bo (beforeS a b).1, i64 (beforeS a b).2]) := by
  refine ASpec.treeW Proofs.Try.f11 (T11 a b) (by kernel_rfl) (by kernel_rfl) (t11 a b) ?_
  refine ⟨fun h1 => ⟨_, rfl, ?_⟩, fun h1 => ⟨fun h2 => ⟨_, rfl, ?_⟩, fun h2 => ⟨_, rfl, ?_⟩⟩⟩
  · rw [beforeS, if_pos (bit_t h1)]; exact .refl _
  · rw [beforeS, if_neg (bit_f h1)]
    exact .tup (.cons (ile_bo (by rw [decide_eq_true (nbit_t h2), Bool.true_and])) (.refl _))
  · rw [beforeS, if_neg (bit_f h1)]
    exact .tup (.cons (ile_bo (by rw [decide_eq_false (Decidable.not_not.2 (nbit_f h2)), Bool.false_and])) (.refl _))
def T21 (d f : Diff) : Tell :=
  Tell.mk (fun x x_1 => false) (fun x x_1 => Orc.no) (fun x => Tree.fail 1000003 0) (fun x => 0) (fun x => ([], []))
  (oget [(3, 1, 4, Orc.call [encL d.gone, encL f.gone] (bo (decide (d.gone = f.gone)))), (3, 1, 10, Orc.call [encL d.come, encL f.come] (bo (decide (d.come = f.come))))]) fun x x_1 =>
  Tree.fail 1000003 0
theorem t21 (d f : Diff) : levF prog Proofs.Try.f21 [encD d, encD f] (T21 d f) =
  Tree.need
  (ILeL [IVal.agg [slE 6 encO d.gone.origins, slE 2 encT d.gone.paths, slE 18 encK d.gone.keys], IVal.agg [slE 6 encO f.gone.origins, slE 2 encT f.gone.paths, slE 18 encK f.gone.keys]]
  [encL d.gone, encL f.gone] ∧
  ASpec prog 16 [encL d.gone, encL f.gone] (bo (decide (d.gone = f.gone))))
  (Tree.br (decide (d.gone = f.gone))
  (Tree.need
  (ILeL [IVal.agg [slE 6 encO d.come.origins, slE 2 encT d.come.paths, slE 18 encK d.come.keys], IVal.agg [slE 6 encO f.come.origins, slE 2 encT f.come.paths, slE 18 encK f.come.keys]]
  [encL d.come, encL f.come] ∧
  ASpec prog 16 [encL d.come, encL f.come] (bo (decide (d.come = f.come))))
  (Tree.done Exit.ret (lret (IVal.v (Value.bool (decide (d.come = f.come)))))))
  (Tree.done Exit.ret (lret (IVal.v (Value.bool false))))) := by kernel_rfl
theorem c21 (d f : Diff) (hd : d.sm) : ASpec prog 21 [encD d, encD f] (bo (decide (d = f))) := by
  refine ASpec.treeW Proofs.Try.f21 (T21 d f) (by kernel_rfl) (by kernel_rfl) (t21 d f) ?_
  have hab : decide (d = f) = (decide (d.gone = f.gone) && decide (d.come = f.come)) := by
    rw [Bool.eq_iff_iff]; cases d; cases f; simp
  rw [hab]
  refine need_sat ⟨ILeL.refl _, c16 _ _ ?_⟩ ⟨fun h1 => need_sat ⟨ILeL.refl _, c16 _ _ ?_⟩ ⟨_, rfl, ?_⟩, fun h1 => ⟨_, rfl, ?_⟩⟩
  · exact hd.g.ok
  · exact hd.c.ok
  · exact ile_bo (by rw [h1, Bool.true_and])
  · exact ile_bo (by rw [h1, Bool.false_and])
def T18 (d : Diff) : Tell :=
  Tell.mk (fun x x_1 => false) (fun x x_1 => Orc.no) (fun x => Tree.fail 1000003 0) (fun x => 0) (fun x => ([], []))
  (oget [(2, 1, 2, Orc.call [encL d.gone] (bo (greatP d.gone))), (2, 1, 6, Orc.call [encL d.come] (bo (greatP d.come)))]) fun x x_1 => Tree.fail 1000003 0
theorem t18 (d : Diff) : levF prog Proofs.Try.f18 [encD d] (T18 d) =
  Tree.need (ILeL [IVal.agg [slE 6 encO d.gone.origins, slE 2 encT d.gone.paths, slE 18 encK d.gone.keys]] [encL d.gone] ∧ ASpec prog 8 [encL d.gone] (bo (greatP d.gone)))
  (Tree.br (greatP d.gone) (Tree.done Exit.ret (lret (IVal.v (Value.bool true))))
  (Tree.need (ILeL [IVal.agg [slE 6 encO d.come.origins, slE 2 encT d.come.paths, slE 18 encK d.come.keys]] [encL d.come] ∧ ASpec prog 8 [encL d.come] (bo (greatP d.come)))
  (Tree.done Exit.ret (lret (IVal.v (Value.bool (greatP d.come))))))) := by kernel_rfl
theorem c18 (d : Diff) (hg : d.gone.paths.length ≤ 2 ^ 63 - 1) (hc : d.come.paths.length ≤ 2 ^ 63 - 1) : ASpec prog 18 [encD d] (bo (greatP d.gone || greatP d.come)) := by
  refine ASpec.treeW Proofs.Try.f18 (T18 d) (by kernel_rfl) (by kernel_rfl) (t18 d) ?_
  refine need_sat ⟨ILeL.refl _, c8 _ ?_⟩ ⟨fun h1 => ⟨_, rfl, ?_⟩, fun h1 => need_sat ⟨ILeL.refl _, c8 _ ?_⟩ ⟨_, rfl, ?_⟩⟩
  · exact hg
  · exact ile_bo (by rw [h1, Bool.true_or])
  · exact hc
  · exact ile_bo (by rw [h1, Bool.false_or])
def composeS (d f : Diff) : Diff × Int :=
  if validD d ≠ 0 then (noD, validD d) else if validD f ≠ 0 then (noD, validD f)
  else if joinB d.gone f.gone f.come d.come = true then (noD, 6) else if joinB d.come f.come f.gone d.gone = true then (noD, 14)
  else if ckL (joinP d.gone f.gone f.come d.come) ≠ 0 ∨ ckL (joinP d.come f.come f.gone d.gone) ≠ 0 then (noD, 4)
  else (⟨joinP d.gone f.gone f.come d.come, joinP d.come f.come f.gone d.gone⟩, 0)
def T20 (d f : Diff) : Tell :=
  Tell.mk (fun x x_1 => false) (fun x x_1 => Orc.no) (fun x => Tree.fail 1000003 0) (fun x => 0) (fun x => ([], []))
  (oget
  [(4, 1, 1, Orc.call [encD d] (i64 (validD d))), (9, 3, 1, Orc.call [encD f] (i64 (validD f))),
  (12, 7, 9, Orc.call [encL d.gone, encL f.gone, encL f.come, encL d.come] (IVal.tup [encL (joinP d.gone f.gone f.come d.come), bo (joinB d.gone f.gone f.come d.come)])),
  (15, 7, 9, Orc.call [encL d.gone, encL f.gone, encL f.come, encL d.come] (IVal.tup [encL (joinP d.gone f.gone f.come d.come), bo (joinB d.gone f.gone f.come d.come)])),
  (29, 10, 9, Orc.call [encL d.come, encL f.come, encL f.gone, encL d.gone] (IVal.tup [encL (joinP d.come f.come f.gone d.gone), bo (joinB d.come f.come f.gone d.gone)])),
  (32, 10, 9, Orc.call [encL d.come, encL f.come, encL f.gone, encL d.gone] (IVal.tup [encL (joinP d.come f.come f.gone d.gone), bo (joinB d.come f.come f.gone d.gone)])),
  (46, 13, 1, Orc.call [encL (joinP d.gone f.gone f.come d.come)] (i64 (ckL (joinP d.gone f.gone f.come d.come)))),
  (49, 13, 1, Orc.call [encL (joinP d.gone f.gone f.come d.come)] (i64 (ckL (joinP d.gone f.gone f.come d.come)))),
  (46, 13, 5, Orc.call [encL (joinP d.come f.come f.gone d.gone)] (i64 (ckL (joinP d.come f.come f.gone d.gone)))),
  (49, 13, 5, Orc.call [encL (joinP d.come f.come f.gone d.gone)] (i64 (ckL (joinP d.come f.come f.gone d.gone))))])
  fun x x_1 => Tree.fail 1000003 0
theorem t20 (d f : Diff) : levF prog Proofs.Try.f20 [encD d, encD f] (T20 d f) =
  Tree.need (ILeL [encD d] [encD d] ∧ ASpec prog 26 [encD d] (i64 (validD d)))
  (Tree.br (decide (validD d = (0 : Int)))
  (Tree.need (ILeL [encD f] [encD f] ∧ ASpec prog 26 [encD f] (i64 (validD f)))
  (Tree.br (!decide (validD f = (0 : Int)))
  (Tree.done Exit.ret
  (lret
  (IVal.tup
  [IVal.agg
  [IVal.v (Value.slice none 0 0), IVal.v (Value.slice none 0 0), IVal.v (Value.slice none 0 0), IVal.v (Value.slice none 0 0),
  IVal.v (Value.slice none 0 0), IVal.v (Value.slice none 0 0)],
  i64 (validD f)])))
  (Tree.need
  (ILeL
  [IVal.agg [slE 6 encO d.gone.origins, slE 2 encT d.gone.paths, slE 18 encK d.gone.keys], IVal.agg [slE 6 encO f.gone.origins, slE 2 encT f.gone.paths, slE 18 encK f.gone.keys],
  IVal.agg [slE 6 encO f.come.origins, slE 2 encT f.come.paths, slE 18 encK f.come.keys], IVal.agg [slE 6 encO d.come.origins, slE 2 encT d.come.paths, slE 18 encK d.come.keys]]
  [encL d.gone, encL f.gone, encL f.come, encL d.come] ∧
  ASpec prog 56 [encL d.gone, encL f.gone, encL f.come, encL d.come] (IVal.tup [encL (joinP d.gone f.gone f.come d.come), bo (joinB d.gone f.gone f.come d.come)]))
  (Tree.br (joinB d.gone f.gone f.come d.come)
  (Tree.done Exit.ret
  (lret
  (IVal.tup
  [IVal.agg
  [IVal.v (Value.slice none 0 0), IVal.v (Value.slice none 0 0), IVal.v (Value.slice none 0 0), IVal.v (Value.slice none 0 0),
  IVal.v (Value.slice none 0 0), IVal.v (Value.slice none 0 0)],
  IVal.v (Value.int IntKind.i64 (6 : Int))])))
  (Tree.need
  (ILeL
  [IVal.agg [slE 6 encO d.come.origins, slE 2 encT d.come.paths, slE 18 encK d.come.keys],
  IVal.agg [slE 6 encO f.come.origins, slE 2 encT f.come.paths, slE 18 encK f.come.keys],
  IVal.agg [slE 6 encO f.gone.origins, slE 2 encT f.gone.paths, slE 18 encK f.gone.keys],
  IVal.agg [slE 6 encO d.gone.origins, slE 2 encT d.gone.paths, slE 18 encK d.gone.keys]]
  [encL d.come, encL f.come, encL f.gone, encL d.gone] ∧
  ASpec prog 56 [encL d.come, encL f.come, encL f.gone, encL d.gone] (IVal.tup [encL (joinP d.come f.come f.gone d.gone), bo (joinB d.come f.come f.gone d.gone)]))
  (Tree.br (joinB d.come f.come f.gone d.gone)
  (Tree.done Exit.ret
  (lret
  (IVal.tup
  [IVal.agg
  [IVal.v (Value.slice none 0 0), IVal.v (Value.slice none 0 0), IVal.v (Value.slice none 0 0), IVal.v (Value.slice none 0 0),
  IVal.v (Value.slice none 0 0), IVal.v (Value.slice none 0 0)],
  IVal.v (Value.int IntKind.i64 (14 : Int))])))
  (Tree.need (ILeL [encL (joinP d.gone f.gone f.come d.come)] [encL (joinP d.gone f.gone f.come d.come)] ∧ ASpec prog 13 [encL (joinP d.gone f.gone f.come d.come)] (i64 (ckL (joinP d.gone f.gone f.come d.come))))
  (Tree.br (!decide (ckL (joinP d.gone f.gone f.come d.come) = (0 : Int)))
  (Tree.done Exit.ret
  (lret
  (IVal.tup
  [IVal.agg
  [IVal.v (Value.slice none 0 0), IVal.v (Value.slice none 0 0), IVal.v (Value.slice none 0 0), IVal.v (Value.slice none 0 0),
  IVal.v (Value.slice none 0 0), IVal.v (Value.slice none 0 0)],
  IVal.v (Value.int IntKind.i64 (4 : Int))])))
  (Tree.need (ILeL [encL (joinP d.come f.come f.gone d.gone)] [encL (joinP d.come f.come f.gone d.gone)] ∧ ASpec prog 13 [encL (joinP d.come f.come f.gone d.gone)] (i64 (ckL (joinP d.come f.come f.gone d.gone))))
  (Tree.br (!decide (ckL (joinP d.come f.come f.gone d.gone) = (0 : Int)))
  (Tree.done Exit.ret
  (lret
  (IVal.tup
  [IVal.agg
  [IVal.v (Value.slice none 0 0), IVal.v (Value.slice none 0 0), IVal.v (Value.slice none 0 0), IVal.v (Value.slice none 0 0),
  IVal.v (Value.slice none 0 0), IVal.v (Value.slice none 0 0)],
  IVal.v (Value.int IntKind.i64 (4 : Int))])))
  (Tree.done Exit.ret
  (lret
  (IVal.tup
  [IVal.agg
  [slE 6 encO (joinP d.gone f.gone f.come d.come).origins, slE 2 encT (joinP d.gone f.gone f.come d.come).paths, slE 18 encK (joinP d.gone f.gone f.come d.come).keys,
  slE 6 encO (joinP d.come f.come f.gone d.gone).origins, slE 2 encT (joinP d.come f.come f.gone d.gone).paths, slE 18 encK (joinP d.come f.come f.gone d.gone).keys],
  IVal.v (Value.int IntKind.i64 (0 : Int))])))))))))))))
  (Tree.br (!decide (validD d = (0 : Int)))
  (Tree.done Exit.ret
  (lret
  (IVal.tup
  [IVal.agg
  [IVal.v (Value.slice none 0 0), IVal.v (Value.slice none 0 0), IVal.v (Value.slice none 0 0), IVal.v (Value.slice none 0 0),
  IVal.v (Value.slice none 0 0), IVal.v (Value.slice none 0 0)],
  i64 (validD d)])))
  (Tree.need
  (ILeL
  [IVal.agg [slE 6 encO d.gone.origins, slE 2 encT d.gone.paths, slE 18 encK d.gone.keys], IVal.agg [slE 6 encO f.gone.origins, slE 2 encT f.gone.paths, slE 18 encK f.gone.keys],
  IVal.agg [slE 6 encO f.come.origins, slE 2 encT f.come.paths, slE 18 encK f.come.keys], IVal.agg [slE 6 encO d.come.origins, slE 2 encT d.come.paths, slE 18 encK d.come.keys]]
  [encL d.gone, encL f.gone, encL f.come, encL d.come] ∧
  ASpec prog 56 [encL d.gone, encL f.gone, encL f.come, encL d.come] (IVal.tup [encL (joinP d.gone f.gone f.come d.come), bo (joinB d.gone f.gone f.come d.come)]))
  (Tree.br (joinB d.gone f.gone f.come d.come)
  (Tree.done Exit.ret
  (lret
  (IVal.tup
  [IVal.agg
  [IVal.v (Value.slice none 0 0), IVal.v (Value.slice none 0 0), IVal.v (Value.slice none 0 0), IVal.v (Value.slice none 0 0),
  IVal.v (Value.slice none 0 0), IVal.v (Value.slice none 0 0)],
  IVal.v (Value.int IntKind.i64 (6 : Int))])))
  (Tree.need
  (ILeL
  [IVal.agg [slE 6 encO d.come.origins, slE 2 encT d.come.paths, slE 18 encK d.come.keys], IVal.agg [slE 6 encO f.come.origins, slE 2 encT f.come.paths, slE 18 encK f.come.keys],
  IVal.agg [slE 6 encO f.gone.origins, slE 2 encT f.gone.paths, slE 18 encK f.gone.keys],
  IVal.agg [slE 6 encO d.gone.origins, slE 2 encT d.gone.paths, slE 18 encK d.gone.keys]]
  [encL d.come, encL f.come, encL f.gone, encL d.gone] ∧
  ASpec prog 56 [encL d.come, encL f.come, encL f.gone, encL d.gone] (IVal.tup [encL (joinP d.come f.come f.gone d.gone), bo (joinB d.come f.come f.gone d.gone)]))
  (Tree.br (joinB d.come f.come f.gone d.gone)
  (Tree.done Exit.ret
  (lret
  (IVal.tup
  [IVal.agg
  [IVal.v (Value.slice none 0 0), IVal.v (Value.slice none 0 0), IVal.v (Value.slice none 0 0), IVal.v (Value.slice none 0 0),
  IVal.v (Value.slice none 0 0), IVal.v (Value.slice none 0 0)],
  IVal.v (Value.int IntKind.i64 (14 : Int))])))
  (Tree.need (ILeL [encL (joinP d.gone f.gone f.come d.come)] [encL (joinP d.gone f.gone f.come d.come)] ∧ ASpec prog 13 [encL (joinP d.gone f.gone f.come d.come)] (i64 (ckL (joinP d.gone f.gone f.come d.come))))
  (Tree.br (!decide (ckL (joinP d.gone f.gone f.come d.come) = (0 : Int)))
  (Tree.done Exit.ret
  (lret
  (IVal.tup
  [IVal.agg
  [IVal.v (Value.slice none 0 0), IVal.v (Value.slice none 0 0), IVal.v (Value.slice none 0 0), IVal.v (Value.slice none 0 0),
  IVal.v (Value.slice none 0 0), IVal.v (Value.slice none 0 0)],
  IVal.v (Value.int IntKind.i64 (4 : Int))])))
  (Tree.need (ILeL [encL (joinP d.come f.come f.gone d.gone)] [encL (joinP d.come f.come f.gone d.gone)] ∧ ASpec prog 13 [encL (joinP d.come f.come f.gone d.gone)] (i64 (ckL (joinP d.come f.come f.gone d.gone))))
  (Tree.br (!decide (ckL (joinP d.come f.come f.gone d.gone) = (0 : Int)))
  (Tree.done Exit.ret
  (lret
  (IVal.tup
  [IVal.agg
  [IVal.v (Value.slice none 0 0), IVal.v (Value.slice none 0 0), IVal.v (Value.slice none 0 0), IVal.v (Value.slice none 0 0),
  IVal.v (Value.slice none 0 0), IVal.v (Value.slice none 0 0)],
  IVal.v (Value.int IntKind.i64 (4 : Int))])))
  (Tree.done Exit.ret
  (lret
  (IVal.tup
  [IVal.agg
  [slE 6 encO (joinP d.gone f.gone f.come d.come).origins, slE 2 encT (joinP d.gone f.gone f.come d.come).paths, slE 18 encK (joinP d.gone f.gone f.come d.come).keys,
  slE 6 encO (joinP d.come f.come f.gone d.gone).origins, slE 2 encT (joinP d.come f.come f.gone d.gone).paths, slE 18 encK (joinP d.come f.come f.gone d.gone).keys],
  IVal.v (Value.int IntKind.i64 (0 : Int))]))))))))))))) := by kernel_rfl
theorem c20 (d f : Diff) (hd : d.sm) (hf : f.sm) : ASpec prog 20 [encD d, encD f] (.tup [encD (composeS d f).1, i64 (composeS d f).2]) := by
  refine ASpec.treeW Proofs.Try.f20 (T20 d f) (by kernel_rfl) (by kernel_rfl) (t20 d f) ?_
  refine need_sat ⟨ILeL.refl _, c26 _ ?_⟩ ⟨fun h1 => need_sat ⟨ILeL.refl _, c26 _ ?_⟩ ⟨fun h2 => ⟨_, rfl, ?_⟩, fun h2 => need_sat ⟨ILeL.refl _, c56 _ _ _ _ ?_ ?_ ?_ ?_⟩ ⟨fun h3 => ⟨_, rfl, ?_⟩, fun h3 => need_sat ⟨ILeL.refl _, c56 _ _ _ _ ?_ ?_ ?_ ?_⟩ ⟨fun h4 => ⟨_, rfl, ?_⟩, fun h4 => need_sat ⟨ILeL.refl _, c13 _⟩ ⟨fun h5 => ⟨_, rfl, ?_⟩, fun h5 => need_sat ⟨ILeL.refl _, c13 _⟩ ⟨fun h6 => ⟨_, rfl, ?_⟩, fun h6 => ⟨_, rfl, ?_⟩⟩⟩⟩⟩⟩, fun h1 => ⟨fun h2 => ⟨_, rfl, ?_⟩, fun h2 => need_sat ⟨ILeL.refl _, c56 _ _ _ _ ?_ ?_ ?_ ?_⟩ ⟨fun h3 => ⟨_, rfl, ?_⟩, fun h3 => need_sat ⟨ILeL.refl _, c56 _ _ _ _ ?_ ?_ ?_ ?_⟩ ⟨fun h4 => ⟨_, rfl, ?_⟩, fun h4 => need_sat ⟨ILeL.refl _, c13 _⟩ ⟨fun h5 => ⟨_, rfl, ?_⟩, fun h5 => need_sat ⟨ILeL.refl _, c13 _⟩ ⟨fun h6 => ⟨_, rfl, ?_⟩, fun h6 => ⟨_, rfl, ?_⟩⟩⟩⟩⟩⟩⟩
  all_goals try exact absurd (nbit_f h2) (bit_f h1)
  · exact hd
  · exact hf
  · rw [composeS, if_neg (Decidable.not_not.2 (bit_t h1)), if_pos (nbit_t h2)]; exact noD_leaf rfl
  · exact hd.g
  · exact hf.g
  · exact hf.c
  · exact hd.c
  · rw [composeS, if_neg (Decidable.not_not.2 (bit_t h1)), if_neg (Decidable.not_not.2 (nbit_f h2)), if_pos h3]; exact noD_leaf rfl
  · exact hd.c
  · exact hf.c
  · exact hf.g
  · exact hd.g
  · rw [composeS, if_neg (Decidable.not_not.2 (bit_t h1)), if_neg (Decidable.not_not.2 (nbit_f h2)), if_neg (by rw [h3]; decide), if_pos h4]; exact noD_leaf rfl
  · rw [composeS, if_neg (Decidable.not_not.2 (bit_t h1)), if_neg (Decidable.not_not.2 (nbit_f h2)), if_neg (by rw [h3]; decide), if_neg (by rw [h4]; decide), if_pos (.inl (nbit_t h5))]; exact noD_leaf rfl
  · rw [composeS, if_neg (Decidable.not_not.2 (bit_t h1)), if_neg (Decidable.not_not.2 (nbit_f h2)), if_neg (by rw [h3]; decide), if_neg (by rw [h4]; decide), if_pos (.inr (nbit_t h6))]; exact noD_leaf rfl
  · rw [composeS, if_neg (Decidable.not_not.2 (bit_t h1)), if_neg (Decidable.not_not.2 (nbit_f h2)), if_neg (by rw [h3]; decide), if_neg (by rw [h4]; decide), if_neg (by rintro (h | h); exact h (nbit_f h5); exact h (nbit_f h6))]; exact pair_leaf rfl rfl
  · rw [composeS, if_pos (bit_f h1)]; exact noD_leaf rfl
end Gp
