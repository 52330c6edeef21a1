/- Part 8 of the walk and of the plain law of DiffApplies. -/
import Derived.Test.YtcccdohpepnfjaaGreatW7
set_option maxRecDepth 100000
set_option maxHeartbeats 0
set_option linter.unusedVariables false
set_option linter.unusedSimpArgs false
open Go Go.Abs
namespace Gp
def T57 (a b : Origin) : Tell :=
  Tell.mk (fun x x_1 => false) (fun x x_1 => Orc.no) (fun x => Tree.fail 1000003 0) (fun x => 0) (fun x => ([], [])) (fun x x_1 x_2 => Orc.no) fun x x_1 => Tree.fail 1000003 0
theorem t57 (a b : Origin) : levF prog Proofs.Tryz.f57 [encO a, encO b] (T57 a b) =
  Tree.done Exit.ret
  (lret
  (IVal.v
  (Value.bool
  (if BinOp.eql = BinOp.neq then
  !(decide (a.asn = b.asn) && (decide (a.pfx.fam = b.pfx.fam) && (decide (a.pfx.addr.hi = b.pfx.addr.hi) && (decide (a.pfx.addr.lo = b.pfx.addr.lo) && (decide (a.pfx.len = b.pfx.len) && (decide (a.max = b.max) && true))))))
  else decide (a.asn = b.asn) && (decide (a.pfx.fam = b.pfx.fam) && (decide (a.pfx.addr.hi = b.pfx.addr.hi) && (decide (a.pfx.addr.lo = b.pfx.addr.lo) && (decide (a.pfx.len = b.pfx.len) && (decide (a.max = b.max) && true))))))))) := by kernel_rfl
def T61 (a b : RKey) : Tell :=
  Tell.mk (fun x x_1 => false) (fun x x_1 => Orc.no) (fun x => Tree.fail 1000003 0) (fun x => 0) (fun x => ([], [])) (fun x x_1 x_2 => Orc.no) fun x x_1 => Tree.fail 1000003 0
theorem t61 (a b : RKey) : levF prog Proofs.Tryz.f61 [encK a, encK b] (T61 a b) =
  Tree.done Exit.ret
  (lret
  (IVal.v
  (Value.bool
  (if BinOp.eql = BinOp.neq then
  !(decide (a.asn = b.asn) &&
  (decide (a.root[0] = b.root[0]) &&
  (decide (a.root[1] = b.root[1]) &&
  (decide (a.root[2] = b.root[2]) &&
  (decide (a.root[3] = b.root[3]) &&
  (decide (a.root[4] = b.root[4]) &&
  (decide (a.root[5] = b.root[5]) &&
  (decide (a.root[6] = b.root[6]) &&
  (decide (a.root[7] = b.root[7]) &&
  (decide (a.root[8] = b.root[8]) &&
  (decide (a.root[9] = b.root[9]) &&
  (decide (a.root[10] = b.root[10]) &&
  (decide (a.root[11] = b.root[11]) &&
  (decide (a.root[12] = b.root[12]) &&
  (decide (a.root[13] = b.root[13]) &&
  (decide (a.root[14] = b.root[14]) && (decide (a.root[15] = b.root[15]) && (decide (a.height = b.height) && true))))))))))))))))))
  else
  decide (a.asn = b.asn) &&
  (decide (a.root[0] = b.root[0]) &&
  (decide (a.root[1] = b.root[1]) &&
  (decide (a.root[2] = b.root[2]) &&
  (decide (a.root[3] = b.root[3]) &&
  (decide (a.root[4] = b.root[4]) &&
  (decide (a.root[5] = b.root[5]) &&
  (decide (a.root[6] = b.root[6]) &&
  (decide (a.root[7] = b.root[7]) &&
  (decide (a.root[8] = b.root[8]) &&
  (decide (a.root[9] = b.root[9]) &&
  (decide (a.root[10] = b.root[10]) &&
  (decide (a.root[11] = b.root[11]) &&
  (decide (a.root[12] = b.root[12]) &&
  (decide (a.root[13] = b.root[13]) &&
  (decide (a.root[14] = b.root[14]) && (decide (a.root[15] = b.root[15]) && (decide (a.height = b.height) && true))))))))))))))))))))) := by kernel_rfl
theorem c57 (a b : Origin) : ASpec prog 57 [encO a, encO b] (bo (decide (a = b))) := by
  have he : decide (a = b) = !neO a b := by
    rw [Bool.eq_iff_iff, Bool.not_eq_true', neO_iff, decide_eq_true_eq]
  rw [he]
  refine ASpec.treeW Proofs.Tryz.f57 (T57 a b) (by kernel_rfl) (by kernel_rfl) (t57 a b) ⟨_, rfl, ile_bo ?_⟩
  rw [if_neg (by decide), neO, Bool.not_not]
theorem c61 (a b : RKey) : ASpec prog 61 [encK a, encK b] (bo (decide (a = b))) := by
  have he : decide (a = b) = !neK a b := by
    rw [Bool.eq_iff_iff, Bool.not_eq_true', neK_iff, decide_eq_true_eq]
  rw [he]
  refine ASpec.treeW Proofs.Tryz.f61 (T61 a b) (by kernel_rfl) (by kernel_rfl) (t61 a b) ⟨_, rfl, ile_bo ?_⟩
  rw [if_neg (by decide), neK, Bool.not_not]
def missO (b : List Origin) (x : Origin) : Bool := decide (posO b x = b.length) || !decide (b.getD (posO b x) default = x)
def I56 (a b : List Origin) (i : Nat) : LState := { t := [(16, .imm (i64 i)), (15, .imm (i64 a.length)), (14, .imm (slE 6 encO a)), (9, .own 50 ((a.take i).filter (missO b)).length), (3, .imm (fnV 57)), (2, .imm (fnV 48)), (1, .imm (slE 6 encO b))], s := [(50, .row 68 6 (((a.take i).filter (missO b)).map encO))], m := 47, n := 60 }
def E56 (a b : List Origin) : LState := { t := [(9, .own 50 (a.filter (missO b)).length)], s := [(50, .row 68 6 ((a.filter (missO b)).map encO))], m := 47, n := 60 }
def fin56 : Exit → Nat → Fin
  | .normal, 95 => ⟨[(50, 59), (91, 50)], [16, 15, 14, 9, 3, 2, 1], [50]⟩
  | .normal, _ => ⟨[], [16, 15, 14, 9, 3, 2, 1], [50]⟩
  | _, _ => ⟨[], [9], [50]⟩
def T56r (a b : List Origin) (i : Nat) : Tell :=
  Tell.mk (fun x x_1 => false) (fun x x_1 => Orc.no) (fun x => Tree.fail 1000003 0) (fun x => 0) (fun x => ([], []))
  (oget
  [(61, 4, 0, Orc.elem (encO (List.getD a i default))),
  (65, 5, 3, Orc.call [slE 6 encO b, encO (List.getD a i default), fnV 48] (IVal.tup [i64 (↑(posO b (List.getD a i default)) : Int), bo (foundO b (List.getD a i default))])),
  (74, 6, 8, Orc.elem (encO (List.getD b (posO b (List.getD a i default)) default))),
  (74, 6, 11, Orc.call [encO (List.getD b (posO b (List.getD a i default)) default), encO (List.getD a i default)] (bo (decide (List.getD b (posO b (List.getD a i default)) default = List.getD a i default))))])
  fun x x_1 => Tree.fail 1000003 0
theorem t56r (a b : List Origin) (i : Nat) : levLN prog Proofs.Tryz.f56 3 (I56 a b i) (T56r a b i) fin56 =
  Tree.br (decide ((↑i : Int) < (↑(List.length a) : Int)))
  (Tree.need ((0 : Int) ≤ (↑i : Int) ∧ (List.map encO a)[i]? = some (encO (List.getD a i default)))
  (Tree.need
  (ILeL [slE 6 encO b, encO (List.getD a i default), fnV 48] [slE 6 encO b, encO (List.getD a i default), fnV 48] ∧
  ASpec prog 85 [slE 6 encO b, encO (List.getD a i default), fnV 48] (IVal.tup [i64 (↑(posO b (List.getD a i default)) : Int), bo (foundO b (List.getD a i default))]))
  (Tree.br (decide ((↑(posO b (List.getD a i default)) : Int) = (↑(List.length (List.map encO b)) : Int)))
  (Tree.need
  (List.length (List.map encO (List.filter (missO b) (List.take i a))) = List.length (List.filter (missO b) (List.take i a)) ∧
  cellsOk (List.map encO (List.filter (missO b) (List.take i a))) = true ∧ true = true ∧ List.length (List.filter (missO b) (List.take i a)) + 1 ≤ 1000000)
  (Tree.done Exit.normal
  (LState.mk
  [(16, AVal.imm (IVal.v (Value.int IntKind.i64 (IntKind.wrap IntKind.i64 ((↑i : Int) + (1 : Int)))))), (15, AVal.imm (i64 (↑(List.length a) : Int))), (14, AVal.imm (slE 6 encO a)),
  (9, AVal.own 50 (List.length (List.filter (missO b) (List.take i a)) + 1)), (3, AVal.imm (fnV 57)), (2, AVal.imm (fnV 48)),
  (1, AVal.imm (slE 6 encO b))]
  [(50, Entry.row 68 6 (List.map encO (List.filter (missO b) (List.take i a)) ++ [encO (List.getD a i default)]))] 47 95 [])))
  (Tree.need ((0 : Int) ≤ (↑(posO b (List.getD a i default)) : Int) ∧ (List.map encO b)[posO b (List.getD a i default)]? = some (encO (List.getD b (posO b (List.getD a i default)) default)))
  (Tree.need
  (ILeL [encO (List.getD b (posO b (List.getD a i default)) default), encO (List.getD a i default)] [encO (List.getD b (posO b (List.getD a i default)) default), encO (List.getD a i default)] ∧
  ASpec prog 57 [encO (List.getD b (posO b (List.getD a i default)) default), encO (List.getD a i default)] (bo (decide (List.getD b (posO b (List.getD a i default)) default = List.getD a i default))))
  (Tree.br (!decide (List.getD b (posO b (List.getD a i default)) default = List.getD a i default))
  (Tree.need
  (List.length (List.map encO (List.filter (missO b) (List.take i a))) = List.length (List.filter (missO b) (List.take i a)) ∧
  cellsOk (List.map encO (List.filter (missO b) (List.take i a))) = true ∧ true = true ∧ List.length (List.filter (missO b) (List.take i a)) + 1 ≤ 1000000)
  (Tree.done Exit.normal
  (LState.mk
  [(16, AVal.imm (IVal.v (Value.int IntKind.i64 (IntKind.wrap IntKind.i64 ((↑i : Int) + (1 : Int)))))), (15, AVal.imm (i64 (↑(List.length a) : Int))), (14, AVal.imm (slE 6 encO a)),
  (9, AVal.own 50 (List.length (List.filter (missO b) (List.take i a)) + 1)), (3, AVal.imm (fnV 57)), (2, AVal.imm (fnV 48)),
  (1, AVal.imm (slE 6 encO b))]
  [(50, Entry.row 68 6 (List.map encO (List.filter (missO b) (List.take i a)) ++ [encO (List.getD a i default)]))] 47 95 [])))
  (Tree.done Exit.normal
  (LState.mk
  [(16, AVal.imm (IVal.v (Value.int IntKind.i64 (IntKind.wrap IntKind.i64 ((↑i : Int) + (1 : Int)))))), (15, AVal.imm (i64 (↑(List.length a) : Int))), (14, AVal.imm (slE 6 encO a)),
  (9, AVal.own 50 (List.length (List.filter (missO b) (List.take i a)))), (3, AVal.imm (fnV 57)), (2, AVal.imm (fnV 48)), (1, AVal.imm (slE 6 encO b))]
  [(50, Entry.row 68 6 (List.map encO (List.filter (missO b) (List.take i a))))] 47 90 []))))))))
  (Tree.done (Exit.exit 0)
  (LState.mk [(9, AVal.own 50 (List.length (List.filter (missO b) (List.take i a))))] [(50, Entry.row 68 6 (List.map encO (List.filter (missO b) (List.take i a))))] 47 61 [])) := by kernel_rfl
theorem fltO_succ (a b : List Origin) (i : Nat) (h : i < a.length) : (a.take (i + 1)).filter (missO b) = (a.take i).filter (missO b) ++ (if missO b (a.getD i default) = true then [a.getD i default] else []) := by
  rw [List.take_add_one, List.filter_append]
  simp only [List.getD_eq_getElem?_getD, List.getElem?_eq_getElem h, Option.toList_some, Option.getD_some, List.filter_cons, List.filter_nil]
theorem l56 (a b : List Origin) (ha : a.length ≤ 400000) (hb : b.length ≤ 400000) (σ : LState) (h : LSub σ (I56 a b 0)) : LoopOk prog [] (bodyOf Proofs.Tryz.f56) 3 σ (.done (.exit 0) (E56 a b)) := by
  refine LoopOk.countN a.length 0 (I56 a b) (E56 a b) (T56r a b) fin56 (by kernel_rfl) h fun i hi => ?_
  have hlen : ((a.take i).filter (missO b)).length ≤ i := Nat.le_trans (List.length_filter_le _ _) (by simp; omega)
  have hpos := posO_le b (a.getD i default)
  have yes : i < a.length → missO b (a.getD i default) = true → LSub ⟨[(16, .imm (.v (.int .i64 (IntKind.i64.wrap ((i : Int) + 1))))), (15, .imm (i64 a.length)), (14, .imm (slE 6 encO a)), (9, .own 50 (((a.take i).filter (missO b)).length + 1)), (3, .imm (fnV 57)), (2, .imm (fnV 48)), (1, .imm (slE 6 encO b))],
      [(50, .row 68 6 (((a.take i).filter (missO b)).map encO ++ [encO (a.getD i default)]))], 47, 95, []⟩ (I56 a b (i + 1)) := by
    intro hlt hm
    have hs := fltO_succ a b i hlt
    rw [if_pos hm] at hs
    exact ⟨⟨congrArg (fun n => AVal.imm (i64 n)) (i64_succ (by omega)), rfl, rfl, congrArg (AVal.own 50) (by rw [hs, List.length_append]; rfl), rfl, rfl, rfl, trivial⟩, ⟨congrArg (fun l => some (Entry.row 68 6 l)) (by rw [hs, List.map_append]; rfl), trivial⟩, rfl, rfl, rfl⟩
  rw [t56r]
  refine ⟨fun h1 => need_sat (elem_need ?_) (need_sat ⟨ILeL.refl _, c85 _ _ ?_⟩ ⟨fun h2 => need_sat ?_ ?_, fun h2 => need_sat (elem_need ?_) (need_sat ⟨ILeL.refl _, c57 _ _⟩ ⟨fun h3 => need_sat ?_ ?_, fun h3 => ?_⟩)⟩), fun h1 => ?_⟩
  · (refine ⟨by omega, ?_, ?_⟩ <;> (simp only [List.length_map, decide_eq_true_eq, decide_eq_false_iff_not, Int.toNat_natCast] at * <;> omega))
  · omega
  · exact ⟨by simp, cellsOk_map encO (fun _ => rfl) _, rfl, by omega⟩
  · have hlt : i < a.length := by (simp only [List.length_map, decide_eq_true_eq, decide_eq_false_iff_not, Int.toNat_natCast] at * <;> omega)
    have hm : missO b (a.getD i default) = true := by simp only [List.length_map, decide_eq_true_eq, decide_eq_false_iff_not] at h2; rw [missO, decide_eq_true (show posO b (a.getD i default) = b.length by omega)]; rfl
    exact ⟨hlt, yes hlt hm⟩
  · have hp : posO b (a.getD i default) < b.length := by simp only [List.length_map, decide_eq_true_eq, decide_eq_false_iff_not] at h2; omega
    exact ⟨by omega, hp, rfl⟩
  · exact ⟨by simp, cellsOk_map encO (fun _ => rfl) _, rfl, by omega⟩
  · have hlt : i < a.length := by (simp only [List.length_map, decide_eq_true_eq, decide_eq_false_iff_not, Int.toNat_natCast] at * <;> omega)
    exact ⟨hlt, yes hlt (by rw [missO, h3, Bool.or_true])⟩
  · have hlt : i < a.length := by (simp only [List.length_map, decide_eq_true_eq, decide_eq_false_iff_not, Int.toNat_natCast] at * <;> omega)
    have hp : ¬ posO b (a.getD i default) = b.length := by simp only [List.length_map, decide_eq_true_eq, decide_eq_false_iff_not] at h2; omega
    have hs := fltO_succ a b i hlt
    rw [if_neg (by rw [missO, h3, decide_eq_false hp]; decide), List.append_nil] at hs
    exact ⟨hlt, ⟨⟨congrArg (fun n => AVal.imm (i64 n)) (i64_succ (by omega)), rfl, rfl, congrArg (AVal.own 50) (by rw [hs]), rfl, rfl, rfl, trivial⟩, ⟨congrArg (fun l => some (Entry.row 68 6 l)) (by rw [hs]), trivial⟩, rfl, rfl, rfl⟩⟩
  · have : i = a.length := by (simp only [List.length_map, decide_eq_true_eq, decide_eq_false_iff_not, Int.toNat_natCast] at * <;> omega)
    subst this
    refine ⟨rfl, by omega, ⟨⟨congrArg (AVal.own 50) (by rw [List.take_length]), trivial⟩, ⟨congrArg (fun l => some (Entry.row 68 6 l)) (by rw [List.take_length]), trivial⟩, rfl, rfl, rfl⟩⟩
def T56 (a b : List Origin) : Tell :=
  Tell.mk (fun x x_1 => false) (fun x x_1 => Orc.no) (fun x => Tree.done (Exit.exit 0) (E56 a b)) (fun x => 0) (fun x => ([16, 15, 14, 9, 3, 2, 1], []))
  (fun x x_1 x_2 => Orc.no) fun x x_1 => Tree.done (Exit.exit 0) (E56 a b)
theorem t56 (a b : List Origin) : levF prog Proofs.Tryz.f56 [slE 6 encO a, slE 6 encO b, fnV 48, fnV 57] (T56 a b) =
  Tree.loop 3
  (LState.mk
  [(16, AVal.imm (IVal.v (Value.int IntKind.i64 (0 : Int)))), (15, AVal.imm (IVal.v (Value.int IntKind.i64 (↑(List.length (List.map encO a)) : Int)))), (14, AVal.imm (slE 6 encO a)),
  (9, AVal.imm (IVal.v (Value.slice none 0 0))), (3, AVal.imm (fnV 57)), (2, AVal.imm (fnV 48)), (1, AVal.imm (slE 6 encO b))]
  [] 47 5 [])
  (Tree.done (Exit.exit 0) (E56 a b))
  (Tree.need (eqs [(List.length (List.filter (missO b) a), List.length (List.map encO (List.filter (missO b) a)))]) (Tree.done Exit.ret (lret (IVal.sl true false 6 (List.map encO (List.filter (missO b) a)))))) := by kernel_rfl
theorem c56 (a b : List Origin) (ha : a.length ≤ 400000) (hb : b.length ≤ 400000) : ASpec prog 56 [slE 6 encO a, slE 6 encO b, fnV 48, fnV 57] (slE 6 encO (a.filter (missO b))) := by
  refine ASpec.treeW Proofs.Tryz.f56 (T56 a b) (by kernel_rfl) (by kernel_rfl) (t56 a b) ?_
  refine ⟨?_, need_sat ?_ ⟨_, rfl, ?_⟩⟩
  · refine .nam (τ := I56 a b 0) (.temp 9 50 68 6 (show 5 ≤ 50 by decide) (.sub ?_)) (l56 a b ha hb _ ?_)
    all_goals exact ⟨⟨rfl, congrArg (fun n => AVal.imm (i64 n)) (by simp), rfl, rfl, rfl, rfl, rfl, trivial⟩, ⟨rfl, trivial⟩, rfl, rfl, rfl⟩
  · exact ⟨by simp, trivial⟩
  · exact ile_sl (.refl _)
def missT (b : List Attest) (x : Attest) : Bool := decide (posT b x = b.length) || !decide (b.getD (posT b x) default = x)
def I58 (a b : List Attest) (i : Nat) : LState := { t := [(16, .imm (i64 i)), (15, .imm (i64 a.length)), (14, .imm (slE 2 encT a)), (9, .own 50 ((a.take i).filter (missT b)).length), (3, .imm (fnV 59)), (2, .imm (fnV 51)), (1, .imm (slE 2 encT b))], s := [(50, .row 57 2 (((a.take i).filter (missT b)).map encT))], m := 47, n := 60 }
def E58 (a b : List Attest) : LState := { t := [(9, .own 50 (a.filter (missT b)).length)], s := [(50, .row 57 2 ((a.filter (missT b)).map encT))], m := 47, n := 60 }
def fin58 : Exit → Nat → Fin
  | .normal, 95 => ⟨[(50, 59), (91, 50)], [16, 15, 14, 9, 3, 2, 1], [50]⟩
  | .normal, _ => ⟨[], [16, 15, 14, 9, 3, 2, 1], [50]⟩
  | _, _ => ⟨[], [9], [50]⟩
def T58r (a b : List Attest) (i : Nat) : Tell :=
  Tell.mk (fun x x_1 => false) (fun x x_1 => Orc.no) (fun x => Tree.fail 1000003 0) (fun x => 0) (fun x => ([], []))
  (oget
  [(61, 4, 0, Orc.elem (encT (List.getD a i default))),
  (65, 5, 3, Orc.call [slE 2 encT b, encT (List.getD a i default), fnV 51] (IVal.tup [i64 (↑(posT b (List.getD a i default)) : Int), bo (foundT b (List.getD a i default))])),
  (74, 6, 8, Orc.elem (encT (List.getD b (posT b (List.getD a i default)) default))),
  (74, 6, 11, Orc.call [encT (List.getD b (posT b (List.getD a i default)) default), encT (List.getD a i default)] (bo (decide (List.getD b (posT b (List.getD a i default)) default = List.getD a i default))))])
  fun x x_1 => Tree.fail 1000003 0
theorem t58r (a b : List Attest) (i : Nat) : levLN prog Proofs.Tryz.f58 3 (I58 a b i) (T58r a b i) fin58 =
  Tree.br (decide ((↑i : Int) < (↑(List.length a) : Int)))
  (Tree.need ((0 : Int) ≤ (↑i : Int) ∧ (List.map encT a)[i]? = some (encT (List.getD a i default)))
  (Tree.need
  (ILeL [slE 2 encT b, encT (List.getD a i default), fnV 51] [slE 2 encT b, encT (List.getD a i default), fnV 51] ∧
  ASpec prog 86 [slE 2 encT b, encT (List.getD a i default), fnV 51] (IVal.tup [i64 (↑(posT b (List.getD a i default)) : Int), bo (foundT b (List.getD a i default))]))
  (Tree.br (decide ((↑(posT b (List.getD a i default)) : Int) = (↑(List.length (List.map encT b)) : Int)))
  (Tree.need
  (List.length (List.map encT (List.filter (missT b) (List.take i a))) = List.length (List.filter (missT b) (List.take i a)) ∧
  cellsOk (List.map encT (List.filter (missT b) (List.take i a))) = true ∧ true = true ∧ List.length (List.filter (missT b) (List.take i a)) + 1 ≤ 1000000)
  (Tree.done Exit.normal
  (LState.mk
  [(16, AVal.imm (IVal.v (Value.int IntKind.i64 (IntKind.wrap IntKind.i64 ((↑i : Int) + (1 : Int)))))), (15, AVal.imm (i64 (↑(List.length a) : Int))), (14, AVal.imm (slE 2 encT a)),
  (9, AVal.own 50 (List.length (List.filter (missT b) (List.take i a)) + 1)), (3, AVal.imm (fnV 59)), (2, AVal.imm (fnV 51)),
  (1, AVal.imm (slE 2 encT b))]
  [(50, Entry.row 57 2 (List.map encT (List.filter (missT b) (List.take i a)) ++ [encT (List.getD a i default)]))] 47 95 [])))
  (Tree.need ((0 : Int) ≤ (↑(posT b (List.getD a i default)) : Int) ∧ (List.map encT b)[posT b (List.getD a i default)]? = some (encT (List.getD b (posT b (List.getD a i default)) default)))
  (Tree.need
  (ILeL [encT (List.getD b (posT b (List.getD a i default)) default), encT (List.getD a i default)] [encT (List.getD b (posT b (List.getD a i default)) default), encT (List.getD a i default)] ∧
  ASpec prog 59 [encT (List.getD b (posT b (List.getD a i default)) default), encT (List.getD a i default)] (bo (decide (List.getD b (posT b (List.getD a i default)) default = List.getD a i default))))
  (Tree.br (!decide (List.getD b (posT b (List.getD a i default)) default = List.getD a i default))
  (Tree.need
  (List.length (List.map encT (List.filter (missT b) (List.take i a))) = List.length (List.filter (missT b) (List.take i a)) ∧
  cellsOk (List.map encT (List.filter (missT b) (List.take i a))) = true ∧ true = true ∧ List.length (List.filter (missT b) (List.take i a)) + 1 ≤ 1000000)
  (Tree.done Exit.normal
  (LState.mk
  [(16, AVal.imm (IVal.v (Value.int IntKind.i64 (IntKind.wrap IntKind.i64 ((↑i : Int) + (1 : Int)))))), (15, AVal.imm (i64 (↑(List.length a) : Int))), (14, AVal.imm (slE 2 encT a)),
  (9, AVal.own 50 (List.length (List.filter (missT b) (List.take i a)) + 1)), (3, AVal.imm (fnV 59)), (2, AVal.imm (fnV 51)),
  (1, AVal.imm (slE 2 encT b))]
  [(50, Entry.row 57 2 (List.map encT (List.filter (missT b) (List.take i a)) ++ [encT (List.getD a i default)]))] 47 95 [])))
  (Tree.done Exit.normal
  (LState.mk
  [(16, AVal.imm (IVal.v (Value.int IntKind.i64 (IntKind.wrap IntKind.i64 ((↑i : Int) + (1 : Int)))))), (15, AVal.imm (i64 (↑(List.length a) : Int))), (14, AVal.imm (slE 2 encT a)),
  (9, AVal.own 50 (List.length (List.filter (missT b) (List.take i a)))), (3, AVal.imm (fnV 59)), (2, AVal.imm (fnV 51)), (1, AVal.imm (slE 2 encT b))]
  [(50, Entry.row 57 2 (List.map encT (List.filter (missT b) (List.take i a))))] 47 90 []))))))))
  (Tree.done (Exit.exit 0)
  (LState.mk [(9, AVal.own 50 (List.length (List.filter (missT b) (List.take i a))))] [(50, Entry.row 57 2 (List.map encT (List.filter (missT b) (List.take i a))))] 47 61 [])) := by kernel_rfl
theorem fltT_succ (a b : List Attest) (i : Nat) (h : i < a.length) : (a.take (i + 1)).filter (missT b) = (a.take i).filter (missT b) ++ (if missT b (a.getD i default) = true then [a.getD i default] else []) := by
  rw [List.take_add_one, List.filter_append]
  simp only [List.getD_eq_getElem?_getD, List.getElem?_eq_getElem h, Option.toList_some, Option.getD_some, List.filter_cons, List.filter_nil]
theorem l58 (a b : List Attest) (ha : a.length ≤ 400000) (hb : b.length ≤ 400000) (hT : ∀ x ∈ b, okT x) (σ : LState) (h : LSub σ (I58 a b 0)) : LoopOk prog [] (bodyOf Proofs.Tryz.f58) 3 σ (.done (.exit 0) (E58 a b)) := by
  refine LoopOk.countN a.length 0 (I58 a b) (E58 a b) (T58r a b) fin58 (by kernel_rfl) h fun i hi => ?_
  have hlen : ((a.take i).filter (missT b)).length ≤ i := Nat.le_trans (List.length_filter_le _ _) (by simp; omega)
  have hpos := posT_le b (a.getD i default)
  have yes : i < a.length → missT b (a.getD i default) = true → LSub ⟨[(16, .imm (.v (.int .i64 (IntKind.i64.wrap ((i : Int) + 1))))), (15, .imm (i64 a.length)), (14, .imm (slE 2 encT a)), (9, .own 50 (((a.take i).filter (missT b)).length + 1)), (3, .imm (fnV 59)), (2, .imm (fnV 51)), (1, .imm (slE 2 encT b))],
      [(50, .row 57 2 (((a.take i).filter (missT b)).map encT ++ [encT (a.getD i default)]))], 47, 95, []⟩ (I58 a b (i + 1)) := by
    intro hlt hm
    have hs := fltT_succ a b i hlt
    rw [if_pos hm] at hs
    exact ⟨⟨congrArg (fun n => AVal.imm (i64 n)) (i64_succ (by omega)), rfl, rfl, congrArg (AVal.own 50) (by rw [hs, List.length_append]; rfl), rfl, rfl, rfl, trivial⟩, ⟨congrArg (fun l => some (Entry.row 57 2 l)) (by rw [hs, List.map_append]; rfl), trivial⟩, rfl, rfl, rfl⟩
  rw [t58r]
  refine ⟨fun h1 => need_sat (elem_need ?_) (need_sat ⟨ILeL.refl _, c86 _ _ ?_⟩ ⟨fun h2 => need_sat ?_ ?_, fun h2 => need_sat (elem_need ?_) (need_sat ⟨ILeL.refl _, c59 _ _ ?_⟩ ⟨fun h3 => need_sat ?_ ?_, fun h3 => ?_⟩)⟩), fun h1 => ?_⟩
  · (refine ⟨by omega, ?_, ?_⟩ <;> (simp only [List.length_map, decide_eq_true_eq, decide_eq_false_iff_not, Int.toNat_natCast] at * <;> omega))
  · omega
  · exact ⟨by simp, cellsOk_map encT (fun _ => rfl) _, rfl, by omega⟩
  · have hlt : i < a.length := by (simp only [List.length_map, decide_eq_true_eq, decide_eq_false_iff_not, Int.toNat_natCast] at * <;> omega)
    have hm : missT b (a.getD i default) = true := by simp only [List.length_map, decide_eq_true_eq, decide_eq_false_iff_not] at h2; rw [missT, decide_eq_true (show posT b (a.getD i default) = b.length by omega)]; rfl
    exact ⟨hlt, yes hlt hm⟩
  · have hp : posT b (a.getD i default) < b.length := by simp only [List.length_map, decide_eq_true_eq, decide_eq_false_iff_not] at h2; omega
    exact ⟨by omega, hp, rfl⟩
  · have hp : posT b (a.getD i default) < b.length := by simp only [List.length_map, decide_eq_true_eq, decide_eq_false_iff_not] at h2; omega
    have := hT _ (getD_mem b _ hp); unfold okT at this; omega
  · exact ⟨by simp, cellsOk_map encT (fun _ => rfl) _, rfl, by omega⟩
  · have hlt : i < a.length := by (simp only [List.length_map, decide_eq_true_eq, decide_eq_false_iff_not, Int.toNat_natCast] at * <;> omega)
    exact ⟨hlt, yes hlt (by rw [missT, h3, Bool.or_true])⟩
  · have hlt : i < a.length := by (simp only [List.length_map, decide_eq_true_eq, decide_eq_false_iff_not, Int.toNat_natCast] at * <;> omega)
    have hp : ¬ posT b (a.getD i default) = b.length := by simp only [List.length_map, decide_eq_true_eq, decide_eq_false_iff_not] at h2; omega
    have hs := fltT_succ a b i hlt
    rw [if_neg (by rw [missT, h3, decide_eq_false hp]; decide), List.append_nil] at hs
    exact ⟨hlt, ⟨⟨congrArg (fun n => AVal.imm (i64 n)) (i64_succ (by omega)), rfl, rfl, congrArg (AVal.own 50) (by rw [hs]), rfl, rfl, rfl, trivial⟩, ⟨congrArg (fun l => some (Entry.row 57 2 l)) (by rw [hs]), trivial⟩, rfl, rfl, rfl⟩⟩
  · have : i = a.length := by (simp only [List.length_map, decide_eq_true_eq, decide_eq_false_iff_not, Int.toNat_natCast] at * <;> omega)
    subst this
    refine ⟨rfl, by omega, ⟨⟨congrArg (AVal.own 50) (by rw [List.take_length]), trivial⟩, ⟨congrArg (fun l => some (Entry.row 57 2 l)) (by rw [List.take_length]), trivial⟩, rfl, rfl, rfl⟩⟩
def T58 (a b : List Attest) : Tell :=
  Tell.mk (fun x x_1 => false) (fun x x_1 => Orc.no) (fun x => Tree.done (Exit.exit 0) (E58 a b)) (fun x => 0) (fun x => ([16, 15, 14, 9, 3, 2, 1], []))
  (fun x x_1 x_2 => Orc.no) fun x x_1 => Tree.done (Exit.exit 0) (E58 a b)
theorem t58 (a b : List Attest) : levF prog Proofs.Tryz.f58 [slE 2 encT a, slE 2 encT b, fnV 51, fnV 59] (T58 a b) =
  Tree.loop 3
  (LState.mk
  [(16, AVal.imm (IVal.v (Value.int IntKind.i64 (0 : Int)))), (15, AVal.imm (IVal.v (Value.int IntKind.i64 (↑(List.length (List.map encT a)) : Int)))), (14, AVal.imm (slE 2 encT a)),
  (9, AVal.imm (IVal.v (Value.slice none 0 0))), (3, AVal.imm (fnV 59)), (2, AVal.imm (fnV 51)), (1, AVal.imm (slE 2 encT b))]
  [] 47 5 [])
  (Tree.done (Exit.exit 0) (E58 a b))
  (Tree.need (eqs [(List.length (List.filter (missT b) a), List.length (List.map encT (List.filter (missT b) a)))]) (Tree.done Exit.ret (lret (IVal.sl true false 2 (List.map encT (List.filter (missT b) a)))))) := by kernel_rfl
theorem c58 (a b : List Attest) (ha : a.length ≤ 400000) (hb : b.length ≤ 400000) (hT : ∀ x ∈ b, okT x) : ASpec prog 58 [slE 2 encT a, slE 2 encT b, fnV 51, fnV 59] (slE 2 encT (a.filter (missT b))) := by
  refine ASpec.treeW Proofs.Tryz.f58 (T58 a b) (by kernel_rfl) (by kernel_rfl) (t58 a b) ?_
  refine ⟨?_, need_sat ?_ ⟨_, rfl, ?_⟩⟩
  · refine .nam (τ := I58 a b 0) (.temp 9 50 57 2 (show 5 ≤ 50 by decide) (.sub ?_)) (l58 a b ha hb hT _ ?_)
    all_goals exact ⟨⟨rfl, congrArg (fun n => AVal.imm (i64 n)) (by simp), rfl, rfl, rfl, rfl, rfl, trivial⟩, ⟨rfl, trivial⟩, rfl, rfl, rfl⟩
  · exact ⟨by simp, trivial⟩
  · exact ile_sl (.refl _)
def missK (b : List RKey) (x : RKey) : Bool := decide (posK b x = b.length) || !decide (b.getD (posK b x) default = x)
def I60 (a b : List RKey) (i : Nat) : LState := { t := [(16, .imm (i64 i)), (15, .imm (i64 a.length)), (14, .imm (slE 18 encK a)), (9, .own 50 ((a.take i).filter (missK b)).length), (3, .imm (fnV 61)), (2, .imm (fnV 54)), (1, .imm (slE 18 encK b))], s := [(50, .row 75 18 (((a.take i).filter (missK b)).map encK))], m := 47, n := 60 }
def E60 (a b : List RKey) : LState := { t := [(9, .own 50 (a.filter (missK b)).length)], s := [(50, .row 75 18 ((a.filter (missK b)).map encK))], m := 47, n := 60 }
def fin60 : Exit → Nat → Fin
  | .normal, 95 => ⟨[(50, 59), (91, 50)], [16, 15, 14, 9, 3, 2, 1], [50]⟩
  | .normal, _ => ⟨[], [16, 15, 14, 9, 3, 2, 1], [50]⟩
  | _, _ => ⟨[], [9], [50]⟩
def T60r (a b : List RKey) (i : Nat) : Tell :=
  Tell.mk (fun x x_1 => false) (fun x x_1 => Orc.no) (fun x => Tree.fail 1000003 0) (fun x => 0) (fun x => ([], []))
  (oget
  [(61, 4, 0, Orc.elem (encK (List.getD a i default))),
  (65, 5, 3, Orc.call [slE 18 encK b, encK (List.getD a i default), fnV 54] (IVal.tup [i64 (↑(posK b (List.getD a i default)) : Int), bo (foundK b (List.getD a i default))])),
  (74, 6, 8, Orc.elem (encK (List.getD b (posK b (List.getD a i default)) default))),
  (74, 6, 11, Orc.call [encK (List.getD b (posK b (List.getD a i default)) default), encK (List.getD a i default)] (bo (decide (List.getD b (posK b (List.getD a i default)) default = List.getD a i default))))])
  fun x x_1 => Tree.fail 1000003 0
theorem t60r (a b : List RKey) (i : Nat) : levLN prog Proofs.Tryz.f60 3 (I60 a b i) (T60r a b i) fin60 =
  Tree.br (decide ((↑i : Int) < (↑(List.length a) : Int)))
  (Tree.need ((0 : Int) ≤ (↑i : Int) ∧ (List.map encK a)[i]? = some (encK (List.getD a i default)))
  (Tree.need
  (ILeL [slE 18 encK b, encK (List.getD a i default), fnV 54] [slE 18 encK b, encK (List.getD a i default), fnV 54] ∧
  ASpec prog 88 [slE 18 encK b, encK (List.getD a i default), fnV 54] (IVal.tup [i64 (↑(posK b (List.getD a i default)) : Int), bo (foundK b (List.getD a i default))]))
  (Tree.br (decide ((↑(posK b (List.getD a i default)) : Int) = (↑(List.length (List.map encK b)) : Int)))
  (Tree.need
  (List.length (List.map encK (List.filter (missK b) (List.take i a))) = List.length (List.filter (missK b) (List.take i a)) ∧
  cellsOk (List.map encK (List.filter (missK b) (List.take i a))) = true ∧ true = true ∧ List.length (List.filter (missK b) (List.take i a)) + 1 ≤ 1000000)
  (Tree.done Exit.normal
  (LState.mk
  [(16, AVal.imm (IVal.v (Value.int IntKind.i64 (IntKind.wrap IntKind.i64 ((↑i : Int) + (1 : Int)))))), (15, AVal.imm (i64 (↑(List.length a) : Int))), (14, AVal.imm (slE 18 encK a)),
  (9, AVal.own 50 (List.length (List.filter (missK b) (List.take i a)) + 1)), (3, AVal.imm (fnV 61)), (2, AVal.imm (fnV 54)),
  (1, AVal.imm (slE 18 encK b))]
  [(50, Entry.row 75 18 (List.map encK (List.filter (missK b) (List.take i a)) ++ [encK (List.getD a i default)]))] 47 95 [])))
  (Tree.need ((0 : Int) ≤ (↑(posK b (List.getD a i default)) : Int) ∧ (List.map encK b)[posK b (List.getD a i default)]? = some (encK (List.getD b (posK b (List.getD a i default)) default)))
  (Tree.need
  (ILeL [encK (List.getD b (posK b (List.getD a i default)) default), encK (List.getD a i default)] [encK (List.getD b (posK b (List.getD a i default)) default), encK (List.getD a i default)] ∧
  ASpec prog 61 [encK (List.getD b (posK b (List.getD a i default)) default), encK (List.getD a i default)] (bo (decide (List.getD b (posK b (List.getD a i default)) default = List.getD a i default))))
  (Tree.br (!decide (List.getD b (posK b (List.getD a i default)) default = List.getD a i default))
  (Tree.need
  (List.length (List.map encK (List.filter (missK b) (List.take i a))) = List.length (List.filter (missK b) (List.take i a)) ∧
  cellsOk (List.map encK (List.filter (missK b) (List.take i a))) = true ∧ true = true ∧ List.length (List.filter (missK b) (List.take i a)) + 1 ≤ 1000000)
  (Tree.done Exit.normal
  (LState.mk
  [(16, AVal.imm (IVal.v (Value.int IntKind.i64 (IntKind.wrap IntKind.i64 ((↑i : Int) + (1 : Int)))))), (15, AVal.imm (i64 (↑(List.length a) : Int))), (14, AVal.imm (slE 18 encK a)),
  (9, AVal.own 50 (List.length (List.filter (missK b) (List.take i a)) + 1)), (3, AVal.imm (fnV 61)), (2, AVal.imm (fnV 54)),
  (1, AVal.imm (slE 18 encK b))]
  [(50, Entry.row 75 18 (List.map encK (List.filter (missK b) (List.take i a)) ++ [encK (List.getD a i default)]))] 47 95 [])))
  (Tree.done Exit.normal
  (LState.mk
  [(16, AVal.imm (IVal.v (Value.int IntKind.i64 (IntKind.wrap IntKind.i64 ((↑i : Int) + (1 : Int)))))), (15, AVal.imm (i64 (↑(List.length a) : Int))), (14, AVal.imm (slE 18 encK a)),
  (9, AVal.own 50 (List.length (List.filter (missK b) (List.take i a)))), (3, AVal.imm (fnV 61)), (2, AVal.imm (fnV 54)), (1, AVal.imm (slE 18 encK b))]
  [(50, Entry.row 75 18 (List.map encK (List.filter (missK b) (List.take i a))))] 47 90 []))))))))
  (Tree.done (Exit.exit 0)
  (LState.mk [(9, AVal.own 50 (List.length (List.filter (missK b) (List.take i a))))] [(50, Entry.row 75 18 (List.map encK (List.filter (missK b) (List.take i a))))] 47 61 [])) := by kernel_rfl
theorem fltK_succ (a b : List RKey) (i : Nat) (h : i < a.length) : (a.take (i + 1)).filter (missK b) = (a.take i).filter (missK b) ++ (if missK b (a.getD i default) = true then [a.getD i default] else []) := by
  rw [List.take_add_one, List.filter_append]
  simp only [List.getD_eq_getElem?_getD, List.getElem?_eq_getElem h, Option.toList_some, Option.getD_some, List.filter_cons, List.filter_nil]
theorem l60 (a b : List RKey) (ha : a.length ≤ 400000) (hb : b.length ≤ 400000) (σ : LState) (h : LSub σ (I60 a b 0)) : LoopOk prog [] (bodyOf Proofs.Tryz.f60) 3 σ (.done (.exit 0) (E60 a b)) := by
  refine LoopOk.countN a.length 0 (I60 a b) (E60 a b) (T60r a b) fin60 (by kernel_rfl) h fun i hi => ?_
  have hlen : ((a.take i).filter (missK b)).length ≤ i := Nat.le_trans (List.length_filter_le _ _) (by simp; omega)
  have hpos := posK_le b (a.getD i default)
  have yes : i < a.length → missK b (a.getD i default) = true → LSub ⟨[(16, .imm (.v (.int .i64 (IntKind.i64.wrap ((i : Int) + 1))))), (15, .imm (i64 a.length)), (14, .imm (slE 18 encK a)), (9, .own 50 (((a.take i).filter (missK b)).length + 1)), (3, .imm (fnV 61)), (2, .imm (fnV 54)), (1, .imm (slE 18 encK b))],
      [(50, .row 75 18 (((a.take i).filter (missK b)).map encK ++ [encK (a.getD i default)]))], 47, 95, []⟩ (I60 a b (i + 1)) := by
    intro hlt hm
    have hs := fltK_succ a b i hlt
    rw [if_pos hm] at hs
    exact ⟨⟨congrArg (fun n => AVal.imm (i64 n)) (i64_succ (by omega)), rfl, rfl, congrArg (AVal.own 50) (by rw [hs, List.length_append]; rfl), rfl, rfl, rfl, trivial⟩, ⟨congrArg (fun l => some (Entry.row 75 18 l)) (by rw [hs, List.map_append]; rfl), trivial⟩, rfl, rfl, rfl⟩
  rw [t60r]
  refine ⟨fun h1 => need_sat (elem_need ?_) (need_sat ⟨ILeL.refl _, c88 _ _ ?_⟩ ⟨fun h2 => need_sat ?_ ?_, fun h2 => need_sat (elem_need ?_) (need_sat ⟨ILeL.refl _, c61 _ _⟩ ⟨fun h3 => need_sat ?_ ?_, fun h3 => ?_⟩)⟩), fun h1 => ?_⟩
  · (refine ⟨by omega, ?_, ?_⟩ <;> (simp only [List.length_map, decide_eq_true_eq, decide_eq_false_iff_not, Int.toNat_natCast] at * <;> omega))
  · omega
  · exact ⟨by simp, cellsOk_map encK (fun _ => rfl) _, rfl, by omega⟩
  · have hlt : i < a.length := by (simp only [List.length_map, decide_eq_true_eq, decide_eq_false_iff_not, Int.toNat_natCast] at * <;> omega)
    have hm : missK b (a.getD i default) = true := by simp only [List.length_map, decide_eq_true_eq, decide_eq_false_iff_not] at h2; rw [missK, decide_eq_true (show posK b (a.getD i default) = b.length by omega)]; rfl
    exact ⟨hlt, yes hlt hm⟩
  · have hp : posK b (a.getD i default) < b.length := by simp only [List.length_map, decide_eq_true_eq, decide_eq_false_iff_not] at h2; omega
    exact ⟨by omega, hp, rfl⟩
  · exact ⟨by simp, cellsOk_map encK (fun _ => rfl) _, rfl, by omega⟩
  · have hlt : i < a.length := by (simp only [List.length_map, decide_eq_true_eq, decide_eq_false_iff_not, Int.toNat_natCast] at * <;> omega)
    exact ⟨hlt, yes hlt (by rw [missK, h3, Bool.or_true])⟩
  · have hlt : i < a.length := by (simp only [List.length_map, decide_eq_true_eq, decide_eq_false_iff_not, Int.toNat_natCast] at * <;> omega)
    have hp : ¬ posK b (a.getD i default) = b.length := by simp only [List.length_map, decide_eq_true_eq, decide_eq_false_iff_not] at h2; omega
    have hs := fltK_succ a b i hlt
    rw [if_neg (by rw [missK, h3, decide_eq_false hp]; decide), List.append_nil] at hs
    exact ⟨hlt, ⟨⟨congrArg (fun n => AVal.imm (i64 n)) (i64_succ (by omega)), rfl, rfl, congrArg (AVal.own 50) (by rw [hs]), rfl, rfl, rfl, trivial⟩, ⟨congrArg (fun l => some (Entry.row 75 18 l)) (by rw [hs]), trivial⟩, rfl, rfl, rfl⟩⟩
  · have : i = a.length := by (simp only [List.length_map, decide_eq_true_eq, decide_eq_false_iff_not, Int.toNat_natCast] at * <;> omega)
    subst this
    refine ⟨rfl, by omega, ⟨⟨congrArg (AVal.own 50) (by rw [List.take_length]), trivial⟩, ⟨congrArg (fun l => some (Entry.row 75 18 l)) (by rw [List.take_length]), trivial⟩, rfl, rfl, rfl⟩⟩
def T60 (a b : List RKey) : Tell :=
  Tell.mk (fun x x_1 => false) (fun x x_1 => Orc.no) (fun x => Tree.done (Exit.exit 0) (E60 a b)) (fun x => 0) (fun x => ([16, 15, 14, 9, 3, 2, 1], []))
  (fun x x_1 x_2 => Orc.no) fun x x_1 => Tree.done (Exit.exit 0) (E60 a b)
theorem t60 (a b : List RKey) : levF prog Proofs.Tryz.f60 [slE 18 encK a, slE 18 encK b, fnV 54, fnV 61] (T60 a b) =
  Tree.loop 3
  (LState.mk
  [(16, AVal.imm (IVal.v (Value.int IntKind.i64 (0 : Int)))), (15, AVal.imm (IVal.v (Value.int IntKind.i64 (↑(List.length (List.map encK a)) : Int)))), (14, AVal.imm (slE 18 encK a)),
  (9, AVal.imm (IVal.v (Value.slice none 0 0))), (3, AVal.imm (fnV 61)), (2, AVal.imm (fnV 54)), (1, AVal.imm (slE 18 encK b))]
  [] 47 5 [])
  (Tree.done (Exit.exit 0) (E60 a b))
  (Tree.need (eqs [(List.length (List.filter (missK b) a), List.length (List.map encK (List.filter (missK b) a)))]) (Tree.done Exit.ret (lret (IVal.sl true false 18 (List.map encK (List.filter (missK b) a)))))) := by kernel_rfl
theorem c60 (a b : List RKey) (ha : a.length ≤ 400000) (hb : b.length ≤ 400000) : ASpec prog 60 [slE 18 encK a, slE 18 encK b, fnV 54, fnV 61] (slE 18 encK (a.filter (missK b))) := by
  refine ASpec.treeW Proofs.Tryz.f60 (T60 a b) (by kernel_rfl) (by kernel_rfl) (t60 a b) ?_
  refine ⟨?_, need_sat ?_ ⟨_, rfl, ?_⟩⟩
  · refine .nam (τ := I60 a b 0) (.temp 9 50 75 18 (show 5 ≤ 50 by decide) (.sub ?_)) (l60 a b ha hb _ ?_)
    all_goals exact ⟨⟨rfl, congrArg (fun n => AVal.imm (i64 n)) (by simp), rfl, rfl, rfl, rfl, rfl, trivial⟩, ⟨rfl, trivial⟩, rfl, rfl, rfl⟩
  · exact ⟨by simp, trivial⟩
  · exact ile_sl (.refl _)
end Gp
namespace Gp
structure Payload.sm (p : Payload) : Prop where
  o : p.origins.length ≤ 3000
  t : p.paths.length ≤ 3000
  k : p.keys.length ≤ 3000
  p : ∀ a ∈ p.paths, okT a
theorem Payload.sm.ok {p : Payload} (h : p.sm) : p.ok := ⟨by have := h.o; omega, by have := h.t; omega, by have := h.k; omega, h.p⟩
def minusP (p q : Payload) : Payload := ⟨p.origins.filter (missO q.origins), p.paths.filter (missT q.paths), p.keys.filter (missK q.keys)⟩
theorem minusP_sm {p : Payload} (h : p.sm) (q : Payload) : (minusP p q).sm :=
  ⟨Nat.le_trans (List.length_filter_le _ _) h.o, Nat.le_trans (List.length_filter_le _ _) h.t, Nat.le_trans (List.length_filter_le _ _) h.k, fun a ha => h.p a (List.mem_filter.1 ha).1⟩
def plusP (p q : Payload) : Payload := ⟨sorted ltO (p.origins ++ q.origins), sorted ltT (p.paths ++ q.paths), sorted ltK (p.keys ++ q.keys)⟩
def dupP (p : Payload) : Bool := dupO p.origins || (dupT p.paths || dupK p.keys)
theorem totO : Tot ltO := tw_cmpO.tot
theorem totT : Tot ltT := tw_cmpT.tot
theorem totK : Tot ltK := tw_cmpK.tot
theorem mem_sorted {α : Type} [Inhabited α] {od : α → α → Bool} (h : Tot od) {l : List α} {x : α} : x ∈ sorted od l ↔ x ∈ l := (sorted_spec h l).1.mem_iff
theorem plusP_ok {p q : Payload} (hp : p.sm) (hq : q.sm) : (plusP p q).ok := by
  have h1 := hp.o; have h2 := hp.t; have h3 := hp.k; have g1 := hq.o; have g2 := hq.t; have g3 := hq.k
  refine ⟨?_, ?_, ?_, fun a ha => ?_⟩
  · simp only [plusP, sorted_length, List.length_append]; omega
  · simp only [plusP, sorted_length, List.length_append]; omega
  · simp only [plusP, sorted_length, List.length_append]; omega
  · rcases List.mem_append.1 ((mem_sorted totT).1 ha) with h | h
    · exact hp.p a h
    · exact hq.p a h
def T27 (p q : Payload) : Tell :=
  Tell.mk (fun x x_1 => false) (fun x x_1 => Orc.no) (fun x => Tree.fail 1000003 0) (fun x => 0) (fun x => ([], []))
  (oget
  [(3, 1, 4, Orc.call [slE 6 encO p.origins, slE 6 encO q.origins, fnV 48, fnV 57] (slE 6 encO (List.filter (missO q.origins) p.origins))),
  (3, 1, 9, Orc.call [slE 2 encT p.paths, slE 2 encT q.paths, fnV 51, fnV 59] (slE 2 encT (List.filter (missT q.paths) p.paths))),
  (3, 1, 14, Orc.call [slE 18 encK p.keys, slE 18 encK q.keys, fnV 54, fnV 61] (slE 18 encK (List.filter (missK q.keys) p.keys))),
  (3, 1, 16,
  Orc.call [encL (Payload.mk (List.filter (missO q.origins) p.origins) (List.filter (missT q.paths) p.paths) (List.filter (missK q.keys) p.keys))]
  (encL (Payload.mk (List.filter (missO q.origins) p.origins) (List.filter (missT q.paths) p.paths) (List.filter (missK q.keys) p.keys))))])
  fun x x_1 => Tree.fail 1000003 0
theorem t27 (p q : Payload) : levF prog Proofs.Tryz.f27 [encL p, encL q] (T27 p q) =
  Tree.need
  (ILeL [slE 6 encO p.origins, slE 6 encO q.origins, IVal.v (Value.func (Fn.func 48) (Array.mk []) (Array.mk [])), IVal.v (Value.func (Fn.func 57) (Array.mk []) (Array.mk []))]
  [slE 6 encO p.origins, slE 6 encO q.origins, fnV 48, fnV 57] ∧
  ASpec prog 56 [slE 6 encO p.origins, slE 6 encO q.origins, fnV 48, fnV 57] (slE 6 encO (List.filter (missO q.origins) p.origins)))
  (Tree.need
  (ILeL [slE 2 encT p.paths, slE 2 encT q.paths, IVal.v (Value.func (Fn.func 51) (Array.mk []) (Array.mk [])), IVal.v (Value.func (Fn.func 59) (Array.mk []) (Array.mk []))]
  [slE 2 encT p.paths, slE 2 encT q.paths, fnV 51, fnV 59] ∧
  ASpec prog 58 [slE 2 encT p.paths, slE 2 encT q.paths, fnV 51, fnV 59] (slE 2 encT (List.filter (missT q.paths) p.paths)))
  (Tree.need
  (ILeL [slE 18 encK p.keys, slE 18 encK q.keys, IVal.v (Value.func (Fn.func 54) (Array.mk []) (Array.mk [])), IVal.v (Value.func (Fn.func 61) (Array.mk []) (Array.mk []))]
  [slE 18 encK p.keys, slE 18 encK q.keys, fnV 54, fnV 61] ∧
  ASpec prog 60 [slE 18 encK p.keys, slE 18 encK q.keys, fnV 54, fnV 61] (slE 18 encK (List.filter (missK q.keys) p.keys)))
  (Tree.need
  (ILeL [IVal.agg [slE 6 encO (List.filter (missO q.origins) p.origins), slE 2 encT (List.filter (missT q.paths) p.paths), slE 18 encK (List.filter (missK q.keys) p.keys)]]
  [encL (Payload.mk (List.filter (missO q.origins) p.origins) (List.filter (missT q.paths) p.paths) (List.filter (missK q.keys) p.keys))] ∧
  ASpec prog 34 [encL (Payload.mk (List.filter (missO q.origins) p.origins) (List.filter (missT q.paths) p.paths) (List.filter (missK q.keys) p.keys))]
  (encL (Payload.mk (List.filter (missO q.origins) p.origins) (List.filter (missT q.paths) p.paths) (List.filter (missK q.keys) p.keys))))
  (Tree.done Exit.ret
  (lret
  (IVal.agg
  [slE 6 encO (Payload.mk (List.filter (missO q.origins) p.origins) (List.filter (missT q.paths) p.paths) (List.filter (missK q.keys) p.keys)).origins,
  slE 2 encT (Payload.mk (List.filter (missO q.origins) p.origins) (List.filter (missT q.paths) p.paths) (List.filter (missK q.keys) p.keys)).paths,
  slE 18 encK (Payload.mk (List.filter (missO q.origins) p.origins) (List.filter (missT q.paths) p.paths) (List.filter (missK q.keys) p.keys)).keys])))))) := by kernel_rfl
theorem c27 (p q : Payload) (hp : p.sm) (hq : q.sm) : ASpec prog 27 [encL p, encL q] (encL (minusP p q)) := by
  have h1 := hp.o; have h2 := hp.t; have h3 := hp.k; have g1 := hq.o; have g2 := hq.t; have g3 := hq.k
  refine ASpec.treeW Proofs.Tryz.f27 (T27 p q) (by kernel_rfl) (by kernel_rfl) (t27 p q) ?_
  refine need_sat ⟨ILeL.refl _, c56 _ _ ?_ ?_⟩ (need_sat ⟨ILeL.refl _, c58 _ _ ?_ ?_ ?_⟩ (need_sat ⟨ILeL.refl _, c60 _ _ ?_ ?_⟩ (need_sat ⟨ILeL.refl _, c34 _ ?_⟩ ⟨_, rfl, ?_⟩)))
  · omega
  · omega
  · omega
  · omega
  · exact hq.p
  · omega
  · omega
  · exact (minusP_sm hp q).ok
  · exact .refl _
def T30 (p q : Payload) : Tell :=
  Tell.mk (fun x x_1 => false) (fun x x_1 => Orc.no) (fun x => Tree.fail 1000003 0) (fun x => 0) (fun x => ([], []))
  (oget
  [(8, 3, 4,
  Orc.call [slE 6 encO p.origins, slE 6 encO q.origins, fnV 48] (IVal.tup [slE 6 encO (sorted ltO (p.origins ++ q.origins)), bo (dupO (sorted ltO (p.origins ++ q.origins)))])),
  (19, 4, 4, Orc.call [slE 2 encT p.paths, slE 2 encT q.paths, fnV 51] (IVal.tup [slE 2 encT (sorted ltT (p.paths ++ q.paths)), bo (dupT (sorted ltT (p.paths ++ q.paths)))])),
  (30, 5, 4, Orc.call [slE 18 encK p.keys, slE 18 encK q.keys, fnV 54] (IVal.tup [slE 18 encK (sorted ltK (p.keys ++ q.keys)), bo (dupK (sorted ltK (p.keys ++ q.keys)))])),
  (41, 6, 1,
  Orc.call [encL (Payload.mk (sorted ltO (p.origins ++ q.origins)) (sorted ltT (p.paths ++ q.paths)) (sorted ltK (p.keys ++ q.keys)))]
  (encL (Payload.mk (sorted ltO (p.origins ++ q.origins)) (sorted ltT (p.paths ++ q.paths)) (sorted ltK (p.keys ++ q.keys)))))])
  fun x x_1 => Tree.fail 1000003 0
theorem t30 (p q : Payload) : levF prog Proofs.Tryz.f30 [encL p, encL q] (T30 p q) =
  Tree.need
  (ILeL [slE 6 encO p.origins, slE 6 encO q.origins, IVal.v (Value.func (Fn.func 48) (Array.mk []) (Array.mk []))] [slE 6 encO p.origins, slE 6 encO q.origins, fnV 48] ∧
  ASpec prog 65 [slE 6 encO p.origins, slE 6 encO q.origins, fnV 48] (IVal.tup [slE 6 encO (sorted ltO (p.origins ++ q.origins)), bo (dupO (sorted ltO (p.origins ++ q.origins)))]))
  (Tree.need
  (ILeL [slE 2 encT p.paths, slE 2 encT q.paths, IVal.v (Value.func (Fn.func 51) (Array.mk []) (Array.mk []))] [slE 2 encT p.paths, slE 2 encT q.paths, fnV 51] ∧
  ASpec prog 66 [slE 2 encT p.paths, slE 2 encT q.paths, fnV 51] (IVal.tup [slE 2 encT (sorted ltT (p.paths ++ q.paths)), bo (dupT (sorted ltT (p.paths ++ q.paths)))]))
  (Tree.need
  (ILeL [slE 18 encK p.keys, slE 18 encK q.keys, IVal.v (Value.func (Fn.func 54) (Array.mk []) (Array.mk []))] [slE 18 encK p.keys, slE 18 encK q.keys, fnV 54] ∧
  ASpec prog 67 [slE 18 encK p.keys, slE 18 encK q.keys, fnV 54] (IVal.tup [slE 18 encK (sorted ltK (p.keys ++ q.keys)), bo (dupK (sorted ltK (p.keys ++ q.keys)))]))
  (Tree.need
  (ILeL [IVal.agg [slE 6 encO (sorted ltO (p.origins ++ q.origins)), slE 2 encT (sorted ltT (p.paths ++ q.paths)), slE 18 encK (sorted ltK (p.keys ++ q.keys))]]
  [encL (Payload.mk (sorted ltO (p.origins ++ q.origins)) (sorted ltT (p.paths ++ q.paths)) (sorted ltK (p.keys ++ q.keys)))] ∧
  ASpec prog 34 [encL (Payload.mk (sorted ltO (p.origins ++ q.origins)) (sorted ltT (p.paths ++ q.paths)) (sorted ltK (p.keys ++ q.keys)))]
  (encL (Payload.mk (sorted ltO (p.origins ++ q.origins)) (sorted ltT (p.paths ++ q.paths)) (sorted ltK (p.keys ++ q.keys)))))
  (Tree.br (dupO (sorted ltO (p.origins ++ q.origins)))
  (Tree.done Exit.ret (lret (IVal.tup [encL (Payload.mk (sorted ltO (p.origins ++ q.origins)) (sorted ltT (p.paths ++ q.paths)) (sorted ltK (p.keys ++ q.keys))), IVal.v (Value.bool true)])))
  (Tree.br (dupT (sorted ltT (p.paths ++ q.paths)))
  (Tree.done Exit.ret (lret (IVal.tup [encL (Payload.mk (sorted ltO (p.origins ++ q.origins)) (sorted ltT (p.paths ++ q.paths)) (sorted ltK (p.keys ++ q.keys))), IVal.v (Value.bool true)])))
  (Tree.done Exit.ret (lret (IVal.tup [encL (Payload.mk (sorted ltO (p.origins ++ q.origins)) (sorted ltT (p.paths ++ q.paths)) (sorted ltK (p.keys ++ q.keys))), bo (dupK (sorted ltK (p.keys ++ q.keys)))])))))))) := by kernel_rfl
theorem c30 (p q : Payload) (hp : p.sm) (hq : q.sm) : ASpec prog 30 [encL p, encL q] (.tup [encL (plusP p q), bo (dupP (plusP p q))]) := by
  have h1 := hp.o; have h2 := hp.t; have h3 := hp.k; have g1 := hq.o; have g2 := hq.t; have g3 := hq.k
  refine ASpec.treeW Proofs.Tryz.f30 (T30 p q) (by kernel_rfl) (by kernel_rfl) (t30 p q) ?_
  refine need_sat ⟨ILeL.refl _, c65 _ _ ?_ ?_⟩ (need_sat ⟨ILeL.refl _, c66 _ _ ?_ ?_⟩ (need_sat ⟨ILeL.refl _, c67 _ _ ?_ ?_⟩ (need_sat ⟨ILeL.refl _, c34 _ ?_⟩ ⟨fun h1 => ⟨_, rfl, ?_⟩, fun h1 => ⟨fun h2 => ⟨_, rfl, ?_⟩, fun h2 => ⟨_, rfl, ?_⟩⟩⟩)))
  · omega
  · omega
  · omega
  · omega
  · omega
  · omega
  · exact plusP_ok hp hq
  · refine .tup (.cons (.refl _) (.cons (ile_bo ?_) (.refl _)))
    simp only [dupP, plusP, h1, Bool.true_or]
  · refine .tup (.cons (.refl _) (.cons (ile_bo ?_) (.refl _)))
    simp only [dupP, plusP, h1, h2, Bool.true_or, Bool.or_true]
  · refine .tup (.cons (.refl _) (.cons (ile_bo ?_) (.refl _)))
    simp only [dupP, plusP, h1, h2, Bool.false_or]
def T29 (p : Payload) : Tell :=
  Tell.mk (fun x x_1 => false) (fun x x_1 => Orc.no) (fun x => Tree.fail 1000003 0) (fun x => 0) (fun x => ([], [])) (fun x x_1 x_2 => Orc.no) fun x x_1 => Tree.fail 1000003 0
theorem t29 (p : Payload) : levF prog Proofs.Tryz.f29 [encL p] (T29 p) =
  Tree.done Exit.ret
  (lret
  (IVal.v (Value.int IntKind.i64 (IntKind.wrap IntKind.i64 (IntKind.wrap IntKind.i64 ((↑(List.length (List.map encO p.origins)) : Int) + (↑(List.length (List.map encT p.paths)) : Int)) + (↑(List.length (List.map encK p.keys)) : Int)))))) := by kernel_rfl
theorem c29 (p : Payload) (hp : p.ok) : ASpec prog 29 [encL p] (i64 (sizeP p)) := by
  have h1 := hp.o; have h2 := hp.t; have h3 := hp.k
  refine ASpec.treeW Proofs.Tryz.f29 (T29 p) (by kernel_rfl) (by kernel_rfl) (t29 p) ?_
  refine ⟨_, rfl, ?_⟩
  refine ile_i64 ?_
  simp only [List.length_map]
  have e1 : IntKind.i64.wrap ((p.origins.length : Int) + (p.paths.length : Int)) = (p.origins.length : Int) + (p.paths.length : Int) := IntWalk.i64_in _ (by omega)
  rw [e1, IntWalk.i64_in _ (by omega)]; rfl
def apartP (p q : Payload) : Bool := decide (sizeP (minusP p q) = sizeP p)
def T36 (p q : Payload) : Tell :=
  Tell.mk (fun x x_1 => false) (fun x x_1 => Orc.no) (fun x => Tree.fail 1000003 0) (fun x => 0) (fun x => ([], []))
  (oget
  [(3, 1, 2, Orc.call [encL p, encL q] (encL (minusP p q))), (3, 1, 3, Orc.call [encL (minusP p q)] (i64 (sizeP (minusP p q)))),
  (3, 1, 5, Orc.call [encL p] (i64 (sizeP p)))])
  fun x x_1 => Tree.fail 1000003 0
theorem t36 (p q : Payload) : levF prog Proofs.Tryz.f36 [encL p, encL q] (T36 p q) =
  Tree.need (ILeL [encL p, encL q] [encL p, encL q] ∧ ASpec prog 27 [encL p, encL q] (encL (minusP p q)))
  (Tree.need (ILeL [encL (minusP p q)] [encL (minusP p q)] ∧ ASpec prog 29 [encL (minusP p q)] (i64 (sizeP (minusP p q))))
  (Tree.need (ILeL [encL p] [encL p] ∧ ASpec prog 29 [encL p] (i64 (sizeP p))) (Tree.done Exit.ret (lret (IVal.v (Value.bool (decide (sizeP (minusP p q) = sizeP p)))))))) := by kernel_rfl
theorem c36 (p q : Payload) (hp : p.sm) (hq : q.sm) : ASpec prog 36 [encL p, encL q] (bo (apartP p q)) := by
  refine ASpec.treeW Proofs.Tryz.f36 (T36 p q) (by kernel_rfl) (by kernel_rfl) (t36 p q) ?_
  refine need_sat ⟨ILeL.refl _, c27 _ _ ?_ ?_⟩ (need_sat ⟨ILeL.refl _, c29 _ ?_⟩ (need_sat ⟨ILeL.refl _, c29 _ ?_⟩ ⟨_, rfl, ?_⟩))
  · exact hp
  · exact hq
  · exact (minusP_sm hp q).ok
  · exact hp.ok
  · exact .refl _
structure Diff where
  gone : Payload
  come : Payload
  deriving DecidableEq, Inhabited
def encD (d : Diff) : IVal := .agg [slE 6 encO d.gone.origins, slE 2 encT d.gone.paths, slE 18 encK d.gone.keys, slE 6 encO d.come.origins, slE 2 encT d.come.paths, slE 18 encK d.come.keys]
structure Diff.sm (d : Diff) : Prop where
  g : d.gone.sm
  c : d.come.sm
def validD (d : Diff) : Int := if ckL d.gone ≠ 0 then ckL d.gone else if ckL d.come ≠ 0 then ckL d.come else if apartP d.gone d.come = true then 0 else 8
def T20 (d : Diff) : Tell :=
  Tell.mk (fun x x_1 => false) (fun x x_1 => Orc.no) (fun x => Tree.fail 1000003 0) (fun x => 0) (fun x => ([], []))
  (oget
  [(2, 1, 2, Orc.call [encL d.gone] (i64 (ckL d.gone))), (8, 3, 2, Orc.call [encL d.come] (i64 (ckL d.come))),
  (8, 4, 7, Orc.call [encL d.gone, encL d.come] (bo (apartP d.gone d.come))), (12, 4, 7, Orc.call [encL d.gone, encL d.come] (bo (apartP d.gone d.come)))])
  fun x x_1 => Tree.fail 1000003 0
theorem t20 (d : Diff) : levF prog Proofs.Tryz.f20 [encD d] (T20 d) =
  Tree.need (ILeL [IVal.agg [slE 6 encO d.gone.origins, slE 2 encT d.gone.paths, slE 18 encK d.gone.keys]] [encL d.gone] ∧ ASpec prog 26 [encL d.gone] (i64 (ckL d.gone)))
  (Tree.br (decide (ckL d.gone = (0 : Int)))
  (Tree.need (ILeL [IVal.agg [slE 6 encO d.come.origins, slE 2 encT d.come.paths, slE 18 encK d.come.keys]] [encL d.come] ∧ ASpec prog 26 [encL d.come] (i64 (ckL d.come)))
  (Tree.br (decide (ckL d.come = (0 : Int)))
  (Tree.need
  (ILeL [IVal.agg [slE 6 encO d.gone.origins, slE 2 encT d.gone.paths, slE 18 encK d.gone.keys], IVal.agg [slE 6 encO d.come.origins, slE 2 encT d.come.paths, slE 18 encK d.come.keys]]
  [encL d.gone, encL d.come] ∧
  ASpec prog 36 [encL d.gone, encL d.come] (bo (apartP d.gone d.come)))
  (Tree.br (!apartP d.gone d.come) (Tree.done Exit.ret (lret (IVal.v (Value.int IntKind.i64 (8 : Int))))) (Tree.done Exit.ret (lret (IVal.v (Value.int IntKind.i64 (ckL d.come)))))))
  (Tree.done Exit.ret (lret (IVal.v (Value.int IntKind.i64 (ckL d.come)))))))
  (Tree.br (decide (ckL d.gone = (0 : Int)))
  (Tree.need
  (ILeL [IVal.agg [slE 6 encO d.gone.origins, slE 2 encT d.gone.paths, slE 18 encK d.gone.keys], IVal.agg [slE 6 encO d.come.origins, slE 2 encT d.come.paths, slE 18 encK d.come.keys]]
  [encL d.gone, encL d.come] ∧
  ASpec prog 36 [encL d.gone, encL d.come] (bo (apartP d.gone d.come)))
  (Tree.br (!apartP d.gone d.come) (Tree.done Exit.ret (lret (IVal.v (Value.int IntKind.i64 (8 : Int))))) (Tree.done Exit.ret (lret (IVal.v (Value.int IntKind.i64 (ckL d.gone)))))))
  (Tree.done Exit.ret (lret (IVal.v (Value.int IntKind.i64 (ckL d.gone))))))) := by kernel_rfl
theorem c20 (d : Diff) (hd : d.sm) : ASpec prog 20 [encD d] (i64 (validD d)) := by
  refine ASpec.treeW Proofs.Tryz.f20 (T20 d) (by kernel_rfl) (by kernel_rfl) (t20 d) ?_
  refine need_sat ⟨ILeL.refl _, c26 _⟩ ⟨fun h1 => need_sat ⟨ILeL.refl _, c26 _⟩ ⟨fun h2 => need_sat ⟨ILeL.refl _, c36 _ _ ?_ ?_⟩ ⟨fun h3 => ⟨_, rfl, ?_⟩, fun h3 => ⟨_, rfl, ?_⟩⟩, fun h2 => ⟨_, rfl, ?_⟩⟩, fun h1 => ⟨fun h2 => need_sat ⟨ILeL.refl _, c36 _ _ ?_ ?_⟩ ⟨fun h3 => ⟨_, rfl, ?_⟩, fun h3 => ⟨_, rfl, ?_⟩⟩, fun h2 => ⟨_, rfl, ?_⟩⟩⟩
  · exact hd.g
  · exact hd.c
  · simp only [decide_eq_true_eq, Bool.not_eq_true'] at h1 h2 h3; exact ile_i64 (by simp [validD, h1, h2, h3])
  · simp only [decide_eq_true_eq, Bool.not_eq_false'] at h1 h2 h3; exact ile_i64 (by simp [validD, h1, h2, h3])
  · simp only [decide_eq_true_eq, decide_eq_false_iff_not] at h1 h2; exact ile_i64 (by simp [validD, h1, h2])
  · exact hd.g
  · exact hd.c
  · simp only [decide_eq_true_eq, decide_eq_false_iff_not] at h1 h2; exact absurd h2 h1
  · simp only [decide_eq_true_eq, decide_eq_false_iff_not] at h1 h2; exact absurd h2 h1
  · simp only [decide_eq_true_eq, decide_eq_false_iff_not] at h1 h2; exact ile_i64 (by simp [validD, h1])
end Gp
namespace Gp
def noP : Payload := ⟨[], [], []⟩
def noD : Diff := ⟨noP, noP⟩
def betweenS (a b : Payload) : Diff × Int := if ckL a ≠ 0 then (noD, ckL a) else if ckL b ≠ 0 then (noD, ckL b) else (⟨minusP a b, minusP b a⟩, 0)
def applyS (p : Payload) (d : Diff) : Payload × Int :=
  if ckL p ≠ 0 then (noP, ckL p) else if validD d ≠ 0 then (noP, validD d) else if 0 < sizeP (minusP d.gone p) then (noP, 6)
  else if dupP (plusP (minusP p d.gone) d.come) = true then (noP, 14) else if ckL (plusP (minusP p d.gone) d.come) ≠ 0 then (noP, ckL (plusP (minusP p d.gone) d.come)) else (plusP (minusP p d.gone) d.come, 0)
def beforeS (a b : Int) : Bool × Int := if IntKind.u32.wrap (b - a) = 2147483648 then (false, 2) else (decide (IntKind.u32.wrap (b - a) ≠ 0) && decide (IntKind.u32.wrap (b - a) < 2147483648), 0)
theorem no_leaf {x y : Int} (h : x = y) : ILe (.tup [.agg [.v (.slice none 0 0), .v (.slice none 0 0), .v (.slice none 0 0)], .v (.int .i64 x)]) (.tup [encL noP, i64 y]) := by
  subst h; exact .tup (.cons (.agg (.cons (.nil _ _ _) (.cons (.nil _ _ _) (.cons (.nil _ _ _) (.refl _))))) (.refl _))
theorem noD_leaf {x y : Int} (h : x = y) : ILe (.tup [.agg [.v (.slice none 0 0), .v (.slice none 0 0), .v (.slice none 0 0), .v (.slice none 0 0), .v (.slice none 0 0), .v (.slice none 0 0)], .v (.int .i64 x)]) (.tup [encD noD, i64 y]) := by
  subst h; exact .tup (.cons (.agg (.cons (.nil _ _ _) (.cons (.nil _ _ _) (.cons (.nil _ _ _) (.cons (.nil _ _ _) (.cons (.nil _ _ _) (.cons (.nil _ _ _) (.refl _)))))))) (.refl _))
theorem pair_leaf {a b : IVal} {x y : Int} (h : a = b) (h2 : x = y) : ILe (.tup [a, .v (.int .i64 x)]) (.tup [b, i64 y]) := by
  subst h h2; exact .refl _
theorem bit_t {p : Prop} [Decidable p] (h : decide p = true) : p := of_decide_eq_true h
theorem bit_f {p : Prop} [Decidable p] (h : decide p = false) : ¬ p := of_decide_eq_false h
theorem nbit_t {p : Prop} [Decidable p] (h : (!decide p) = true) : ¬ p := by simpa using h
theorem nbit_f {p : Prop} [Decidable p] (h : (!decide p) = false) : p := by simpa using h
def T10 (p q : Payload) : Tell :=
  Tell.mk (fun x x_1 => false) (fun x x_1 => Orc.no) (fun x => Tree.fail 1000003 0) (fun x => 0) (fun x => ([], []))
  (oget
  [(4, 1, 1, Orc.call [encL p] (i64 (ckL p))), (9, 3, 1, Orc.call [encL q] (i64 (ckL q))), (11, 6, 2, Orc.call [encL p, encL q] (encL (minusP p q))),
  (14, 6, 2, Orc.call [encL p, encL q] (encL (minusP p q))), (11, 6, 5, Orc.call [encL q, encL p] (encL (minusP q p))),
  (14, 6, 5, Orc.call [encL q, encL p] (encL (minusP q p)))])
  fun x x_1 => Tree.fail 1000003 0
theorem t10 (p q : Payload) : levF prog Proofs.Tryz.f10 [encL p, encL q] (T10 p q) =
  Tree.need (ILeL [encL p] [encL p] ∧ ASpec prog 26 [encL p] (i64 (ckL p)))
  (Tree.br (decide (ckL p = (0 : Int)))
  (Tree.need (ILeL [encL q] [encL q] ∧ ASpec prog 26 [encL q] (i64 (ckL q)))
  (Tree.br (!decide (ckL q = (0 : Int)))
  (Tree.done Exit.ret
  (lret
  (IVal.tup
  [IVal.agg
  [IVal.v (Value.slice none 0 0), IVal.v (Value.slice none 0 0), IVal.v (Value.slice none 0 0), IVal.v (Value.slice none 0 0),
  IVal.v (Value.slice none 0 0), IVal.v (Value.slice none 0 0)],
  i64 (ckL q)])))
  (Tree.need (ILeL [encL p, encL q] [encL p, encL q] ∧ ASpec prog 27 [encL p, encL q] (encL (minusP p q)))
  (Tree.need (ILeL [encL q, encL p] [encL q, encL p] ∧ ASpec prog 27 [encL q, encL p] (encL (minusP q p)))
  (Tree.done Exit.ret
  (lret
  (IVal.tup
  [IVal.agg
  [slE 6 encO (minusP p q).origins, slE 2 encT (minusP p q).paths, slE 18 encK (minusP p q).keys, slE 6 encO (minusP q p).origins, slE 2 encT (minusP q p).paths,
  slE 18 encK (minusP q p).keys],
  IVal.v (Value.int IntKind.i64 (0 : Int))])))))))
  (Tree.br (!decide (ckL p = (0 : Int)))
  (Tree.done Exit.ret
  (lret
  (IVal.tup
  [IVal.agg
  [IVal.v (Value.slice none 0 0), IVal.v (Value.slice none 0 0), IVal.v (Value.slice none 0 0), IVal.v (Value.slice none 0 0),
  IVal.v (Value.slice none 0 0), IVal.v (Value.slice none 0 0)],
  i64 (ckL p)])))
  (Tree.need (ILeL [encL p, encL q] [encL p, encL q] ∧ ASpec prog 27 [encL p, encL q] (encL (minusP p q)))
  (Tree.need (ILeL [encL q, encL p] [encL q, encL p] ∧ ASpec prog 27 [encL q, encL p] (encL (minusP q p)))
  (Tree.done Exit.ret
  (lret
  (IVal.tup
  [IVal.agg
  [slE 6 encO (minusP p q).origins, slE 2 encT (minusP p q).paths, slE 18 encK (minusP p q).keys, slE 6 encO (minusP q p).origins, slE 2 encT (minusP q p).paths,
  slE 18 encK (minusP q p).keys],
  IVal.v (Value.int IntKind.i64 (0 : Int))]))))))) := by kernel_rfl
theorem c10 (p q : Payload) (hp : p.sm) (hq : q.sm) : ASpec prog 10 [encL p, encL q] (.tup [encD (betweenS p q).1, i64 (betweenS p q).2]) := by
  refine ASpec.treeW Proofs.Tryz.f10 (T10 p q) (by kernel_rfl) (by kernel_rfl) (t10 p q) ?_
  refine need_sat ⟨ILeL.refl _, c26 _⟩ ⟨fun h1 => need_sat ⟨ILeL.refl _, c26 _⟩ ⟨fun h2 => ⟨_, rfl, ?_⟩, fun h2 => need_sat ⟨ILeL.refl _, c27 _ _ ?_ ?_⟩ (need_sat ⟨ILeL.refl _, c27 _ _ ?_ ?_⟩ ⟨_, rfl, ?_⟩)⟩, fun h1 => ⟨fun h2 => ⟨_, rfl, ?_⟩, fun h2 => need_sat ⟨ILeL.refl _, c27 _ _ ?_ ?_⟩ (need_sat ⟨ILeL.refl _, c27 _ _ ?_ ?_⟩ ⟨_, rfl, ?_⟩)⟩⟩
  all_goals try exact absurd (nbit_f h2) (bit_f h1)
  · rw [betweenS, if_neg (Decidable.not_not.2 (bit_t h1)), if_pos (nbit_t h2)]; exact noD_leaf rfl
  · exact hp
  · exact hq
  · exact hq
  · exact hp
  · rw [betweenS, if_neg (Decidable.not_not.2 (bit_t h1)), if_neg (Decidable.not_not.2 (nbit_f h2))]; exact pair_leaf rfl rfl
  · rw [betweenS, if_pos (bit_f h1)]; exact noD_leaf rfl
def T12 (p : Payload) (d : Diff) : Tell :=
  Tell.mk (fun x x_1 => false) (fun x x_1 => Orc.no) (fun x => Tree.fail 1000003 0) (fun x => 0) (fun x => ([], []))
  (oget
  [(4, 1, 1, Orc.call [encL p] (i64 (ckL p))), (9, 3, 1, Orc.call [encD d] (i64 (validD d))), (11, 6, 3, Orc.call [encL d.gone, encL p] (encL (minusP d.gone p))),
  (14, 6, 3, Orc.call [encL d.gone, encL p] (encL (minusP d.gone p))), (11, 6, 4, Orc.call [encL (minusP d.gone p)] (i64 (sizeP (minusP d.gone p)))),
  (14, 6, 4, Orc.call [encL (minusP d.gone p)] (i64 (sizeP (minusP d.gone p)))), (17, 8, 3, Orc.call [encL p, encL d.gone] (encL (minusP p d.gone))),
  (20, 8, 3, Orc.call [encL p, encL d.gone] (encL (minusP p d.gone))),
  (17, 8, 6, Orc.call [encL (minusP p d.gone), encL d.come] (IVal.tup [encL (plusP (minusP p d.gone) d.come), bo (dupP (plusP (minusP p d.gone) d.come))])),
  (20, 8, 6, Orc.call [encL (minusP p d.gone), encL d.come] (IVal.tup [encL (plusP (minusP p d.gone) d.come), bo (dupP (plusP (minusP p d.gone) d.come))])),
  (31, 11, 1, Orc.call [encL (plusP (minusP p d.gone) d.come)] (i64 (ckL (plusP (minusP p d.gone) d.come)))),
  (34, 11, 1, Orc.call [encL (plusP (minusP p d.gone) d.come)] (i64 (ckL (plusP (minusP p d.gone) d.come))))])
  fun x x_1 => Tree.fail 1000003 0
theorem t12 (p : Payload) (d : Diff) : levF prog Proofs.Tryz.f12 [encL p, encD d] (T12 p d) =
  Tree.need (ILeL [encL p] [encL p] ∧ ASpec prog 26 [encL p] (i64 (ckL p)))
  (Tree.br (decide (ckL p = (0 : Int)))
  (Tree.need (ILeL [encD d] [encD d] ∧ ASpec prog 20 [encD d] (i64 (validD d)))
  (Tree.br (!decide (validD d = (0 : Int)))
  (Tree.done Exit.ret (lret (IVal.tup [IVal.agg [IVal.v (Value.slice none 0 0), IVal.v (Value.slice none 0 0), IVal.v (Value.slice none 0 0)], i64 (validD d)])))
  (Tree.need (ILeL [IVal.agg [slE 6 encO d.gone.origins, slE 2 encT d.gone.paths, slE 18 encK d.gone.keys], encL p] [encL d.gone, encL p] ∧ ASpec prog 27 [encL d.gone, encL p] (encL (minusP d.gone p)))
  (Tree.need (ILeL [encL (minusP d.gone p)] [encL (minusP d.gone p)] ∧ ASpec prog 29 [encL (minusP d.gone p)] (i64 (sizeP (minusP d.gone p))))
  (Tree.br (decide ((0 : Int) < sizeP (minusP d.gone p)))
  (Tree.done Exit.ret
  (lret (IVal.tup [IVal.agg [IVal.v (Value.slice none 0 0), IVal.v (Value.slice none 0 0), IVal.v (Value.slice none 0 0)], IVal.v (Value.int IntKind.i64 (6 : Int))])))
  (Tree.need
  (ILeL [encL p, IVal.agg [slE 6 encO d.gone.origins, slE 2 encT d.gone.paths, slE 18 encK d.gone.keys]] [encL p, encL d.gone] ∧ ASpec prog 27 [encL p, encL d.gone] (encL (minusP p d.gone)))
  (Tree.need
  (ILeL [encL (minusP p d.gone), IVal.agg [slE 6 encO d.come.origins, slE 2 encT d.come.paths, slE 18 encK d.come.keys]] [encL (minusP p d.gone), encL d.come] ∧
  ASpec prog 30 [encL (minusP p d.gone), encL d.come] (IVal.tup [encL (plusP (minusP p d.gone) d.come), bo (dupP (plusP (minusP p d.gone) d.come))]))
  (Tree.br (dupP (plusP (minusP p d.gone) d.come))
  (Tree.done Exit.ret
  (lret (IVal.tup [IVal.agg [IVal.v (Value.slice none 0 0), IVal.v (Value.slice none 0 0), IVal.v (Value.slice none 0 0)], IVal.v (Value.int IntKind.i64 (14 : Int))])))
  (Tree.need (ILeL [encL (plusP (minusP p d.gone) d.come)] [encL (plusP (minusP p d.gone) d.come)] ∧ ASpec prog 26 [encL (plusP (minusP p d.gone) d.come)] (i64 (ckL (plusP (minusP p d.gone) d.come))))
  (Tree.br (!decide (ckL (plusP (minusP p d.gone) d.come) = (0 : Int)))
  (Tree.done Exit.ret
  (lret
  (IVal.tup [IVal.agg [IVal.v (Value.slice none 0 0), IVal.v (Value.slice none 0 0), IVal.v (Value.slice none 0 0)], i64 (ckL (plusP (minusP p d.gone) d.come))])))
  (Tree.done Exit.ret (lret (IVal.tup [encL (plusP (minusP p d.gone) d.come), IVal.v (Value.int IntKind.i64 (0 : Int))])))))))))))))
  (Tree.br (!decide (ckL p = (0 : Int)))
  (Tree.done Exit.ret (lret (IVal.tup [IVal.agg [IVal.v (Value.slice none 0 0), IVal.v (Value.slice none 0 0), IVal.v (Value.slice none 0 0)], i64 (ckL p)])))
  (Tree.need (ILeL [IVal.agg [slE 6 encO d.gone.origins, slE 2 encT d.gone.paths, slE 18 encK d.gone.keys], encL p] [encL d.gone, encL p] ∧ ASpec prog 27 [encL d.gone, encL p] (encL (minusP d.gone p)))
  (Tree.need (ILeL [encL (minusP d.gone p)] [encL (minusP d.gone p)] ∧ ASpec prog 29 [encL (minusP d.gone p)] (i64 (sizeP (minusP d.gone p))))
  (Tree.br (decide ((0 : Int) < sizeP (minusP d.gone p)))
  (Tree.done Exit.ret
  (lret (IVal.tup [IVal.agg [IVal.v (Value.slice none 0 0), IVal.v (Value.slice none 0 0), IVal.v (Value.slice none 0 0)], IVal.v (Value.int IntKind.i64 (6 : Int))])))
  (Tree.need
  (ILeL [encL p, IVal.agg [slE 6 encO d.gone.origins, slE 2 encT d.gone.paths, slE 18 encK d.gone.keys]] [encL p, encL d.gone] ∧ ASpec prog 27 [encL p, encL d.gone] (encL (minusP p d.gone)))
  (Tree.need
  (ILeL [encL (minusP p d.gone), IVal.agg [slE 6 encO d.come.origins, slE 2 encT d.come.paths, slE 18 encK d.come.keys]] [encL (minusP p d.gone), encL d.come] ∧
  ASpec prog 30 [encL (minusP p d.gone), encL d.come] (IVal.tup [encL (plusP (minusP p d.gone) d.come), bo (dupP (plusP (minusP p d.gone) d.come))]))
  (Tree.br (dupP (plusP (minusP p d.gone) d.come))
  (Tree.done Exit.ret
  (lret (IVal.tup [IVal.agg [IVal.v (Value.slice none 0 0), IVal.v (Value.slice none 0 0), IVal.v (Value.slice none 0 0)], IVal.v (Value.int IntKind.i64 (14 : Int))])))
  (Tree.need (ILeL [encL (plusP (minusP p d.gone) d.come)] [encL (plusP (minusP p d.gone) d.come)] ∧ ASpec prog 26 [encL (plusP (minusP p d.gone) d.come)] (i64 (ckL (plusP (minusP p d.gone) d.come))))
  (Tree.br (!decide (ckL (plusP (minusP p d.gone) d.come) = (0 : Int)))
  (Tree.done Exit.ret
  (lret (IVal.tup [IVal.agg [IVal.v (Value.slice none 0 0), IVal.v (Value.slice none 0 0), IVal.v (Value.slice none 0 0)], i64 (ckL (plusP (minusP p d.gone) d.come))])))
  (Tree.done Exit.ret (lret (IVal.tup [encL (plusP (minusP p d.gone) d.come), IVal.v (Value.int IntKind.i64 (0 : Int))]))))))))))))) := by kernel_rfl
theorem c12 (p : Payload) (d : Diff) (hp : p.sm) (hd : d.sm) : ASpec prog 12 [encL p, encD d] (.tup [encL (applyS p d).1, i64 (applyS p d).2]) := by
  refine ASpec.treeW Proofs.Tryz.f12 (T12 p d) (by kernel_rfl) (by kernel_rfl) (t12 p d) ?_
  refine need_sat ⟨ILeL.refl _, c26 _⟩ ⟨fun h1 => need_sat ⟨ILeL.refl _, c20 _ ?_⟩ ⟨fun h2 => ⟨_, rfl, ?_⟩, fun h2 => need_sat ⟨ILeL.refl _, c27 _ _ ?_ ?_⟩ (need_sat ⟨ILeL.refl _, c29 _ ?_⟩ ⟨fun h3 => ⟨_, rfl, ?_⟩, fun h3 => need_sat ⟨ILeL.refl _, c27 _ _ ?_ ?_⟩ (need_sat ⟨ILeL.refl _, c30 _ _ ?_ ?_⟩ ⟨fun h4 => ⟨_, rfl, ?_⟩, fun h4 => need_sat ⟨ILeL.refl _, c26 _⟩ ⟨fun h5 => ⟨_, rfl, ?_⟩, fun h5 => ⟨_, rfl, ?_⟩⟩⟩)⟩)⟩, fun h1 => ⟨fun h2 => ⟨_, rfl, ?_⟩, fun h2 => need_sat ⟨ILeL.refl _, c27 _ _ ?_ ?_⟩ (need_sat ⟨ILeL.refl _, c29 _ ?_⟩ ⟨fun h3 => ⟨_, rfl, ?_⟩, fun h3 => need_sat ⟨ILeL.refl _, c27 _ _ ?_ ?_⟩ (need_sat ⟨ILeL.refl _, c30 _ _ ?_ ?_⟩ ⟨fun h4 => ⟨_, rfl, ?_⟩, fun h4 => need_sat ⟨ILeL.refl _, c26 _⟩ ⟨fun h5 => ⟨_, rfl, ?_⟩, fun h5 => ⟨_, rfl, ?_⟩⟩⟩)⟩)⟩⟩
  all_goals try exact absurd (nbit_f h2) (bit_f h1)
  · exact hd
  · rw [applyS, if_neg (Decidable.not_not.2 (bit_t h1)), if_pos (nbit_t h2)]; exact no_leaf rfl
  · exact hd.g
  · exact hp
  · exact (minusP_sm hd.g p).ok
  · rw [applyS, if_neg (Decidable.not_not.2 (bit_t h1)), if_neg (Decidable.not_not.2 (nbit_f h2)), if_pos (bit_t h3)]; exact no_leaf rfl
  · exact hp
  · exact hd.g
  · exact minusP_sm hp _
  · exact hd.c
  · rw [applyS, if_neg (Decidable.not_not.2 (bit_t h1)), if_neg (Decidable.not_not.2 (nbit_f h2)), if_neg (bit_f h3), if_pos h4]; exact no_leaf rfl
  · rw [applyS, if_neg (Decidable.not_not.2 (bit_t h1)), if_neg (Decidable.not_not.2 (nbit_f h2)), if_neg (bit_f h3), if_neg (by rw [h4]; decide), if_pos (nbit_t h5)]; exact no_leaf rfl
  · rw [applyS, if_neg (Decidable.not_not.2 (bit_t h1)), if_neg (Decidable.not_not.2 (nbit_f h2)), if_neg (bit_f h3), if_neg (by rw [h4]; decide), if_neg (Decidable.not_not.2 (nbit_f h5))]; exact pair_leaf rfl rfl
  · rw [applyS, if_pos (bit_f h1)]; exact no_leaf rfl
def T39 (a b : Int) : Tell :=
  Tell.mk (fun x x_1 => false) (fun x x_1 => Orc.no) (fun x => Tree.fail 1000003 0) (fun x => 0) (fun x => ([], [])) (fun x x_1 x_2 => Orc.no) fun x x_1 => Tree.fail 1000003 0
theorem t39 (a b : Int) : levF prog Proofs.Tryz.f39 [u32 a, u32 b] (T39 a b) =
  Tree.br (decide (IntKind.wrap IntKind.u32 (b - a) = (2147483648 : Int))) (Tree.done Exit.ret (lret (IVal.tup [IVal.v (Value.bool false), IVal.v (Value.int IntKind.i64 (2 : Int))])))
  (Tree.br (!decide (IntKind.wrap IntKind.u32 (b - a) = (0 : Int))) (Tree.done Exit.ret (lret (IVal.tup [IVal.v (Value.bool (decide (IntKind.wrap IntKind.u32 (b - a) < (2147483648 : Int)))), IVal.v (Value.int IntKind.i64 (0 : Int))])))
  (Tree.done Exit.ret (lret (IVal.tup [IVal.v (Value.bool false), IVal.v (Value.int IntKind.i64 (0 : Int))])))) := by kernel_rfl
theorem c39 (a b : Int) : ASpec prog 39 [u32 a, u32 b] (.tup [bo (beforeS a b).1, i64 (beforeS a b).2]) := by
  refine ASpec.treeW Proofs.Tryz.f39 (T39 a b) (by kernel_rfl) (by kernel_rfl) (t39 a b) ?_
  refine ⟨fun h1 => ⟨_, rfl, ?_⟩, fun h1 => ⟨fun h2 => ⟨_, rfl, ?_⟩, fun h2 => ⟨_, rfl, ?_⟩⟩⟩
  · rw [beforeS, if_pos (bit_t h1)]; exact .refl _
  · rw [beforeS, if_neg (bit_f h1)]
    exact .tup (.cons (ile_bo (by rw [decide_eq_true (nbit_t h2), Bool.true_and])) (.refl _))
  · rw [beforeS, if_neg (bit_f h1)]
    exact .tup (.cons (ile_bo (by rw [decide_eq_false (Decidable.not_not.2 (nbit_f h2)), Bool.false_and])) (.refl _))
def T14 (d f : Diff) : Tell :=
  Tell.mk (fun x x_1 => false) (fun x x_1 => Orc.no) (fun x => Tree.fail 1000003 0) (fun x => 0) (fun x => ([], []))
  (oget [(3, 1, 4, Orc.call [encL d.gone, encL f.gone] (bo (decide (d.gone = f.gone)))), (3, 1, 10, Orc.call [encL d.come, encL f.come] (bo (decide (d.come = f.come))))]) fun x x_1 =>
  Tree.fail 1000003 0
theorem t14 (d f : Diff) : levF prog Proofs.Tryz.f14 [encD d, encD f] (T14 d f) =
  Tree.need
  (ILeL [IVal.agg [slE 6 encO d.gone.origins, slE 2 encT d.gone.paths, slE 18 encK d.gone.keys], IVal.agg [slE 6 encO f.gone.origins, slE 2 encT f.gone.paths, slE 18 encK f.gone.keys]]
  [encL d.gone, encL f.gone] ∧
  ASpec prog 15 [encL d.gone, encL f.gone] (bo (decide (d.gone = f.gone))))
  (Tree.br (decide (d.gone = f.gone))
  (Tree.need
  (ILeL [IVal.agg [slE 6 encO d.come.origins, slE 2 encT d.come.paths, slE 18 encK d.come.keys], IVal.agg [slE 6 encO f.come.origins, slE 2 encT f.come.paths, slE 18 encK f.come.keys]]
  [encL d.come, encL f.come] ∧
  ASpec prog 15 [encL d.come, encL f.come] (bo (decide (d.come = f.come))))
  (Tree.done Exit.ret (lret (IVal.v (Value.bool (decide (d.come = f.come)))))))
  (Tree.done Exit.ret (lret (IVal.v (Value.bool false))))) := by kernel_rfl
theorem c14 (d f : Diff) (hd : d.sm) : ASpec prog 14 [encD d, encD f] (bo (decide (d = f))) := by
  refine ASpec.treeW Proofs.Tryz.f14 (T14 d f) (by kernel_rfl) (by kernel_rfl) (t14 d f) ?_
  have hab : decide (d = f) = (decide (d.gone = f.gone) && decide (d.come = f.come)) := by
    rw [Bool.eq_iff_iff]; cases d; cases f; simp
  rw [hab]
  refine need_sat ⟨ILeL.refl _, c15 _ _ ?_⟩ ⟨fun h1 => need_sat ⟨ILeL.refl _, c15 _ _ ?_⟩ ⟨_, rfl, ?_⟩, fun h1 => ⟨_, rfl, ?_⟩⟩
  · exact hd.g.ok
  · exact hd.c.ok
  · exact ile_bo (by rw [h1, Bool.true_and])
  · exact ile_bo (by rw [h1, Bool.false_and])
def T7 (d : Diff) : Tell :=
  Tell.mk (fun x x_1 => false) (fun x x_1 => Orc.no) (fun x => Tree.fail 1000003 0) (fun x => 0) (fun x => ([], []))
  (oget [(2, 1, 2, Orc.call [encL d.gone] (bo (greatP d.gone))), (2, 1, 6, Orc.call [encL d.come] (bo (greatP d.come)))]) fun x x_1 => Tree.fail 1000003 0
theorem t7 (d : Diff) : levF prog Proofs.Tryz.f7 [encD d] (T7 d) =
  Tree.need (ILeL [IVal.agg [slE 6 encO d.gone.origins, slE 2 encT d.gone.paths, slE 18 encK d.gone.keys]] [encL d.gone] ∧ ASpec prog 6 [encL d.gone] (bo (greatP d.gone)))
  (Tree.br (greatP d.gone) (Tree.done Exit.ret (lret (IVal.v (Value.bool true))))
  (Tree.need (ILeL [IVal.agg [slE 6 encO d.come.origins, slE 2 encT d.come.paths, slE 18 encK d.come.keys]] [encL d.come] ∧ ASpec prog 6 [encL d.come] (bo (greatP d.come)))
  (Tree.done Exit.ret (lret (IVal.v (Value.bool (greatP d.come))))))) := by kernel_rfl
theorem c7 (d : Diff) (hg : d.gone.paths.length ≤ 2 ^ 63 - 1) (hc : d.come.paths.length ≤ 2 ^ 63 - 1) : ASpec prog 7 [encD d] (bo (greatP d.gone || greatP d.come)) := by
  refine ASpec.treeW Proofs.Tryz.f7 (T7 d) (by kernel_rfl) (by kernel_rfl) (t7 d) ?_
  refine need_sat ⟨ILeL.refl _, c6 _ ?_⟩ ⟨fun h1 => ⟨_, rfl, ?_⟩, fun h1 => need_sat ⟨ILeL.refl _, c6 _ ?_⟩ ⟨_, rfl, ?_⟩⟩
  · exact hg
  · exact ile_bo (by rw [h1, Bool.true_or])
  · exact hc
  · exact ile_bo (by rw [h1, Bool.false_or])
end Gp
