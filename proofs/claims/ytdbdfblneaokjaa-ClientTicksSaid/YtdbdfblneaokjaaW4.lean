/- Part 4 of the walk and of the plain law of ClientTicks. -/
import Derived.Test.YtdbdfblneaokjaaW3

set_option maxRecDepth 100000
set_option maxHeartbeats 0
set_option linter.unusedVariables false
set_option linter.unusedSimpArgs false
open Go Go.Abs
namespace Gp
/-! bits -/
def I97 (k : Nat) (i : Nat) : LState := { t := [(4, .imm (i64 i)), (3, .imm (u64 (2 ^ i))), (0, .imm (i64 k))], s := [], m := 14, n := 0 }
def E97 (k : Nat) : LState := { t := [(3, .imm (u64 (2 ^ k)))], s := [], m := 14, n := 0 }
def fin97 : Exit → Fin
  | .normal => ⟨[], [4, 3, 0], []⟩
  | .ret => ⟨[], [], []⟩
  | _ => ⟨[], [3], []⟩
def L97 (k : Nat) : Tree := .done (.exit 0) (E97 k)
def T97r (k : Nat) (i : Nat) : Tell :=
  Tell.mk (fun x x_1 => false) (fun x x_1 => Orc.no) (fun x => Tree.fail (1000003 : Nat) (0 : Nat)) (fun x => (0 : Nat)) (fun x => ([], [])) (fun x x_1 x_2 => Orc.no) fun x x_1 => Tree.fail (1000003 : Nat) (0 : Nat)
theorem t97r (k : Nat) (i : Nat) : levL prog Proofs.Try.f97 3 (I97 k i) (T97r k i) fin97 =
  Tree.br (decide ((↑i : Int) < (↑k : Int)))
  (Tree.done Exit.normal
  (LState.mk
  [((4 : Nat), AVal.imm (IVal.v (Value.int IntKind.i64 (IntKind.wrap IntKind.i64 ((↑i : Int) + (1 : Int)))))), ((3 : Nat), AVal.imm (IVal.v (Value.int IntKind.u64 (IntKind.wrap IntKind.u64 ((2 : Int) ^ i + (2 : Int) ^ i))))),
  ((0 : Nat), AVal.imm (i64 (↑k : Int)))]
  [] (14 : Nat) (10 : Nat) []))
  (Tree.done (Exit.exit (0 : Nat)) (LState.mk [((3 : Nat), AVal.imm (u64 ((2 : Int) ^ i)))] [] (14 : Nat) (3 : Nat) [])) := by kernel_rfl
def B97 (k : Nat) : Tell := { Lp := fun _ => L97 k, lv := fun _ => ([4, 3, 0], []) }
def T97 (k : Nat) : Tell :=
  Tell.mk (fun x x_1 => false) (fun x x_1 => Orc.no) (fun x => L97 k) (fun x => (0 : Nat)) (fun x => ([(4 : Nat), (3 : Nat), (0 : Nat)], [])) (fun x x_1 x_2 => Orc.no) fun x x_1 => L97 k
theorem t97 (k : Nat) : levF prog Proofs.Try.f97 [i64 k] (T97 k) =
  Tree.loop (3 : Nat) (LState.mk [((4 : Nat), AVal.imm (IVal.v (Value.int IntKind.i64 (0 : Int)))), ((3 : Nat), AVal.imm (IVal.v (Value.int IntKind.u64 (1 : Int)))), ((0 : Nat), AVal.imm (i64 (↑k : Int)))] [] (14 : Nat) (3 : Nat) [])
  (Tree.done (Exit.exit (0 : Nat)) (E97 k)) (Tree.done Exit.ret (lret (IVal.v (Value.int IntKind.u64 ((2 : Int) ^ k))))) := by kernel_rfl
theorem l97 (k : Nat) (hk : k ≤ 63) (σ : LState) (h : LSub σ (I97 k 0)) : LoopOk prog [] (bodyOf Proofs.Try.f97) 3 σ (L97 k) := by
  refine LoopOk.count k 0 (I97 k) (E97 k) (T97r k) fin97 (by kernel_rfl) h fun i hi => ?_
  rw [t97r]
  refine ⟨fun h1 => ?_, fun h1 => ?_⟩
  · have hlt : i < k := by (simp only [List.length_map, decide_eq_true_eq, decide_eq_false_iff_not, Int.toNat_natCast] at * <;> omega)
    have e : IntKind.u64.wrap (2 ^ i + 2 ^ i) = 2 ^ (i + 1) := by
      have : (2 : Int) ^ (i + 1) ≤ 2 ^ 63 := by exact_mod_cast Nat.pow_le_pow_right (by decide) (by omega)
      rw [Int.pow_succ] at *
      rw [IntWalk.u64_in _ ⟨by have := Int.pow_pos (m := i) (show (0:Int) < 2 by decide); omega, by omega⟩]; omega
    exact ⟨hlt, by simp [I97, i64, u64, i64_small (n := i) hlt (by omega), e, LSub, tsub, ssub, tl, sl, linT, linS, ainB, ainBL]⟩
  · have : i = k := by (simp only [List.length_map, decide_eq_true_eq, decide_eq_false_iff_not, Int.toNat_natCast] at * <;> omega)
    exact ⟨rfl, by omega, by simp [E97, this, LSub, tsub, ssub, tl, sl, linT, linS, ainB, ainBL]⟩
theorem c97n (k : Nat) (hk : k ≤ 63) : ASpec prog 97 [i64 k] (u64 (2 ^ k)) := by
  refine ASpec.treeW Proofs.Try.f97 (T97 k) (by kernel_rfl) (by kernel_rfl) (t97 k) ?_
  refine ⟨?_, ⟨_, rfl, ?_⟩⟩
  · exact l97 k hk _ (by simp [I97, i64, u64, LSub, tsub, ssub, tl, sl, linT, linS, ainB, ainBL])
  · exact .refl _
theorem c97 (k : Int) (h0 : 0 ≤ k) (hk : k ≤ 63) : ASpec prog 97 [i64 k] (u64 (2 ^ k.toNat)) := by
  have := c97n k.toNat (by omega)
  rwa [show ((k.toNat : Nat) : Int) = k from by omega] at this
def bitV (x k : Int) : Int := IntKind.i64.wrap ((IntKind.u64.wrap (x.tdiv (2 ^ k.toNat))).tmod 2)
def bitF (f : Int) (a : Addr) (i : Nat) : Int := if 63 < width f - 1 - i then bitV a.hi (width f - 1 - i - 64) else bitV a.lo (width f - 1 - i)
def I86 (f : Int) (a : Addr) (i : Nat) : LState := { t := [(7, .imm (i64 i)), (6, .imm (i64 (width f))), (5, .own 50 i), (3, .ptr 0 0)], s := [(0, .box 70 (.imm (encA a))), (50, .row 3 1 ((List.range i).map fun j => i64 (bitF f a j)))], m := 39, n := 60 }
def E86 (f : Int) (a : Addr) : LState := { t := [(5, .own 50 (width f).toNat)], s := [(50, .row 3 1 ((List.range (width f).toNat).map fun j => i64 (bitF f a j)))], m := 39, n := 60 }
def fin86 : Exit → Nat → Fin
  | .normal, n => ⟨[(50, 59), (n - 5, 50)], [7, 6, 5, 3], [0, 50]⟩
  | _, _ => ⟨[], [5], [50]⟩
def T86r (f : Int) (a : Addr) (i : Nat) : Tell :=
  Tell.mk (fun x x_1 => false) (fun x x_1 => Orc.no) (fun x => Tree.fail (1000003 : Nat) (0 : Nat)) (fun x => (0 : Nat)) (fun x => ([], []))
  (oget
  [((79 : Nat), (11 : Nat), (3 : Nat),
  Orc.call [i64 (IntKind.wrap IntKind.i64 (IntKind.wrap IntKind.i64 (IntKind.wrap IntKind.i64 (width f - (1 : Int)) - (↑i : Int)) - (64 : Int)))]
  (u64 ((2 : Int) ^ Int.toNat (IntKind.wrap IntKind.i64 (IntKind.wrap IntKind.i64 (IntKind.wrap IntKind.i64 (width f - (1 : Int)) - (↑i : Int)) - (64 : Int)))))),
  ((73 : Nat), (11 : Nat), (3 : Nat),
  Orc.call [i64 (IntKind.wrap IntKind.i64 (IntKind.wrap IntKind.i64 (width f - (1 : Int)) - (↑i : Int)))] (u64 ((2 : Int) ^ Int.toNat (IntKind.wrap IntKind.i64 (IntKind.wrap IntKind.i64 (width f - (1 : Int)) - (↑i : Int))))))])
  fun x x_1 => Tree.fail (1000003 : Nat) (0 : Nat)
theorem t86r (f : Int) (a : Addr) (i : Nat) : levLN prog Proofs.Try.f86 4 (I86 f a i) (T86r f a i) fin86 =
  Tree.br (decide ((↑i : Int) < width f))
  (Tree.br (decide ((63 : Int) < IntKind.wrap IntKind.i64 (IntKind.wrap IntKind.i64 (width f - (1 : Int)) - (↑i : Int))))
  (Tree.need
  (ILeL [IVal.v (Value.int IntKind.i64 (IntKind.wrap IntKind.i64 (IntKind.wrap IntKind.i64 (IntKind.wrap IntKind.i64 (width f - (1 : Int)) - (↑i : Int)) - (64 : Int))))]
  [i64 (IntKind.wrap IntKind.i64 (IntKind.wrap IntKind.i64 (IntKind.wrap IntKind.i64 (width f - (1 : Int)) - (↑i : Int)) - (64 : Int)))] ∧
  ASpec prog (97 : Nat) [i64 (IntKind.wrap IntKind.i64 (IntKind.wrap IntKind.i64 (IntKind.wrap IntKind.i64 (width f - (1 : Int)) - (↑i : Int)) - (64 : Int)))]
  (u64 ((2 : Int) ^ Int.toNat (IntKind.wrap IntKind.i64 (IntKind.wrap IntKind.i64 (IntKind.wrap IntKind.i64 (width f - (1 : Int)) - (↑i : Int)) - (64 : Int))))))
  (Tree.need ((2 : Int) ^ Int.toNat (IntKind.wrap IntKind.i64 (IntKind.wrap IntKind.i64 (IntKind.wrap IntKind.i64 (width f - (1 : Int)) - (↑i : Int)) - (64 : Int))) ≠ (0 : Int))
  (Tree.need ((2 : Int) ≠ (0 : Int))
  (Tree.need (List.length (List.map (fun j => i64 (bitF f a j)) (List.range i)) = i ∧ cellsOk (List.map (fun j => i64 (bitF f a j)) (List.range i)) = true ∧ true = true ∧ i + (1 : Nat) ≤ (1000000 : Nat))
  (Tree.done Exit.normal
  (LState.mk
  [((7 : Nat), AVal.imm (IVal.v (Value.int IntKind.i64 (IntKind.wrap IntKind.i64 ((↑i : Int) + (1 : Int)))))), ((6 : Nat), AVal.imm (i64 (width f))), ((5 : Nat), AVal.own (50 : Nat) (i + (1 : Nat))),
  ((3 : Nat), AVal.ptr (0 : Nat) (0 : Nat))]
  [((0 : Nat), Entry.box (70 : Nat) (AVal.imm (encA a))),
  ((50 : Nat),
  Entry.row (3 : Nat) (1 : Nat)
  (List.map (fun j => i64 (bitF f a j)) (List.range i) ++
  [IVal.v
  (Value.int IntKind.i64
  (IntKind.wrap IntKind.i64
  (Int.tmod (IntKind.wrap IntKind.u64 (Int.tdiv a.hi ((2 : Int) ^ Int.toNat (IntKind.wrap IntKind.i64 (IntKind.wrap IntKind.i64 (IntKind.wrap IntKind.i64 (width f - (1 : Int)) - (↑i : Int)) - (64 : Int))))))
  (2 : Int))))]))]
  (39 : Nat) (92 : Nat) []))))))
  (Tree.need
  (ILeL [IVal.v (Value.int IntKind.i64 (IntKind.wrap IntKind.i64 (IntKind.wrap IntKind.i64 (width f - (1 : Int)) - (↑i : Int))))] [i64 (IntKind.wrap IntKind.i64 (IntKind.wrap IntKind.i64 (width f - (1 : Int)) - (↑i : Int)))] ∧
  ASpec prog (97 : Nat) [i64 (IntKind.wrap IntKind.i64 (IntKind.wrap IntKind.i64 (width f - (1 : Int)) - (↑i : Int)))]
  (u64 ((2 : Int) ^ Int.toNat (IntKind.wrap IntKind.i64 (IntKind.wrap IntKind.i64 (width f - (1 : Int)) - (↑i : Int))))))
  (Tree.need ((2 : Int) ^ Int.toNat (IntKind.wrap IntKind.i64 (IntKind.wrap IntKind.i64 (width f - (1 : Int)) - (↑i : Int))) ≠ (0 : Int))
  (Tree.need ((2 : Int) ≠ (0 : Int))
  (Tree.need (List.length (List.map (fun j => i64 (bitF f a j)) (List.range i)) = i ∧ cellsOk (List.map (fun j => i64 (bitF f a j)) (List.range i)) = true ∧ true = true ∧ i + (1 : Nat) ≤ (1000000 : Nat))
  (Tree.done Exit.normal
  (LState.mk
  [((7 : Nat), AVal.imm (IVal.v (Value.int IntKind.i64 (IntKind.wrap IntKind.i64 ((↑i : Int) + (1 : Int)))))), ((6 : Nat), AVal.imm (i64 (width f))), ((5 : Nat), AVal.own (50 : Nat) (i + (1 : Nat))),
  ((3 : Nat), AVal.ptr (0 : Nat) (0 : Nat))]
  [((0 : Nat), Entry.box (70 : Nat) (AVal.imm (encA a))),
  ((50 : Nat),
  Entry.row (3 : Nat) (1 : Nat)
  (List.map (fun j => i64 (bitF f a j)) (List.range i) ++
  [IVal.v
  (Value.int IntKind.i64
  (IntKind.wrap IntKind.i64 (Int.tmod (IntKind.wrap IntKind.u64 (Int.tdiv a.lo ((2 : Int) ^ Int.toNat (IntKind.wrap IntKind.i64 (IntKind.wrap IntKind.i64 (width f - (1 : Int)) - (↑i : Int)))))) (2 : Int))))]))]
  (39 : Nat) (86 : Nat) [])))))))
  (Tree.done (Exit.exit (0 : Nat)) (LState.mk [((5 : Nat), AVal.own (50 : Nat) i)] [((50 : Nat), Entry.row (3 : Nat) (1 : Nat) (List.map (fun j => i64 (bitF f a j)) (List.range i)))] (39 : Nat) (63 : Nat) [])) := by kernel_rfl
def B86 (f : Int) (a : Addr) : Tell := { Lp := fun _ => .done (.exit 0) (E86 f a), lv := fun _ => ([7, 6, 5, 3], [0]) }
def T86 (f : Int) (a : Addr) : Tell :=
  Tell.mk (fun x x_1 => false) (fun x x_1 => Orc.no) (fun x => Tree.done (Exit.exit (0 : Nat)) (E86 f a)) (fun x => (0 : Nat)) (fun x => ([(7 : Nat), (6 : Nat), (5 : Nat), (3 : Nat)], [(0 : Nat)]))
  (oget [((3 : Nat), (2 : Nat), (1 : Nat), Orc.call [u8 f] (i64 (width f)))]) fun x x_1 => Tree.done (Exit.exit (0 : Nat)) (E86 f a)
theorem t86 (f : Int) (a : Addr) : levF prog Proofs.Try.f86 [u8 f, encA a] (T86 f a) =
  Tree.need (ILeL [u8 f] [u8 f] ∧ ASpec prog (73 : Nat) [u8 f] (i64 (width f)))
  (Tree.loop (4 : Nat)
  (LState.mk [((7 : Nat), AVal.imm (IVal.v (Value.int IntKind.i64 (0 : Int)))), ((6 : Nat), AVal.imm (i64 (width f))), ((5 : Nat), AVal.imm (IVal.v (Value.slice none (0 : Nat) (0 : Nat)))), ((3 : Nat), AVal.ptr (0 : Nat) (0 : Nat))]
  [((0 : Nat), Entry.box (70 : Nat) (AVal.imm (encA a)))] (39 : Nat) (7 : Nat) [])
  (Tree.done (Exit.exit (0 : Nat)) (E86 f a))
  (Tree.need (eqs [(Int.toNat (width f), List.length (List.map (fun j => i64 (bitF f a j)) (List.range (Int.toNat (width f)))))])
  (Tree.done Exit.ret (lret (IVal.sl true false (1 : Nat) (List.map (fun j => i64 (bitF f a j)) (List.range (Int.toNat (width f))))))))) := by kernel_rfl
theorem width_cases (f : Int) : width f = 0 ∨ width f = 32 ∨ width f = 128 := by unfold width; split; exact .inr (.inl rfl); split; exact .inr (.inr rfl); exact .inl rfl
theorem range_succ_map {g : Nat → IVal} (i : Nat) : (List.range i).map g ++ [g i] = (List.range (i + 1)).map g := by rw [List.range_succ, List.map_append]; rfl
theorem l86 (f : Int) (a : Addr) (σ : LState) (h : LSub σ (I86 f a 0)) : LoopOk prog [] (bodyOf Proofs.Try.f86) 4 σ (.done (.exit 0) (E86 f a)) := by
  have hw := width_le f
  have hw0 := width_cases f
  refine LoopOk.countN (width f).toNat 0 (I86 f a) (E86 f a) (T86r f a) fin86 (by kernel_rfl) h fun i hi => ?_
  rw [t86r]
  have e1 : IntKind.i64.wrap (width f - 1) = width f - 1 := IntWalk.i64_in _ (by omega)
  have e2 : IntKind.i64.wrap (width f - 1 - (i : Int)) = width f - 1 - (i : Int) := IntWalk.i64_in _ (by omega)
  have e3 : IntKind.i64.wrap (width f - 1 - (i : Int) - 64) = width f - 1 - (i : Int) - 64 := IntWalk.i64_in _ (by omega)
  simp only [e1, e2, e3]
  have hp : ∀ k : Nat, (2 : Int) ^ k ≠ 0 := fun k => by have := Int.pow_pos (m := k) (show (0:Int) < 2 by decide); omega
  have row : ∀ v : Int, v = bitF f a i → some (Entry.row 3 1 ((List.range i).map (fun j => i64 (bitF f a j)) ++ [i64 v])) = some (Entry.row 3 1 ((List.range (i + 1)).map fun j => i64 (bitF f a j))) := by
    rintro v rfl; rw [← range_succ_map]
  refine ⟨fun h1 => ⟨fun h2 => ⟨⟨ILeL.refl _, c97 _ ?_ ?_⟩, fun _ => ⟨hp _, fun _ => ⟨by decide, fun _ => ⟨?_, fun _ => ?_⟩⟩⟩⟩, fun h2 => ⟨⟨ILeL.refl _, c97 _ ?_ ?_⟩, fun _ => ⟨hp _, fun _ => ⟨by decide, fun _ => ⟨?_, fun _ => ?_⟩⟩⟩⟩⟩, fun h1 => ?_⟩
  · (simp only [List.length_map, decide_eq_true_eq, decide_eq_false_iff_not, Int.toNat_natCast] at * <;> omega)
  · (simp only [List.length_map, decide_eq_true_eq, decide_eq_false_iff_not, Int.toNat_natCast] at * <;> omega)
  · exact ⟨by simp, cellsOk_map _ (fun _ => rfl) _, trivial, by omega⟩
  · have hlt : i < (width f).toNat := by (simp only [List.length_map, decide_eq_true_eq, decide_eq_false_iff_not, Int.toNat_natCast] at * <;> omega)
    refine ⟨hlt, ⟨?_, rfl, rfl, rfl, trivial⟩, ⟨rfl, row _ ?_, trivial⟩, rfl, rfl, rfl⟩
    · exact congrArg (fun n => AVal.imm (i64 n)) (i64_small hlt (by omega))
    · simp only [decide_eq_true_eq] at h2
      rw [bitF, if_pos h2]; rfl
  · (simp only [List.length_map, decide_eq_true_eq, decide_eq_false_iff_not, Int.toNat_natCast] at * <;> omega)
  · (simp only [List.length_map, decide_eq_true_eq, decide_eq_false_iff_not, Int.toNat_natCast] at * <;> omega)
  · exact ⟨by simp, cellsOk_map _ (fun _ => rfl) _, trivial, by omega⟩
  · have hlt : i < (width f).toNat := by (simp only [List.length_map, decide_eq_true_eq, decide_eq_false_iff_not, Int.toNat_natCast] at * <;> omega)
    refine ⟨hlt, ⟨?_, rfl, rfl, rfl, trivial⟩, ⟨rfl, row _ ?_, trivial⟩, rfl, rfl, rfl⟩
    · exact congrArg (fun n => AVal.imm (i64 n)) (i64_small hlt (by omega))
    · simp only [decide_eq_false_iff_not] at h2
      rw [bitF, if_neg h2]; rfl
  · have : i = (width f).toNat := by (simp only [List.length_map, decide_eq_true_eq, decide_eq_false_iff_not, Int.toNat_natCast] at * <;> omega)
    subst this
    exact ⟨rfl, by omega, ⟨rfl, trivial⟩, ⟨rfl, trivial⟩, rfl, rfl, rfl⟩
def bitsL (f : Int) (a : Addr) : List Int := (List.range (width f).toNat).map (bitF f a)
theorem c86 (f : Int) (a : Addr) : ASpec prog 86 [u8 f, encA a] (slE 1 i64 (bitsL f a)) := by
  refine ASpec.treeW Proofs.Try.f86 (T86 f a) (by kernel_rfl) (by kernel_rfl) (t86 f a) ?_
  refine ⟨⟨ILeL.refl _, c73 _⟩, fun _ => ⟨?_, ⟨?_, fun _ => ⟨_, rfl, ?_⟩⟩⟩⟩
  · refine .nam (τ := I86 f a 0) (.temp 5 50 3 1 (show 7 ≤ 50 by decide) (.sub ?_)) (l86 f a _ ?_)
    all_goals exact ⟨⟨rfl, rfl, rfl, rfl, trivial⟩, ⟨rfl, rfl, trivial⟩, rfl, rfl, rfl⟩
  · exact ⟨by simp, trivial⟩
  · rw [slE, bitsL, List.map_map]; exact .sl (fun h => by cases h) (fun h => h) (.refl _)
/-! prefixes -/
def P72 (p : Pfx) (i : Nat) : Bool := !decide ((bitsL p.fam p.addr).getD (p.len + (i : Int)).toNat 0 = 0)
def I72 (p : Pfx) (i : Nat) : LState := { t := [(5, .imm (i64 (p.len + (i : Int)))), (4, .imm (slE 1 i64 (bitsL p.fam p.addr))), (3, .imm (i64 (width p.fam)))], s := [], m := 45, n := 0 }
def R72 (p : Pfx) (i : Nat) : LState := { t := [(2, .imm (i64 8))], s := [], m := 45, n := 0 }
def E72 (p : Pfx) : LState := { t := [], s := [], m := 45, n := 0 }
def fin72 : Exit → Fin
  | .normal => ⟨[], [5, 4, 3], []⟩
  | .ret => ⟨[], [2], []⟩
  | _ => ⟨[], [], []⟩
def L72 (p : Pfx) : Tree := Lfirst (P72 p) ((width p.fam - p.len).toNat) 0 (R72 p) (E72 p)
def T72r (p : Pfx) (i : Nat) : Tell :=
  Tell.mk (fun x x_1 => false) (fun x x_1 => Orc.no) (fun x => Tree.fail (1000003 : Nat) (0 : Nat)) (fun x => (0 : Nat)) (fun x => ([], []))
  (oget [((3 : Nat), (10 : Nat), (2 : Nat), Orc.elem (i64 (List.getD (bitsL p.fam p.addr) (Int.toNat (p.len + (↑i : Int))) default)))]) fun x x_1 => Tree.fail (1000003 : Nat) (0 : Nat)
theorem t72r (p : Pfx) (i : Nat) : levL prog Proofs.Try.f72 8 (I72 p i) (T72r p i) fin72 =
  Tree.br (decide (p.len + (↑i : Int) < width p.fam))
  (Tree.need ((0 : Int) ≤ p.len + (↑i : Int) ∧ (List.map i64 (bitsL p.fam p.addr))[Int.toNat (p.len + (↑i : Int))]? = some (i64 (List.getD (bitsL p.fam p.addr) (Int.toNat (p.len + (↑i : Int))) (0 : Int))))
  (Tree.br (!decide (List.getD (bitsL p.fam p.addr) (Int.toNat (p.len + (↑i : Int))) (0 : Int) = (0 : Int))) (Tree.done Exit.ret (LState.mk [((2 : Nat), AVal.imm (IVal.v (Value.int IntKind.i64 (8 : Int))))] [] (45 : Nat) (9 : Nat) []))
  (Tree.done Exit.normal
  (LState.mk
  [((5 : Nat), AVal.imm (IVal.v (Value.int IntKind.i64 (IntKind.wrap IntKind.i64 (p.len + (↑i : Int) + (1 : Int)))))), ((4 : Nat), AVal.imm (slE (1 : Nat) i64 (bitsL p.fam p.addr))), ((3 : Nat), AVal.imm (i64 (width p.fam)))] []
  (45 : Nat) (11 : Nat) []))))
  (Tree.done (Exit.exit (0 : Nat)) (LState.mk [] [] (45 : Nat) (3 : Nat) [])) := by kernel_rfl
def B72 (p : Pfx) : Tell := { Lp := fun _ => L72 p, lv := fun _ => ([5, 4, 3], []) }
def T72 (p : Pfx) : Tell :=
  Tell.mk (fun x x_1 => false) (fun x x_1 => Orc.no) (fun x => L72 p) (fun x => (0 : Nat)) (fun x => ([(5 : Nat), (4 : Nat), (3 : Nat)], []))
  (oget
  [((2 : Nat), (1 : Nat), (2 : Nat), Orc.call [u8 p.fam] (i64 (width p.fam))), ((8 : Nat), (4 : Nat), (4 : Nat), Orc.call [u8 p.fam, encA p.addr] (bo (ckA p.fam p.addr))),
  ((25 : Nat), (6 : Nat), (4 : Nat), Orc.call [u8 p.fam, encA p.addr] (slE (1 : Nat) i64 (bitsL p.fam p.addr)))])
  fun x x_1 => L72 p
theorem t72 (p : Pfx) : levF prog Proofs.Try.f72 [encP p] (T72 p) =
  Tree.need (ILeL [u8 p.fam] [u8 p.fam] ∧ ASpec prog (73 : Nat) [u8 p.fam] (i64 (width p.fam)))
  (Tree.br (decide (width p.fam = (0 : Int))) (Tree.done Exit.ret (lret (IVal.v (Value.int IntKind.i64 (2 : Int)))))
  (Tree.need (ILeL [u8 p.fam, IVal.agg [u64 p.addr.hi, u64 p.addr.lo]] [u8 p.fam, encA p.addr] ∧ ASpec prog (85 : Nat) [u8 p.fam, encA p.addr] (bo (ckA p.fam p.addr)))
  (Tree.br (!ckA p.fam p.addr) (Tree.done Exit.ret (lret (IVal.v (Value.int IntKind.i64 (8 : Int)))))
  (Tree.br (decide (p.len < (0 : Int))) (Tree.done Exit.ret (lret (IVal.v (Value.int IntKind.i64 (8 : Int)))))
  (Tree.br (decide (width p.fam < p.len)) (Tree.done Exit.ret (lret (IVal.v (Value.int IntKind.i64 (8 : Int)))))
  (Tree.need (ILeL [u8 p.fam, IVal.agg [u64 p.addr.hi, u64 p.addr.lo]] [u8 p.fam, encA p.addr] ∧ ASpec prog (86 : Nat) [u8 p.fam, encA p.addr] (slE (1 : Nat) i64 (bitsL p.fam p.addr)))
  (Tree.loop (8 : Nat) (LState.mk [((5 : Nat), AVal.imm (i64 p.len)), ((4 : Nat), AVal.imm (slE (1 : Nat) i64 (bitsL p.fam p.addr))), ((3 : Nat), AVal.imm (i64 (width p.fam)))] [] (45 : Nat) (34 : Nat) [])
  (Tree.br (anyI (P72 p) (0 : Nat) (Int.toNat (width p.fam - p.len))) (Tree.done Exit.ret (R72 p (firstI (P72 p) (0 : Nat) (Int.toNat (width p.fam - p.len))))) (Tree.done (Exit.exit (0 : Nat)) (E72 p)))
  (Tree.br (anyI (P72 p) (0 : Nat) (Int.toNat (width p.fam - p.len))) (Tree.done Exit.ret (lret (IVal.v (Value.int IntKind.i64 (8 : Int))))) (Tree.done Exit.ret (lret (IVal.v (Value.int IntKind.i64 (0 : Int))))))))))))) := by kernel_rfl
theorem l72 (p : Pfx) (h0 : 0 ≤ p.len) (hw : p.len ≤ width p.fam) (σ : LState) (h : LSub σ (I72 p 0)) : LoopOk prog [] (bodyOf Proofs.Try.f72) 8 σ (L72 p) := by
  refine LoopOk.first (P72 p) ((width p.fam - p.len).toNat) 0 (I72 p) (R72 p) (E72 p) (T72r p) fin72 (by kernel_rfl) h fun i hi hz => ?_
  rw [t72r]
  refine ⟨fun h1 => ⟨elem_need ?_, fun _ => ⟨fun h2 => ?_, fun h2 => ?_⟩⟩, fun h1 => ?_⟩
  · have := width_le p.fam
    have e : (bitsL p.fam p.addr).length = (width p.fam).toNat := by simp [bitsL]
    exact ⟨by omega, by rw [e]; (simp only [List.length_map, decide_eq_true_eq, decide_eq_false_iff_not, Int.toNat_natCast] at * <;> omega), rfl⟩
  · exact ⟨by (simp only [List.length_map, decide_eq_true_eq, decide_eq_false_iff_not, Int.toNat_natCast] at * <;> omega), h2, by simp [R72, i64, LSub, tsub, ssub, tl, sl, linT, linS, ainB, ainBL]⟩
  · have := width_le p.fam
    have e : IntKind.i64.wrap (p.len + (i : Int) + 1) = p.len + ((i + 1 : Nat) : Int) := by rw [IntWalk.i64_in _ (by (simp only [List.length_map, decide_eq_true_eq, decide_eq_false_iff_not, Int.toNat_natCast] at * <;> omega))]; omega
    refine ⟨by (simp only [List.length_map, decide_eq_true_eq, decide_eq_false_iff_not, Int.toNat_natCast] at * <;> omega), h2, ⟨?_, rfl, rfl, trivial⟩, trivial, rfl, rfl, rfl⟩
    exact congrArg (fun n => AVal.imm (i64 n)) e
  · exact ⟨rfl, by (simp only [List.length_map, decide_eq_true_eq, decide_eq_false_iff_not, Int.toNat_natCast] at * <;> omega), by simp [E72, LSub, tsub, ssub, tl, sl, linT, linS, ainB, ainBL]⟩
def ckP' (p : Pfx) : Int :=
  if width p.fam = 0 then 2 else if (ckA p.fam p.addr && decide (0 ≤ p.len) && decide (p.len ≤ width p.fam) && !anyI (P72 p) 0 (width p.fam - p.len).toNat) = true then 0 else 8
theorem c72 (p : Pfx) : ASpec prog 72 [encP p] (i64 (ckP' p)) := by
  refine ASpec.treeW Proofs.Try.f72 (T72 p) (by kernel_rfl) (by kernel_rfl) (t72 p) ?_
  refine ⟨⟨ILeL.refl _, c73 _⟩, fun _ => ⟨fun h1 => ⟨_, rfl, ?_⟩, fun h1 => ⟨⟨ILeL.refl _, c85 _ _⟩, fun _ => ⟨fun h2 => ⟨_, rfl, ?_⟩, fun h2 => ⟨fun h3 => ⟨_, rfl, ?_⟩, fun h3 => ⟨fun h4 => ⟨_, rfl, ?_⟩, fun h4 => ⟨⟨ILeL.refl _, c86 _ _⟩, fun _ => ⟨?_, ⟨fun h5 => ⟨_, rfl, ?_⟩, fun h5 => ⟨_, rfl, ?_⟩⟩⟩⟩⟩⟩⟩⟩⟩⟩
  all_goals simp only [decide_eq_true_eq, decide_eq_false_iff_not, Bool.not_eq_true', Bool.not_eq_false'] at *
  · exact ile_i64 (by simp [ckP', *])
  · exact ile_i64 (by simp [ckP', *])
  · exact ile_i64 (by simp [ckP', *]; omega)
  · exact ile_i64 (by simp [ckP', *]; omega)
  · exact l72 p (by omega) (by omega) _ ⟨⟨by simp [tl, i64], rfl, rfl, trivial⟩, trivial, rfl, rfl, rfl⟩
  · exact ile_i64 (by simp [ckP', *])
  · exact ile_i64 (by
      have g3 : 0 ≤ p.len := by omega
      have g4 : p.len ≤ width p.fam := by omega
      simp [ckP', *])
end Gp
namespace Gp
def P75 (a : Attest) (i : Nat) : Bool := decide (a.provs.getD i 0 = a.cust) || (decide (0 < i) && decide (a.provs.getD i 0 ≤ a.provs.getD (i - 1) 0))
def I75 (a : Attest) (i : Nat) : LState := { t := [(4, .imm (i64 i)), (3, .imm (i64 a.provs.length)), (1, .ptr 0 0)], s := [(0, .box 123 (.imm (encT a)))], m := 59, n := 1 }
def R75 (a : Attest) (i : Nat) : LState := { t := [(2, .imm (i64 8))], s := [], m := 59, n := 1 }
def E75 (a : Attest) : LState := { t := [], s := [], m := 59, n := 1 }
def fin75 : Exit → Fin
  | .normal => ⟨[], [4, 3, 1], [0]⟩
  | .ret => ⟨[], [2], []⟩
  | _ => ⟨[], [], []⟩
def L75 (a : Attest) : Tree := Lfirst (P75 a) a.provs.length 0 (R75 a) (E75 a)
def T75r (a : Attest) (i : Nat) : Tell :=
  Tell.mk (fun x x_1 => false) (fun x x_1 => Orc.no) (fun x => Tree.fail (1000003 : Nat) (0 : Nat)) (fun x => (0 : Nat)) (fun x => ([], []))
  (oget
  [((4 : Nat), (9 : Nat), (3 : Nat), Orc.elem (u32 (List.getD a.provs i default))), ((4 : Nat), (9 : Nat), (15 : Nat), Orc.elem (u32 (List.getD a.provs i default))),
  ((4 : Nat), (9 : Nat), (21 : Nat), Orc.elem (u32 (List.getD a.provs (Int.toNat (IntKind.wrap IntKind.i64 ((↑i : Int) - (1 : Int)))) default)))])
  fun x x_1 => Tree.fail (1000003 : Nat) (0 : Nat)
theorem t75r (a : Attest) (i : Nat) : levL prog Proofs.Try.f75 7 (I75 a i) (T75r a i) fin75 =
  Tree.br (decide ((↑i : Int) < (↑(List.length a.provs) : Int)))
  (Tree.need ((0 : Int) ≤ (↑i : Int) ∧ (List.map u32 a.provs)[i]? = some (u32 (List.getD a.provs i (0 : Int))))
  (Tree.br (decide (List.getD a.provs i (0 : Int) = a.cust)) (Tree.done Exit.ret (LState.mk [((2 : Nat), AVal.imm (IVal.v (Value.int IntKind.i64 (8 : Int))))] [] (59 : Nat) (31 : Nat) []))
  (Tree.br (decide ((0 : Int) < (↑i : Int)))
  (Tree.need ((0 : Int) ≤ (↑i : Int) ∧ (List.map u32 a.provs)[i]? = some (u32 (List.getD a.provs i (0 : Int))))
  (Tree.need
  ((0 : Int) ≤ IntKind.wrap IntKind.i64 ((↑i : Int) - (1 : Int)) ∧
  (List.map u32 a.provs)[Int.toNat (IntKind.wrap IntKind.i64 ((↑i : Int) - (1 : Int)))]? = some (u32 (List.getD a.provs (Int.toNat (IntKind.wrap IntKind.i64 ((↑i : Int) - (1 : Int)))) (0 : Int))))
  (Tree.br (decide (List.getD a.provs i (0 : Int) ≤ List.getD a.provs (Int.toNat (IntKind.wrap IntKind.i64 ((↑i : Int) - (1 : Int)))) (0 : Int)))
  (Tree.done Exit.ret (LState.mk [((2 : Nat), AVal.imm (IVal.v (Value.int IntKind.i64 (8 : Int))))] [] (59 : Nat) (31 : Nat) []))
  (Tree.done Exit.normal
  (LState.mk [((4 : Nat), AVal.imm (IVal.v (Value.int IntKind.i64 (IntKind.wrap IntKind.i64 ((↑i : Int) + (1 : Int)))))), ((3 : Nat), AVal.imm (i64 (↑(List.length a.provs) : Int))), ((1 : Nat), AVal.ptr (0 : Nat) (0 : Nat))]
  [((0 : Nat), Entry.box (123 : Nat) (AVal.imm (encT a)))] (59 : Nat) (33 : Nat) [])))))
  (Tree.done Exit.normal
  (LState.mk [((4 : Nat), AVal.imm (IVal.v (Value.int IntKind.i64 (IntKind.wrap IntKind.i64 ((↑i : Int) + (1 : Int)))))), ((3 : Nat), AVal.imm (i64 (↑(List.length a.provs) : Int))), ((1 : Nat), AVal.ptr (0 : Nat) (0 : Nat))]
  [((0 : Nat), Entry.box (123 : Nat) (AVal.imm (encT a)))] (59 : Nat) (33 : Nat) [])))))
  (Tree.done (Exit.exit (0 : Nat)) (LState.mk [] [] (59 : Nat) (4 : Nat) [])) := by kernel_rfl
def B75 (a : Attest) : Tell := { Lp := fun _ => L75 a, lv := fun _ => ([4, 3, 1], [0]) }
def T75 (a : Attest) : Tell :=
  Tell.mk (fun x x_1 => false) (fun x x_1 => Orc.no) (fun x => L75 a) (fun x => (0 : Nat)) (fun x => ([(4 : Nat), (3 : Nat), (1 : Nat)], [(0 : Nat)]))
  (oget [((8 : Nat), (4 : Nat), (13 : Nat), Orc.elem (u32 (List.getD a.provs (0 : Nat) default)))]) fun x x_1 => L75 a
theorem t75 (a : Attest) : levF prog Proofs.Try.f75 [encT a] (T75 a) =
  Tree.br (decide ((50 : Int) < (↑(List.length (List.map u32 a.provs)) : Int))) (Tree.done Exit.ret (lret (IVal.v (Value.int IntKind.i64 (4 : Int)))))
  (Tree.br (decide ((↑(List.length (List.map u32 a.provs)) : Int) = (0 : Int))) (Tree.done Exit.ret (lret (IVal.v (Value.int IntKind.i64 (8 : Int)))))
  (Tree.br (decide (a.cust = (0 : Int))) (Tree.done Exit.ret (lret (IVal.v (Value.int IntKind.i64 (8 : Int)))))
  (Tree.br (decide ((1 : Int) < (↑(List.length (List.map u32 a.provs)) : Int)))
  (Tree.need ((0 : Int) ≤ (0 : Int) ∧ (List.map u32 a.provs)[(0 : Nat)]? = some (u32 (List.getD a.provs (0 : Nat) (0 : Int))))
  (Tree.br (decide (List.getD a.provs (0 : Nat) (0 : Int) = (0 : Int))) (Tree.done Exit.ret (lret (IVal.v (Value.int IntKind.i64 (8 : Int)))))
  (Tree.loop (7 : Nat)
  (LState.mk [((4 : Nat), AVal.imm (IVal.v (Value.int IntKind.i64 (0 : Int)))), ((3 : Nat), AVal.imm (IVal.v (Value.int IntKind.i64 (↑(List.length (List.map u32 a.provs)) : Int)))), ((1 : Nat), AVal.ptr (0 : Nat) (0 : Nat))]
  [((0 : Nat), Entry.box (123 : Nat) (AVal.imm (encT a)))] (59 : Nat) (27 : Nat) [])
  (Tree.br (anyI (P75 a) (0 : Nat) (List.length a.provs)) (Tree.done Exit.ret (R75 a (firstI (P75 a) (0 : Nat) (List.length a.provs)))) (Tree.done (Exit.exit (0 : Nat)) (E75 a)))
  (Tree.br (anyI (P75 a) (0 : Nat) (List.length a.provs)) (Tree.done Exit.ret (lret (IVal.v (Value.int IntKind.i64 (8 : Int))))) (Tree.done Exit.ret (lret (IVal.v (Value.int IntKind.i64 (0 : Int)))))))))
  (Tree.loop (7 : Nat)
  (LState.mk [((4 : Nat), AVal.imm (IVal.v (Value.int IntKind.i64 (0 : Int)))), ((3 : Nat), AVal.imm (IVal.v (Value.int IntKind.i64 (↑(List.length (List.map u32 a.provs)) : Int)))), ((1 : Nat), AVal.ptr (0 : Nat) (0 : Nat))]
  [((0 : Nat), Entry.box (123 : Nat) (AVal.imm (encT a)))] (59 : Nat) (27 : Nat) [])
  (Tree.br (anyI (P75 a) (0 : Nat) (List.length a.provs)) (Tree.done Exit.ret (R75 a (firstI (P75 a) (0 : Nat) (List.length a.provs)))) (Tree.done (Exit.exit (0 : Nat)) (E75 a)))
  (Tree.br (anyI (P75 a) (0 : Nat) (List.length a.provs)) (Tree.done Exit.ret (lret (IVal.v (Value.int IntKind.i64 (8 : Int))))) (Tree.done Exit.ret (lret (IVal.v (Value.int IntKind.i64 (0 : Int)))))))))) := by kernel_rfl
theorem l75 (a : Attest) (hl : a.provs.length ≤ 2 ^ 62) (σ : LState) (h : LSub σ (I75 a 0)) : LoopOk prog [] (bodyOf Proofs.Try.f75) 7 σ (L75 a) := by
  refine LoopOk.first (P75 a) a.provs.length 0 (I75 a) (R75 a) (E75 a) (T75r a) fin75 (by kernel_rfl) h fun i hi hz => ?_
  rw [t75r]
  refine ⟨fun h1 => ⟨elem_need ?_, fun _ => ⟨fun h2 => ?_, fun h2 => ⟨fun h3 => ⟨elem_need ?_, fun _ => ⟨elem_need ?_, fun _ => ⟨fun h4 => ?_, fun h4 => ?_⟩⟩⟩, fun h3 => ?_⟩⟩⟩, fun h1 => ?_⟩
  · (refine ⟨by omega, ?_, ?_⟩ <;> (simp only [List.length_map, decide_eq_true_eq, decide_eq_false_iff_not, Int.toNat_natCast] at * <;> omega))
  · exact ⟨by (simp only [List.length_map, decide_eq_true_eq, decide_eq_false_iff_not, Int.toNat_natCast] at * <;> omega), by simp only [P75, h2, Bool.true_or], by simp [R75, i64, LSub, tsub, ssub, tl, sl, linT, linS, ainB, ainBL]⟩
  · (refine ⟨by omega, ?_, ?_⟩ <;> (simp only [List.length_map, decide_eq_true_eq, decide_eq_false_iff_not, Int.toNat_natCast] at * <;> omega))
  · have e : IntKind.i64.wrap ((i : Int) - 1) = ((i - 1 : Nat) : Int) := by rw [IntWalk.i64_in _ (by (simp only [List.length_map, decide_eq_true_eq, decide_eq_false_iff_not, Int.toNat_natCast] at * <;> omega))]; (simp only [List.length_map, decide_eq_true_eq, decide_eq_false_iff_not, Int.toNat_natCast] at * <;> omega)
    exact ⟨by rw [e]; omega, by rw [e]; (simp only [List.length_map, decide_eq_true_eq, decide_eq_false_iff_not, Int.toNat_natCast] at * <;> omega), rfl⟩
  · have e : IntKind.i64.wrap ((i : Int) - 1) = ((i - 1 : Nat) : Int) := by rw [IntWalk.i64_in _ (by (simp only [List.length_map, decide_eq_true_eq, decide_eq_false_iff_not, Int.toNat_natCast] at * <;> omega))]; (simp only [List.length_map, decide_eq_true_eq, decide_eq_false_iff_not, Int.toNat_natCast] at * <;> omega)
    rw [e, Int.toNat_natCast] at h4
    have h3' : 0 < i := by (simp only [List.length_map, decide_eq_true_eq, decide_eq_false_iff_not, Int.toNat_natCast] at * <;> omega)
    exact ⟨by (simp only [List.length_map, decide_eq_true_eq, decide_eq_false_iff_not, Int.toNat_natCast] at * <;> omega), by simp only [P75, h2, h4, decide_eq_true h3', Bool.and_self, Bool.or_true], by simp [R75, i64, LSub, tsub, ssub, tl, sl, linT, linS, ainB, ainBL]⟩
  · have e : IntKind.i64.wrap ((i : Int) - 1) = ((i - 1 : Nat) : Int) := by rw [IntWalk.i64_in _ (by (simp only [List.length_map, decide_eq_true_eq, decide_eq_false_iff_not, Int.toNat_natCast] at * <;> omega))]; (simp only [List.length_map, decide_eq_true_eq, decide_eq_false_iff_not, Int.toNat_natCast] at * <;> omega)
    rw [e, Int.toNat_natCast] at h4
    exact ⟨by (simp only [List.length_map, decide_eq_true_eq, decide_eq_false_iff_not, Int.toNat_natCast] at * <;> omega), by simp only [P75, h2, h4, Bool.and_false, Bool.or_self], by simp [I75, i64, i64_small (n := i) (by (simp only [List.length_map, decide_eq_true_eq, decide_eq_false_iff_not, Int.toNat_natCast] at * <;> omega)) hl, LSub, tsub, ssub, tl, sl, linT, linS, ainB, ainBL]⟩
  · have h3' : ¬ 0 < i := by (simp only [List.length_map, decide_eq_true_eq, decide_eq_false_iff_not, Int.toNat_natCast] at * <;> omega)
    exact ⟨by (simp only [List.length_map, decide_eq_true_eq, decide_eq_false_iff_not, Int.toNat_natCast] at * <;> omega), by simp only [P75, h2, decide_eq_false h3', Bool.false_and, Bool.or_self], by simp [I75, i64, i64_small (n := i) (by (simp only [List.length_map, decide_eq_true_eq, decide_eq_false_iff_not, Int.toNat_natCast] at * <;> omega)) hl, LSub, tsub, ssub, tl, sl, linT, linS, ainB, ainBL]⟩
  · exact ⟨rfl, by (simp only [List.length_map, decide_eq_true_eq, decide_eq_false_iff_not, Int.toNat_natCast] at * <;> omega), by simp [E75, LSub, tsub, ssub, tl, sl, linT, linS, ainB, ainBL]⟩
def ckPr' (a : Attest) : Int :=
  if 50 < a.provs.length then 4 else if a.provs.length = 0 ∨ a.cust = 0 ∨ (1 < a.provs.length ∧ a.provs.getD 0 0 = 0) ∨ anyI (P75 a) 0 a.provs.length = true then 8 else 0
theorem c75 (a : Attest) : ASpec prog 75 [encT a] (i64 (ckPr' a)) := by
  refine ASpec.treeW Proofs.Try.f75 (T75 a) (by kernel_rfl) (by kernel_rfl) (t75 a) ?_
  refine ⟨fun h1 => ⟨_, rfl, ?_⟩, fun h1 => ⟨fun h2 => ⟨_, rfl, ?_⟩, fun h2 => ⟨fun h3 => ⟨_, rfl, ?_⟩, fun h3 => ⟨fun h4 => ⟨elem_need ?_, fun _ => ⟨fun h5 => ⟨_, rfl, ?_⟩, fun h5 => ⟨?_, ⟨fun h6 => ⟨_, rfl, ?_⟩, fun h6 => ⟨_, rfl, ?_⟩⟩⟩⟩⟩, fun h4 => ⟨?_, ⟨fun h5 => ⟨_, rfl, ?_⟩, fun h5 => ⟨_, rfl, ?_⟩⟩⟩⟩⟩⟩⟩
  all_goals simp only [decide_eq_true_eq, decide_eq_false_iff_not, List.length_map] at *
  · exact ile_i64 (by unfold ckPr'; rw [if_pos (by omega)])
  · exact ile_i64 (by unfold ckPr'; rw [if_neg (by omega), if_pos (.inl (by omega))])
  · exact ile_i64 (by unfold ckPr'; rw [if_neg (by omega), if_pos (.inr (.inl h3))])
  · exact ⟨by omega, by simp; omega, rfl⟩
  · exact ile_i64 (by unfold ckPr'; rw [if_neg (by omega), if_pos (.inr (.inr (.inl ⟨by omega, h5⟩)))])
  · exact l75 a (by omega) _ ⟨⟨rfl, by simp [tl, i64], rfl, trivial⟩, ⟨rfl, trivial⟩, rfl, rfl, rfl⟩
  · exact ile_i64 (by unfold ckPr'; rw [if_neg (by omega), if_pos (.inr (.inr (.inr h6)))])
  · exact ile_i64 (by
      unfold ckPr'; rw [if_neg (by omega), if_neg]
      rintro (h | h | h | h)
      · omega
      · exact h3 h
      · exact h5 h.2
      · rw [h6] at h; cases h)
  · exact l75 a (by omega) _ ⟨⟨rfl, by simp [tl, i64], rfl, trivial⟩, ⟨rfl, trivial⟩, rfl, rfl, rfl⟩
  · exact ile_i64 (by unfold ckPr'; rw [if_neg (by omega), if_pos (.inr (.inr (.inr h5)))])
  · exact ile_i64 (by
      unfold ckPr'; rw [if_neg (by omega), if_neg]
      rintro (h | h | h | h)
      · omega
      · exact h3 h
      · omega
      · rw [h5] at h; cases h)
def T57 (a : Attest) : Tell :=
  Tell.mk (fun x x_1 => false) (fun x x_1 => Orc.no) (fun x => Tree.fail (1000003 : Nat) (0 : Nat)) (fun x => (0 : Nat)) (fun x => ([], [])) (oget [((2 : Nat), (1 : Nat), (5 : Nat), Orc.call [encT a] (i64 (ckPr' a)))]) fun x x_1 =>
  Tree.fail (1000003 : Nat) (0 : Nat)
theorem t57 (a : Attest) : levF prog Proofs.Try.f57 [encT a] (T57 a) =
  Tree.need (ILeL [IVal.agg [u32 a.cust, lu32 a.provs]] [encT a] ∧ ASpec prog (75 : Nat) [encT a] (i64 (ckPr' a))) (Tree.done Exit.ret (lret (IVal.v (Value.bool (decide (ckPr' a = (0 : Int))))))) := by kernel_rfl
theorem c57 (a : Attest) : ASpec prog 57 [encT a] (bo (decide (ckPr' a = 0))) := by
  refine ASpec.treeW Proofs.Try.f57 (T57 a) (by kernel_rfl) (by kernel_rfl) (t57 a) ?_
  refine ⟨⟨ILeL.refl _, c75 _⟩, fun _ => ⟨_, rfl, ?_⟩⟩
  exact .refl _
def goodO' (o : Origin) : Bool := decide (ckP' o.pfx = 0) && decide (o.pfx.len ≤ o.max) && decide (o.max ≤ width o.pfx.fam)
def T55 (o : Origin) : Tell :=
  Tell.mk (fun x x_1 => false) (fun x x_1 => Orc.no) (fun x => Tree.fail (1000003 : Nat) (0 : Nat)) (fun x => (0 : Nat)) (fun x => ([], []))
  (oget [((2 : Nat), (1 : Nat), (2 : Nat), Orc.call [encP o.pfx] (i64 (ckP' o.pfx))), ((2 : Nat), (1 : Nat), (18 : Nat), Orc.call [u8 o.pfx.fam] (i64 (width o.pfx.fam)))]) fun x x_1 => Tree.fail (1000003 : Nat) (0 : Nat)
theorem t55 (o : Origin) : levF prog Proofs.Try.f55 [encO o] (T55 o) =
  Tree.need (ILeL [IVal.agg [u8 o.pfx.fam, u64 o.pfx.addr.hi, u64 o.pfx.addr.lo, i64 o.pfx.len]] [encP o.pfx] ∧ ASpec prog (72 : Nat) [encP o.pfx] (i64 (ckP' o.pfx)))
  (Tree.br (decide (ckP' o.pfx = (0 : Int)))
  (Tree.br (decide (o.pfx.len ≤ o.max)) (Tree.need (ILeL [u8 o.pfx.fam] [u8 o.pfx.fam] ∧ ASpec prog (73 : Nat) [u8 o.pfx.fam] (i64 (width o.pfx.fam))) (Tree.done Exit.ret (lret (IVal.v (Value.bool (decide (o.max ≤ width o.pfx.fam)))))))
  (Tree.done Exit.ret (lret (IVal.v (Value.bool false)))))
  (Tree.done Exit.ret (lret (IVal.v (Value.bool false))))) := by kernel_rfl
theorem c55 (o : Origin) : ASpec prog 55 [encO o] (bo (goodO' o)) := by
  refine ASpec.treeW Proofs.Try.f55 (T55 o) (by kernel_rfl) (by kernel_rfl) (t55 o) ?_
  refine ⟨⟨ILeL.refl _, c72 _⟩, fun _ => ⟨fun h1 => ⟨fun h2 => ⟨⟨ILeL.refl _, c73 _⟩, fun _ => ⟨_, rfl, ?_⟩⟩, fun h2 => ⟨_, rfl, ?_⟩⟩, fun h1 => ⟨_, rfl, ?_⟩⟩⟩
  all_goals exact ile_bo (by simp [goodO', *])
end Gp
namespace Gp
/-! the reference's check of a payload -/
def P44a (p : Payload) (i : Nat) : Bool := decide (50 < (((p.paths.getD i default).provs.length : Nat) : Int))
def I44a (p : Payload) (i : Nat) : LState := { t := [(3, .imm (i64 i)), (1, .ptr 0 0)], s := [(0, .box 28 (.imm (encL p)))], m := 144, n := 1 }
def R44a (p : Payload) (i : Nat) : LState := { t := [(2, .imm (i64 4))], s := [], m := 144, n := 1 }
def E44a (p : Payload) : LState := { t := [(1, .ptr 0 0)], s := [(0, .box 28 (.imm (encL p)))], m := 144, n := 1 }
def fin44a : Exit → Fin
  | .normal => ⟨[], [3, 1], [0]⟩
  | .ret => ⟨[], [2], []⟩
  | _ => ⟨[], [1], [0]⟩
def L44a (p : Payload) : Tree := Lfirst (P44a p) p.paths.length 0 (R44a p) (E44a p)
def T44ar (p : Payload) (i : Nat) : Tell :=
  Tell.mk (fun x x_1 => false) (fun x x_1 => Orc.no) (fun x => Tree.fail (1000003 : Nat) (0 : Nat)) (fun x => (0 : Nat)) (fun x => ([], [])) (oget [((6 : Nat), (6 : Nat), (3 : Nat), Orc.elem (encT (List.getD p.paths i default)))])
  fun x x_1 => Tree.fail (1000003 : Nat) (0 : Nat)
theorem t44ar (p : Payload) (i : Nat) : levL prog Proofs.Try.f44 4 (I44a p i) (T44ar p i) fin44a =
  Tree.br (decide ((↑i : Int) < (↑(List.length (List.map encT p.paths)) : Int)))
  (Tree.need ((0 : Int) ≤ (↑i : Int) ∧ (List.map encT p.paths)[i]? = some (encT (List.getD p.paths i default)))
  (Tree.br (decide ((50 : Int) < (↑(List.length (List.map u32 (List.getD p.paths i default).provs)) : Int))) (Tree.done Exit.ret (LState.mk [((2 : Nat), AVal.imm (IVal.v (Value.int IntKind.i64 (4 : Int))))] [] (144 : Nat) (15 : Nat) []))
  (Tree.done Exit.normal
  (LState.mk [((3 : Nat), AVal.imm (IVal.v (Value.int IntKind.i64 (IntKind.wrap IntKind.i64 ((↑i : Int) + (1 : Int)))))), ((1 : Nat), AVal.ptr (0 : Nat) (0 : Nat))] [((0 : Nat), Entry.box (28 : Nat) (AVal.imm (encL p)))] (144 : Nat)
  (17 : Nat) []))))
  (Tree.done (Exit.exit (0 : Nat)) (LState.mk [((1 : Nat), AVal.ptr (0 : Nat) (0 : Nat))] [((0 : Nat), Entry.box (28 : Nat) (AVal.imm (encL p)))] (144 : Nat) (6 : Nat) [])) := by kernel_rfl
theorem l44a (p : Payload) (hl : p.paths.length ≤ 2 ^ 62) (σ : LState) (h : LSub σ (I44a p 0)) : LoopOk prog [] (bodyOf Proofs.Try.f44) 4 σ (L44a p) := by
  refine LoopOk.first (P44a p) p.paths.length 0 (I44a p) (R44a p) (E44a p) (T44ar p) fin44a (by kernel_rfl) h fun i hi hz => ?_
  rw [t44ar]
  refine ⟨fun h1 => ⟨elem_need ?_, fun _ => ⟨fun h2 => ?_, fun h2 => ?_⟩⟩, fun h1 => ?_⟩
  · (refine ⟨by omega, ?_, ?_⟩ <;> (simp only [List.length_map, decide_eq_true_eq, decide_eq_false_iff_not, Int.toNat_natCast] at * <;> omega))
  · exact ⟨by (simp only [List.length_map, decide_eq_true_eq, decide_eq_false_iff_not, Int.toNat_natCast] at * <;> omega), by simpa [P44a] using h2, by simp [R44a, i64, LSub, tsub, ssub, tl, sl, linT, linS, ainB, ainBL]⟩
  · exact ⟨by (simp only [List.length_map, decide_eq_true_eq, decide_eq_false_iff_not, Int.toNat_natCast] at * <;> omega), by simpa [P44a] using h2, by simp [I44a, i64, i64_small (n := i) (by (simp only [List.length_map, decide_eq_true_eq, decide_eq_false_iff_not, Int.toNat_natCast] at * <;> omega)) hl, LSub, tsub, ssub, tl, sl, linT, linS, ainB, ainBL]⟩
  · exact ⟨rfl, by (simp only [List.length_map, decide_eq_true_eq, decide_eq_false_iff_not, Int.toNat_natCast] at * <;> omega), by simp [E44a, LSub, tsub, ssub, tl, sl, linT, linS, ainB, ainBL]⟩
def badAt {α : Type} [Inhabited α] (good : α → Bool) (bef : α → α → Bool) (l : List α) (i : Nat) : Bool := !good (l.getD i default) || (decide (0 < i) && !bef (l.getD (i - 1) default) (l.getD i default))
def P44b (p : Payload) (i : Nat) : Bool := badAt goodO' befO p.origins i
def I44b (p : Payload) (i : Nat) : LState := { t := [(4, .imm (i64 i)), (1, .ptr 0 0)], s := [(0, .box 28 (.imm (encL p)))], m := 144, n := 1 }
def R44b (p : Payload) (i : Nat) : LState := { t := [(2, .imm (i64 8))], s := [], m := 144, n := 1 }
def E44b (p : Payload) : LState := { t := [(1, .ptr 0 0)], s := [(0, .box 28 (.imm (encL p)))], m := 144, n := 1 }
def fin44b : Exit → Fin
  | .normal => ⟨[], [4, 1], [0]⟩
  | .ret => ⟨[], [2], []⟩
  | _ => ⟨[], [1], [0]⟩
def L44b (p : Payload) : Tree := Lfirst (P44b p) p.origins.length 2 (R44b p) (E44b p)
def T44br (p : Payload) (i : Nat) : Tell :=
  Tell.mk (fun x x_1 => false) (fun x x_1 => Orc.no) (fun x => Tree.fail (1000003 : Nat) (0 : Nat)) (fun x => (0 : Nat)) (fun x => ([], []))
  (oget
  [((6 : Nat), (11 : Nat), (3 : Nat), Orc.elem (encO (List.getD p.origins i default))), ((6 : Nat), (11 : Nat), (5 : Nat), Orc.call [encO (List.getD p.origins i default)] (bo (goodO' (List.getD p.origins i default)))),
  ((6 : Nat), (11 : Nat), (15 : Nat), Orc.elem (encO (List.getD p.origins (Int.toNat (IntKind.wrap IntKind.i64 ((↑i : Int) - (1 : Int)))) default))), ((6 : Nat), (11 : Nat), (20 : Nat), Orc.elem (encO (List.getD p.origins i default))),
  ((6 : Nat), (11 : Nat), (22 : Nat),
  Orc.call [encO (List.getD p.origins (Int.toNat (IntKind.wrap IntKind.i64 ((↑i : Int) - (1 : Int)))) default), encO (List.getD p.origins i default)]
  (bo (befO (List.getD p.origins (Int.toNat (IntKind.wrap IntKind.i64 ((↑i : Int) - (1 : Int)))) default) (List.getD p.origins i default))))])
  fun x x_1 => Tree.fail (1000003 : Nat) (0 : Nat)
theorem t44br (p : Payload) (i : Nat) : levL prog Proofs.Try.f44 9 (I44b p i) (T44br p i) fin44b =
  Tree.br (decide ((↑i : Int) < (↑(List.length (List.map encO p.origins)) : Int)))
  (Tree.need ((0 : Int) ≤ (↑i : Int) ∧ (List.map encO p.origins)[i]? = some (encO (List.getD p.origins i default)))
  (Tree.need (ILeL [encO (List.getD p.origins i default)] [encO (List.getD p.origins i default)] ∧ ASpec prog (55 : Nat) [encO (List.getD p.origins i default)] (bo (goodO' (List.getD p.origins i default))))
  (Tree.br (!goodO' (List.getD p.origins i default)) (Tree.done Exit.ret (LState.mk [((2 : Nat), AVal.imm (IVal.v (Value.int IntKind.i64 (8 : Int))))] [] (144 : Nat) (33 : Nat) []))
  (Tree.br (decide ((0 : Int) < (↑i : Int)))
  (Tree.need
  ((0 : Int) ≤ IntKind.wrap IntKind.i64 ((↑i : Int) - (1 : Int)) ∧
  (List.map encO p.origins)[Int.toNat (IntKind.wrap IntKind.i64 ((↑i : Int) - (1 : Int)))]? = some (encO (List.getD p.origins (Int.toNat (IntKind.wrap IntKind.i64 ((↑i : Int) - (1 : Int)))) default)))
  (Tree.need ((0 : Int) ≤ (↑i : Int) ∧ (List.map encO p.origins)[i]? = some (encO (List.getD p.origins i default)))
  (Tree.need
  (ILeL [encO (List.getD p.origins (Int.toNat (IntKind.wrap IntKind.i64 ((↑i : Int) - (1 : Int)))) default), encO (List.getD p.origins i default)]
  [encO (List.getD p.origins (Int.toNat (IntKind.wrap IntKind.i64 ((↑i : Int) - (1 : Int)))) default), encO (List.getD p.origins i default)] ∧
  ASpec prog (56 : Nat) [encO (List.getD p.origins (Int.toNat (IntKind.wrap IntKind.i64 ((↑i : Int) - (1 : Int)))) default), encO (List.getD p.origins i default)]
  (bo (befO (List.getD p.origins (Int.toNat (IntKind.wrap IntKind.i64 ((↑i : Int) - (1 : Int)))) default) (List.getD p.origins i default))))
  (Tree.br (!befO (List.getD p.origins (Int.toNat (IntKind.wrap IntKind.i64 ((↑i : Int) - (1 : Int)))) default) (List.getD p.origins i default))
  (Tree.done Exit.ret (LState.mk [((2 : Nat), AVal.imm (IVal.v (Value.int IntKind.i64 (8 : Int))))] [] (144 : Nat) (33 : Nat) []))
  (Tree.done Exit.normal
  (LState.mk [((4 : Nat), AVal.imm (IVal.v (Value.int IntKind.i64 (IntKind.wrap IntKind.i64 ((↑i : Int) + (1 : Int)))))), ((1 : Nat), AVal.ptr (0 : Nat) (0 : Nat))] [((0 : Nat), Entry.box (28 : Nat) (AVal.imm (encL p)))]
  (144 : Nat) (35 : Nat) []))))))
  (Tree.done Exit.normal
  (LState.mk [((4 : Nat), AVal.imm (IVal.v (Value.int IntKind.i64 (IntKind.wrap IntKind.i64 ((↑i : Int) + (1 : Int)))))), ((1 : Nat), AVal.ptr (0 : Nat) (0 : Nat))] [((0 : Nat), Entry.box (28 : Nat) (AVal.imm (encL p)))]
  (144 : Nat) (35 : Nat) []))))))
  (Tree.done (Exit.exit (2 : Nat)) (LState.mk [((1 : Nat), AVal.ptr (0 : Nat) (0 : Nat))] [((0 : Nat), Entry.box (28 : Nat) (AVal.imm (encL p)))] (144 : Nat) (6 : Nat) [])) := by kernel_rfl
theorem l44b (p : Payload) (hl : p.origins.length ≤ 2 ^ 62) (σ : LState) (h : LSub σ (I44b p 0)) : LoopOk prog [] (bodyOf Proofs.Try.f44) 9 σ (L44b p) := by
  refine LoopOk.first (P44b p) p.origins.length 2 (I44b p) (R44b p) (E44b p) (T44br p) fin44b (by kernel_rfl) h fun i hi hz => ?_
  rw [t44br]
  refine ⟨fun h1 => ⟨elem_need ?_, fun _ => ⟨⟨ILeL.refl _, c55 _⟩, fun _ => ⟨fun h2 => ?_, fun h2 => ⟨fun h3 => ⟨elem_need ?_, fun _ => ⟨elem_need ?_, fun _ => ⟨⟨ILeL.refl _, c56 _ _⟩, fun _ => ⟨fun h4 => ?_, fun h4 => ?_⟩⟩⟩⟩, fun h3 => ?_⟩⟩⟩⟩, fun h1 => ?_⟩
  · (refine ⟨by omega, ?_, ?_⟩ <;> (simp only [List.length_map, decide_eq_true_eq, decide_eq_false_iff_not, Int.toNat_natCast] at * <;> omega))
  · exact ⟨by (simp only [List.length_map, decide_eq_true_eq, decide_eq_false_iff_not, Int.toNat_natCast] at * <;> omega), by simp only [P44b, badAt, h2, Bool.true_or], by simp [R44b, i64, LSub, tsub, ssub, tl, sl, linT, linS, ainB, ainBL]⟩
  · have e : IntKind.i64.wrap ((i : Int) - 1) = ((i - 1 : Nat) : Int) := by rw [IntWalk.i64_in _ (by (simp only [List.length_map, decide_eq_true_eq, decide_eq_false_iff_not, Int.toNat_natCast] at * <;> omega))]; (simp only [List.length_map, decide_eq_true_eq, decide_eq_false_iff_not, Int.toNat_natCast] at * <;> omega)
    exact ⟨by rw [e]; omega, by rw [e]; (simp only [List.length_map, decide_eq_true_eq, decide_eq_false_iff_not, Int.toNat_natCast] at * <;> omega), rfl⟩
  · (refine ⟨by omega, ?_, ?_⟩ <;> (simp only [List.length_map, decide_eq_true_eq, decide_eq_false_iff_not, Int.toNat_natCast] at * <;> omega))
  · have e : IntKind.i64.wrap ((i : Int) - 1) = ((i - 1 : Nat) : Int) := by rw [IntWalk.i64_in _ (by (simp only [List.length_map, decide_eq_true_eq, decide_eq_false_iff_not, Int.toNat_natCast] at * <;> omega))]; (simp only [List.length_map, decide_eq_true_eq, decide_eq_false_iff_not, Int.toNat_natCast] at * <;> omega)
    rw [e, Int.toNat_natCast] at h4
    have h3' : 0 < i := by (simp only [List.length_map, decide_eq_true_eq, decide_eq_false_iff_not, Int.toNat_natCast] at * <;> omega)
    exact ⟨by (simp only [List.length_map, decide_eq_true_eq, decide_eq_false_iff_not, Int.toNat_natCast] at * <;> omega), by simp only [P44b, badAt, h2, h4, decide_eq_true h3', Bool.and_self, Bool.or_true], by simp [R44b, i64, LSub, tsub, ssub, tl, sl, linT, linS, ainB, ainBL]⟩
  · have e : IntKind.i64.wrap ((i : Int) - 1) = ((i - 1 : Nat) : Int) := by rw [IntWalk.i64_in _ (by (simp only [List.length_map, decide_eq_true_eq, decide_eq_false_iff_not, Int.toNat_natCast] at * <;> omega))]; (simp only [List.length_map, decide_eq_true_eq, decide_eq_false_iff_not, Int.toNat_natCast] at * <;> omega)
    rw [e, Int.toNat_natCast] at h4
    exact ⟨by (simp only [List.length_map, decide_eq_true_eq, decide_eq_false_iff_not, Int.toNat_natCast] at * <;> omega), by simp only [P44b, badAt, h2, h4, Bool.and_false, Bool.or_self], by simp [I44b, i64, i64_small (n := i) (by (simp only [List.length_map, decide_eq_true_eq, decide_eq_false_iff_not, Int.toNat_natCast] at * <;> omega)) hl, LSub, tsub, ssub, tl, sl, linT, linS, ainB, ainBL]⟩
  · have h3' : ¬ 0 < i := by (simp only [List.length_map, decide_eq_true_eq, decide_eq_false_iff_not, Int.toNat_natCast] at * <;> omega)
    exact ⟨by (simp only [List.length_map, decide_eq_true_eq, decide_eq_false_iff_not, Int.toNat_natCast] at * <;> omega), by simp only [P44b, badAt, h2, decide_eq_false h3', Bool.false_and, Bool.or_self], by simp [I44b, i64, i64_small (n := i) (by (simp only [List.length_map, decide_eq_true_eq, decide_eq_false_iff_not, Int.toNat_natCast] at * <;> omega)) hl, LSub, tsub, ssub, tl, sl, linT, linS, ainB, ainBL]⟩
  · exact ⟨rfl, by (simp only [List.length_map, decide_eq_true_eq, decide_eq_false_iff_not, Int.toNat_natCast] at * <;> omega), by simp [E44b, LSub, tsub, ssub, tl, sl, linT, linS, ainB, ainBL]⟩
def goodT' (a : Attest) : Bool := decide (ckPr' a = 0)
def befT (a b : Attest) : Bool := decide (a.cust < b.cust)
def P44c (p : Payload) (i : Nat) : Bool := badAt goodT' befT p.paths i
def I44c (p : Payload) (i : Nat) : LState := { t := [(5, .imm (i64 i)), (1, .ptr 0 0)], s := [(0, .box 28 (.imm (encL p)))], m := 144, n := 1 }
def R44c (p : Payload) (i : Nat) : LState := { t := [(2, .imm (i64 8))], s := [], m := 144, n := 1 }
def E44c (p : Payload) : LState := { t := [(1, .ptr 0 0)], s := [(0, .box 28 (.imm (encL p)))], m := 144, n := 1 }
def fin44c : Exit → Fin
  | .normal => ⟨[], [5, 1], [0]⟩
  | .ret => ⟨[], [2], []⟩
  | _ => ⟨[], [1], [0]⟩
def L44c (p : Payload) : Tree := Lfirst (P44c p) p.paths.length 4 (R44c p) (E44c p)
def T44cr (p : Payload) (i : Nat) : Tell :=
  Tell.mk (fun x x_1 => false) (fun x x_1 => Orc.no) (fun x => Tree.fail (1000003 : Nat) (0 : Nat)) (fun x => (0 : Nat)) (fun x => ([], []))
  (oget
  [((6 : Nat), (16 : Nat), (3 : Nat), Orc.elem (encT (List.getD p.paths i default))), ((6 : Nat), (16 : Nat), (5 : Nat), Orc.call [encT (List.getD p.paths i default)] (bo (decide (ckPr' (List.getD p.paths i default) = (0 : Int))))),
  ((6 : Nat), (16 : Nat), (15 : Nat), Orc.elem (encT (List.getD p.paths (Int.toNat (IntKind.wrap IntKind.i64 ((↑i : Int) - (1 : Int)))) default))), ((6 : Nat), (16 : Nat), (20 : Nat), Orc.elem (encT (List.getD p.paths i default))),
  ((6 : Nat), (16 : Nat), (22 : Nat),
  Orc.call [encT (List.getD p.paths (Int.toNat (IntKind.wrap IntKind.i64 ((↑i : Int) - (1 : Int)))) default), encT (List.getD p.paths i default)]
  (bo (decide ((List.getD p.paths (Int.toNat (IntKind.wrap IntKind.i64 ((↑i : Int) - (1 : Int)))) default).cust < (List.getD p.paths i default).cust))))])
  fun x x_1 => Tree.fail (1000003 : Nat) (0 : Nat)
theorem t44cr (p : Payload) (i : Nat) : levL prog Proofs.Try.f44 14 (I44c p i) (T44cr p i) fin44c =
  Tree.br (decide ((↑i : Int) < (↑(List.length (List.map encT p.paths)) : Int)))
  (Tree.need ((0 : Int) ≤ (↑i : Int) ∧ (List.map encT p.paths)[i]? = some (encT (List.getD p.paths i default)))
  (Tree.need (ILeL [encT (List.getD p.paths i default)] [encT (List.getD p.paths i default)] ∧ ASpec prog (57 : Nat) [encT (List.getD p.paths i default)] (bo (decide (ckPr' (List.getD p.paths i default) = (0 : Int)))))
  (Tree.br (!decide (ckPr' (List.getD p.paths i default) = (0 : Int))) (Tree.done Exit.ret (LState.mk [((2 : Nat), AVal.imm (IVal.v (Value.int IntKind.i64 (8 : Int))))] [] (144 : Nat) (33 : Nat) []))
  (Tree.br (decide ((0 : Int) < (↑i : Int)))
  (Tree.need
  ((0 : Int) ≤ IntKind.wrap IntKind.i64 ((↑i : Int) - (1 : Int)) ∧
  (List.map encT p.paths)[Int.toNat (IntKind.wrap IntKind.i64 ((↑i : Int) - (1 : Int)))]? = some (encT (List.getD p.paths (Int.toNat (IntKind.wrap IntKind.i64 ((↑i : Int) - (1 : Int)))) default)))
  (Tree.need ((0 : Int) ≤ (↑i : Int) ∧ (List.map encT p.paths)[i]? = some (encT (List.getD p.paths i default)))
  (Tree.need
  (ILeL [encT (List.getD p.paths (Int.toNat (IntKind.wrap IntKind.i64 ((↑i : Int) - (1 : Int)))) default), encT (List.getD p.paths i default)]
  [encT (List.getD p.paths (Int.toNat (IntKind.wrap IntKind.i64 ((↑i : Int) - (1 : Int)))) default), encT (List.getD p.paths i default)] ∧
  ASpec prog (58 : Nat) [encT (List.getD p.paths (Int.toNat (IntKind.wrap IntKind.i64 ((↑i : Int) - (1 : Int)))) default), encT (List.getD p.paths i default)]
  (bo (decide ((List.getD p.paths (Int.toNat (IntKind.wrap IntKind.i64 ((↑i : Int) - (1 : Int)))) default).cust < (List.getD p.paths i default).cust))))
  (Tree.br (!decide ((List.getD p.paths (Int.toNat (IntKind.wrap IntKind.i64 ((↑i : Int) - (1 : Int)))) default).cust < (List.getD p.paths i default).cust))
  (Tree.done Exit.ret (LState.mk [((2 : Nat), AVal.imm (IVal.v (Value.int IntKind.i64 (8 : Int))))] [] (144 : Nat) (33 : Nat) []))
  (Tree.done Exit.normal
  (LState.mk [((5 : Nat), AVal.imm (IVal.v (Value.int IntKind.i64 (IntKind.wrap IntKind.i64 ((↑i : Int) + (1 : Int)))))), ((1 : Nat), AVal.ptr (0 : Nat) (0 : Nat))] [((0 : Nat), Entry.box (28 : Nat) (AVal.imm (encL p)))]
  (144 : Nat) (35 : Nat) []))))))
  (Tree.done Exit.normal
  (LState.mk [((5 : Nat), AVal.imm (IVal.v (Value.int IntKind.i64 (IntKind.wrap IntKind.i64 ((↑i : Int) + (1 : Int)))))), ((1 : Nat), AVal.ptr (0 : Nat) (0 : Nat))] [((0 : Nat), Entry.box (28 : Nat) (AVal.imm (encL p)))]
  (144 : Nat) (35 : Nat) []))))))
  (Tree.done (Exit.exit (4 : Nat)) (LState.mk [((1 : Nat), AVal.ptr (0 : Nat) (0 : Nat))] [((0 : Nat), Entry.box (28 : Nat) (AVal.imm (encL p)))] (144 : Nat) (6 : Nat) [])) := by kernel_rfl
theorem l44c (p : Payload) (hl : p.paths.length ≤ 2 ^ 62) (σ : LState) (h : LSub σ (I44c p 0)) : LoopOk prog [] (bodyOf Proofs.Try.f44) 14 σ (L44c p) := by
  refine LoopOk.first (P44c p) p.paths.length 4 (I44c p) (R44c p) (E44c p) (T44cr p) fin44c (by kernel_rfl) h fun i hi hz => ?_
  rw [t44cr]
  refine ⟨fun h1 => ⟨elem_need ?_, fun _ => ⟨⟨ILeL.refl _, c57 _⟩, fun _ => ⟨fun h2 => ?_, fun h2 => ⟨fun h3 => ⟨elem_need ?_, fun _ => ⟨elem_need ?_, fun _ => ⟨⟨ILeL.refl _, c58 _ _⟩, fun _ => ⟨fun h4 => ?_, fun h4 => ?_⟩⟩⟩⟩, fun h3 => ?_⟩⟩⟩⟩, fun h1 => ?_⟩
  · (refine ⟨by omega, ?_, ?_⟩ <;> (simp only [List.length_map, decide_eq_true_eq, decide_eq_false_iff_not, Int.toNat_natCast] at * <;> omega))
  · exact ⟨by (simp only [List.length_map, decide_eq_true_eq, decide_eq_false_iff_not, Int.toNat_natCast] at * <;> omega), by simp only [P44c, badAt, h2, Bool.true_or, goodT'], by simp [R44c, i64, LSub, tsub, ssub, tl, sl, linT, linS, ainB, ainBL]⟩
  · have e : IntKind.i64.wrap ((i : Int) - 1) = ((i - 1 : Nat) : Int) := by rw [IntWalk.i64_in _ (by (simp only [List.length_map, decide_eq_true_eq, decide_eq_false_iff_not, Int.toNat_natCast] at * <;> omega))]; (simp only [List.length_map, decide_eq_true_eq, decide_eq_false_iff_not, Int.toNat_natCast] at * <;> omega)
    exact ⟨by rw [e]; omega, by rw [e]; (simp only [List.length_map, decide_eq_true_eq, decide_eq_false_iff_not, Int.toNat_natCast] at * <;> omega), rfl⟩
  · (refine ⟨by omega, ?_, ?_⟩ <;> (simp only [List.length_map, decide_eq_true_eq, decide_eq_false_iff_not, Int.toNat_natCast] at * <;> omega))
  · have e : IntKind.i64.wrap ((i : Int) - 1) = ((i - 1 : Nat) : Int) := by rw [IntWalk.i64_in _ (by (simp only [List.length_map, decide_eq_true_eq, decide_eq_false_iff_not, Int.toNat_natCast] at * <;> omega))]; (simp only [List.length_map, decide_eq_true_eq, decide_eq_false_iff_not, Int.toNat_natCast] at * <;> omega)
    rw [e, Int.toNat_natCast] at h4
    have h3' : 0 < i := by (simp only [List.length_map, decide_eq_true_eq, decide_eq_false_iff_not, Int.toNat_natCast] at * <;> omega)
    exact ⟨by (simp only [List.length_map, decide_eq_true_eq, decide_eq_false_iff_not, Int.toNat_natCast] at * <;> omega), by simp only [P44c, badAt, h2, h4, decide_eq_true h3', Bool.and_self, Bool.or_true, befT, goodT'], by simp [R44c, i64, LSub, tsub, ssub, tl, sl, linT, linS, ainB, ainBL]⟩
  · have e : IntKind.i64.wrap ((i : Int) - 1) = ((i - 1 : Nat) : Int) := by rw [IntWalk.i64_in _ (by (simp only [List.length_map, decide_eq_true_eq, decide_eq_false_iff_not, Int.toNat_natCast] at * <;> omega))]; (simp only [List.length_map, decide_eq_true_eq, decide_eq_false_iff_not, Int.toNat_natCast] at * <;> omega)
    rw [e, Int.toNat_natCast] at h4
    exact ⟨by (simp only [List.length_map, decide_eq_true_eq, decide_eq_false_iff_not, Int.toNat_natCast] at * <;> omega), by simp only [P44c, badAt, h2, h4, Bool.and_false, Bool.or_self, befT, goodT'], by simp [I44c, i64, i64_small (n := i) (by (simp only [List.length_map, decide_eq_true_eq, decide_eq_false_iff_not, Int.toNat_natCast] at * <;> omega)) hl, LSub, tsub, ssub, tl, sl, linT, linS, ainB, ainBL]⟩
  · have h3' : ¬ 0 < i := by (simp only [List.length_map, decide_eq_true_eq, decide_eq_false_iff_not, Int.toNat_natCast] at * <;> omega)
    exact ⟨by (simp only [List.length_map, decide_eq_true_eq, decide_eq_false_iff_not, Int.toNat_natCast] at * <;> omega), by simp only [P44c, badAt, h2, decide_eq_false h3', Bool.false_and, Bool.or_self, goodT'], by simp [I44c, i64, i64_small (n := i) (by (simp only [List.length_map, decide_eq_true_eq, decide_eq_false_iff_not, Int.toNat_natCast] at * <;> omega)) hl, LSub, tsub, ssub, tl, sl, linT, linS, ainB, ainBL]⟩
  · exact ⟨rfl, by (simp only [List.length_map, decide_eq_true_eq, decide_eq_false_iff_not, Int.toNat_natCast] at * <;> omega), by simp [E44c, LSub, tsub, ssub, tl, sl, linT, linS, ainB, ainBL]⟩
def goodK' (k : RKey) : Bool := !decide (k.height < 0) && !decide (4 < k.height)
def P44d (p : Payload) (i : Nat) : Bool := badAt goodK' befK p.keys i
def I44d (p : Payload) (i : Nat) : LState := { t := [(6, .imm (i64 i)), (1, .ptr 0 0)], s := [(0, .box 28 (.imm (encL p)))], m := 144, n := 1 }
def R44d (p : Payload) (i : Nat) : LState := { t := [(2, .imm (i64 8))], s := [], m := 144, n := 1 }
def E44d (p : Payload) : LState := { t := [(1, .ptr 0 0)], s := [(0, .box 28 (.imm (encL p)))], m := 144, n := 1 }
def fin44d : Exit → Fin
  | .normal => ⟨[], [6, 1], [0]⟩
  | .ret => ⟨[], [2], []⟩
  | _ => ⟨[], [1], [0]⟩
def L44d (p : Payload) : Tree := Lfirst (P44d p) p.keys.length 6 (R44d p) (E44d p)
def T44dr (p : Payload) (i : Nat) : Tell :=
  Tell.mk (fun x x_1 => false) (fun x x_1 => Orc.no) (fun x => Tree.fail (1000003 : Nat) (0 : Nat)) (fun x => (0 : Nat)) (fun x => ([], []))
  (oget
  [((6 : Nat), (21 : Nat), (3 : Nat), Orc.elem (encK (List.getD p.keys i default))), ((14 : Nat), (22 : Nat), (14 : Nat), Orc.elem (encK (List.getD p.keys (Int.toNat (IntKind.wrap IntKind.i64 ((↑i : Int) - (1 : Int)))) default))),
  ((14 : Nat), (22 : Nat), (19 : Nat), Orc.elem (encK (List.getD p.keys i default))),
  ((14 : Nat), (22 : Nat), (21 : Nat),
  Orc.call [encK (List.getD p.keys (Int.toNat (IntKind.wrap IntKind.i64 ((↑i : Int) - (1 : Int)))) default), encK (List.getD p.keys i default)]
  (bo (befK (List.getD p.keys (Int.toNat (IntKind.wrap IntKind.i64 ((↑i : Int) - (1 : Int)))) default) (List.getD p.keys i default))))])
  fun x x_1 => Tree.fail (1000003 : Nat) (0 : Nat)
theorem t44dr (p : Payload) (i : Nat) : levL prog Proofs.Try.f44 19 (I44d p i) (T44dr p i) fin44d =
  Tree.br (decide ((↑i : Int) < (↑(List.length (List.map encK p.keys)) : Int)))
  (Tree.need ((0 : Int) ≤ (↑i : Int) ∧ (List.map encK p.keys)[i]? = some (encK (List.getD p.keys i default)))
  (Tree.br (decide ((List.getD p.keys i default).height < (0 : Int))) (Tree.done Exit.ret (LState.mk [((2 : Nat), AVal.imm (IVal.v (Value.int IntKind.i64 (8 : Int))))] [] (144 : Nat) (40 : Nat) []))
  (Tree.br (decide ((4 : Int) < (List.getD p.keys i default).height)) (Tree.done Exit.ret (LState.mk [((2 : Nat), AVal.imm (IVal.v (Value.int IntKind.i64 (8 : Int))))] [] (144 : Nat) (40 : Nat) []))
  (Tree.br (decide ((0 : Int) < (↑i : Int)))
  (Tree.need
  ((0 : Int) ≤ IntKind.wrap IntKind.i64 ((↑i : Int) - (1 : Int)) ∧
  (List.map encK p.keys)[Int.toNat (IntKind.wrap IntKind.i64 ((↑i : Int) - (1 : Int)))]? = some (encK (List.getD p.keys (Int.toNat (IntKind.wrap IntKind.i64 ((↑i : Int) - (1 : Int)))) default)))
  (Tree.need ((0 : Int) ≤ (↑i : Int) ∧ (List.map encK p.keys)[i]? = some (encK (List.getD p.keys i default)))
  (Tree.need
  (ILeL [encK (List.getD p.keys (Int.toNat (IntKind.wrap IntKind.i64 ((↑i : Int) - (1 : Int)))) default), encK (List.getD p.keys i default)]
  [encK (List.getD p.keys (Int.toNat (IntKind.wrap IntKind.i64 ((↑i : Int) - (1 : Int)))) default), encK (List.getD p.keys i default)] ∧
  ASpec prog (59 : Nat) [encK (List.getD p.keys (Int.toNat (IntKind.wrap IntKind.i64 ((↑i : Int) - (1 : Int)))) default), encK (List.getD p.keys i default)]
  (bo (befK (List.getD p.keys (Int.toNat (IntKind.wrap IntKind.i64 ((↑i : Int) - (1 : Int)))) default) (List.getD p.keys i default))))
  (Tree.br (!befK (List.getD p.keys (Int.toNat (IntKind.wrap IntKind.i64 ((↑i : Int) - (1 : Int)))) default) (List.getD p.keys i default))
  (Tree.done Exit.ret (LState.mk [((2 : Nat), AVal.imm (IVal.v (Value.int IntKind.i64 (8 : Int))))] [] (144 : Nat) (40 : Nat) []))
  (Tree.done Exit.normal
  (LState.mk [((6 : Nat), AVal.imm (IVal.v (Value.int IntKind.i64 (IntKind.wrap IntKind.i64 ((↑i : Int) + (1 : Int)))))), ((1 : Nat), AVal.ptr (0 : Nat) (0 : Nat))] [((0 : Nat), Entry.box (28 : Nat) (AVal.imm (encL p)))]
  (144 : Nat) (42 : Nat) []))))))
  (Tree.done Exit.normal
  (LState.mk [((6 : Nat), AVal.imm (IVal.v (Value.int IntKind.i64 (IntKind.wrap IntKind.i64 ((↑i : Int) + (1 : Int)))))), ((1 : Nat), AVal.ptr (0 : Nat) (0 : Nat))] [((0 : Nat), Entry.box (28 : Nat) (AVal.imm (encL p)))]
  (144 : Nat) (42 : Nat) []))))))
  (Tree.done (Exit.exit (6 : Nat)) (LState.mk [((1 : Nat), AVal.ptr (0 : Nat) (0 : Nat))] [((0 : Nat), Entry.box (28 : Nat) (AVal.imm (encL p)))] (144 : Nat) (6 : Nat) [])) := by kernel_rfl
theorem l44d (p : Payload) (hl : p.keys.length ≤ 2 ^ 62) (σ : LState) (h : LSub σ (I44d p 0)) : LoopOk prog [] (bodyOf Proofs.Try.f44) 19 σ (L44d p) := by
  refine LoopOk.first (P44d p) p.keys.length 6 (I44d p) (R44d p) (E44d p) (T44dr p) fin44d (by kernel_rfl) h fun i hi hz => ?_
  rw [t44dr]
  refine ⟨fun h1 => ⟨elem_need ?_, fun _ => ⟨fun h2 => ?_, fun h2 => ⟨fun h3 => ?_, fun h3 => ⟨fun h4 => ⟨elem_need ?_, fun _ => ⟨elem_need ?_, fun _ => ⟨⟨ILeL.refl _, c59 _ _⟩, fun _ => ⟨fun h5 => ?_, fun h5 => ?_⟩⟩⟩⟩, fun h4 => ?_⟩⟩⟩⟩, fun h1 => ?_⟩
  · (refine ⟨by omega, ?_, ?_⟩ <;> (simp only [List.length_map, decide_eq_true_eq, decide_eq_false_iff_not, Int.toNat_natCast] at * <;> omega))
  · exact ⟨by (simp only [List.length_map, decide_eq_true_eq, decide_eq_false_iff_not, Int.toNat_natCast] at * <;> omega), by simp only [P44d, badAt, goodK', h2, Bool.not_true, Bool.false_and, Bool.not_false, Bool.true_or], by simp [R44d, i64, LSub, tsub, ssub, tl, sl, linT, linS, ainB, ainBL]⟩
  · exact ⟨by (simp only [List.length_map, decide_eq_true_eq, decide_eq_false_iff_not, Int.toNat_natCast] at * <;> omega), by simp only [P44d, badAt, goodK', h2, h3, Bool.not_true, Bool.and_false, Bool.not_false, Bool.true_or], by simp [R44d, i64, LSub, tsub, ssub, tl, sl, linT, linS, ainB, ainBL]⟩
  · have e : IntKind.i64.wrap ((i : Int) - 1) = ((i - 1 : Nat) : Int) := by rw [IntWalk.i64_in _ (by (simp only [List.length_map, decide_eq_true_eq, decide_eq_false_iff_not, Int.toNat_natCast] at * <;> omega))]; (simp only [List.length_map, decide_eq_true_eq, decide_eq_false_iff_not, Int.toNat_natCast] at * <;> omega)
    exact ⟨by rw [e]; omega, by rw [e]; (simp only [List.length_map, decide_eq_true_eq, decide_eq_false_iff_not, Int.toNat_natCast] at * <;> omega), rfl⟩
  · (refine ⟨by omega, ?_, ?_⟩ <;> (simp only [List.length_map, decide_eq_true_eq, decide_eq_false_iff_not, Int.toNat_natCast] at * <;> omega))
  · have e : IntKind.i64.wrap ((i : Int) - 1) = ((i - 1 : Nat) : Int) := by rw [IntWalk.i64_in _ (by (simp only [List.length_map, decide_eq_true_eq, decide_eq_false_iff_not, Int.toNat_natCast] at * <;> omega))]; (simp only [List.length_map, decide_eq_true_eq, decide_eq_false_iff_not, Int.toNat_natCast] at * <;> omega)
    rw [e, Int.toNat_natCast] at h5
    have h3' : 0 < i := by (simp only [List.length_map, decide_eq_true_eq, decide_eq_false_iff_not, Int.toNat_natCast] at * <;> omega)
    exact ⟨by (simp only [List.length_map, decide_eq_true_eq, decide_eq_false_iff_not, Int.toNat_natCast] at * <;> omega), by simp only [P44d, badAt, goodK', h2, h3, h5, decide_eq_true h3', Bool.and_self, Bool.or_true], by simp [R44d, i64, LSub, tsub, ssub, tl, sl, linT, linS, ainB, ainBL]⟩
  · have e : IntKind.i64.wrap ((i : Int) - 1) = ((i - 1 : Nat) : Int) := by rw [IntWalk.i64_in _ (by (simp only [List.length_map, decide_eq_true_eq, decide_eq_false_iff_not, Int.toNat_natCast] at * <;> omega))]; (simp only [List.length_map, decide_eq_true_eq, decide_eq_false_iff_not, Int.toNat_natCast] at * <;> omega)
    rw [e, Int.toNat_natCast] at h5
    exact ⟨by (simp only [List.length_map, decide_eq_true_eq, decide_eq_false_iff_not, Int.toNat_natCast] at * <;> omega), by simp only [P44d, badAt, goodK', h2, h3, h5, Bool.and_false, Bool.not_false, Bool.and_self, Bool.not_true, Bool.or_self], by simp [I44d, i64, i64_small (n := i) (by (simp only [List.length_map, decide_eq_true_eq, decide_eq_false_iff_not, Int.toNat_natCast] at * <;> omega)) hl, LSub, tsub, ssub, tl, sl, linT, linS, ainB, ainBL]⟩
  · have h3' : ¬ 0 < i := by (simp only [List.length_map, decide_eq_true_eq, decide_eq_false_iff_not, Int.toNat_natCast] at * <;> omega)
    exact ⟨by (simp only [List.length_map, decide_eq_true_eq, decide_eq_false_iff_not, Int.toNat_natCast] at * <;> omega), by simp only [P44d, badAt, goodK', h2, h3, decide_eq_false h3', Bool.false_and, Bool.not_false, Bool.and_self, Bool.not_true, Bool.or_self], by simp [I44d, i64, i64_small (n := i) (by (simp only [List.length_map, decide_eq_true_eq, decide_eq_false_iff_not, Int.toNat_natCast] at * <;> omega)) hl, LSub, tsub, ssub, tl, sl, linT, linS, ainB, ainBL]⟩
  · exact ⟨rfl, by (simp only [List.length_map, decide_eq_true_eq, decide_eq_false_iff_not, Int.toNat_natCast] at * <;> omega), by simp [E44d, LSub, tsub, ssub, tl, sl, linT, linS, ainB, ainBL]⟩
def B44 (p : Payload) : Tell := { Lp := fun k => match k with | 4 => L44a p | 9 => L44b p | 14 => L44c p | _ => L44d p, lv := fun k => match k with | 4 => ([3, 1], [0]) | 9 => ([4, 1], [0]) | 14 => ([5, 1], [0]) | _ => ([6, 1], [0]) }
def T44 (p : Payload) : Tell :=
  Tell.mk (fun x x_1 => false) (fun x x_1 => Orc.no)
  (fun k =>
  match k with
  | (4 : Nat) => L44a p
  | (9 : Nat) => L44b p
  | (14 : Nat) => L44c p
  | x => L44d p)
  (fun x => (0 : Nat))
  (fun k =>
  match k with
  | (4 : Nat) => ([(3 : Nat), (1 : Nat)], [(0 : Nat)])
  | (9 : Nat) => ([(4 : Nat), (1 : Nat)], [(0 : Nat)])
  | (14 : Nat) => ([(5 : Nat), (1 : Nat)], [(0 : Nat)])
  | x => ([(6 : Nat), (1 : Nat)], [(0 : Nat)]))
  (fun x x_1 x_2 => Orc.no) fun x k =>
  match k with
  | (4 : Nat) => L44a p
  | (9 : Nat) => L44b p
  | (14 : Nat) => L44c p
  | x => L44d p
theorem t44 (p : Payload) : levF prog Proofs.Try.f44 [encL p] (T44 p) =
  Tree.br (decide ((1000 : Int) < (↑(List.length (List.map encO p.origins)) : Int))) (Tree.done Exit.ret (lret (IVal.v (Value.int IntKind.i64 (4 : Int)))))
  (Tree.br (decide ((300 : Int) < (↑(List.length (List.map encT p.paths)) : Int))) (Tree.done Exit.ret (lret (IVal.v (Value.int IntKind.i64 (4 : Int)))))
  (Tree.br (decide ((100 : Int) < (↑(List.length (List.map encK p.keys)) : Int))) (Tree.done Exit.ret (lret (IVal.v (Value.int IntKind.i64 (4 : Int)))))
  (Tree.loop (4 : Nat) (LState.mk [((3 : Nat), AVal.imm (IVal.v (Value.int IntKind.i64 (0 : Int)))), ((1 : Nat), AVal.ptr (0 : Nat) (0 : Nat))] [((0 : Nat), Entry.box (28 : Nat) (AVal.imm (encL p)))] (144 : Nat) (19 : Nat) [])
  (Tree.br (anyI (P44a p) (0 : Nat) (List.length p.paths)) (Tree.done Exit.ret (R44a p (firstI (P44a p) (0 : Nat) (List.length p.paths)))) (Tree.done (Exit.exit (0 : Nat)) (E44a p)))
  (Tree.br (anyI (P44a p) (0 : Nat) (List.length p.paths)) (Tree.done Exit.ret (lret (IVal.v (Value.int IntKind.i64 (4 : Int)))))
  (Tree.loop (9 : Nat) (LState.mk [((4 : Nat), AVal.imm (IVal.v (Value.int IntKind.i64 (0 : Int)))), ((1 : Nat), AVal.ptr (0 : Nat) (0 : Nat))] [((0 : Nat), Entry.box (28 : Nat) (AVal.imm (encL p)))] (144 : Nat) (2 : Nat) [])
  (Tree.br (anyI (P44b p) (0 : Nat) (List.length p.origins)) (Tree.done Exit.ret (R44b p (firstI (P44b p) (0 : Nat) (List.length p.origins)))) (Tree.done (Exit.exit (2 : Nat)) (E44b p)))
  (Tree.br (anyI (P44b p) (0 : Nat) (List.length p.origins)) (Tree.done Exit.ret (lret (IVal.v (Value.int IntKind.i64 (8 : Int)))))
  (Tree.loop (14 : Nat) (LState.mk [((5 : Nat), AVal.imm (IVal.v (Value.int IntKind.i64 (0 : Int)))), ((1 : Nat), AVal.ptr (0 : Nat) (0 : Nat))] [((0 : Nat), Entry.box (28 : Nat) (AVal.imm (encL p)))] (144 : Nat) (2 : Nat) [])
  (Tree.br (anyI (P44c p) (0 : Nat) (List.length p.paths)) (Tree.done Exit.ret (R44c p (firstI (P44c p) (0 : Nat) (List.length p.paths)))) (Tree.done (Exit.exit (4 : Nat)) (E44c p)))
  (Tree.br (anyI (P44c p) (0 : Nat) (List.length p.paths)) (Tree.done Exit.ret (lret (IVal.v (Value.int IntKind.i64 (8 : Int)))))
  (Tree.loop (19 : Nat)
  (LState.mk [((6 : Nat), AVal.imm (IVal.v (Value.int IntKind.i64 (0 : Int)))), ((1 : Nat), AVal.ptr (0 : Nat) (0 : Nat))] [((0 : Nat), Entry.box (28 : Nat) (AVal.imm (encL p)))] (144 : Nat) (2 : Nat) [])
  (Tree.br (anyI (P44d p) (0 : Nat) (List.length p.keys)) (Tree.done Exit.ret (R44d p (firstI (P44d p) (0 : Nat) (List.length p.keys)))) (Tree.done (Exit.exit (6 : Nat)) (E44d p)))
  (Tree.br (anyI (P44d p) (0 : Nat) (List.length p.keys)) (Tree.done Exit.ret (lret (IVal.v (Value.int IntKind.i64 (8 : Int))))) (Tree.done Exit.ret (lret (IVal.v (Value.int IntKind.i64 (0 : Int))))))))))))))) := by kernel_rfl
def ckL' (p : Payload) : Int :=
  if 1000 < p.origins.length ∨ 300 < p.paths.length ∨ 100 < p.keys.length ∨ anyI (P44a p) 0 p.paths.length = true then 4
  else if anyI (P44b p) 0 p.origins.length = true ∨ anyI (P44c p) 0 p.paths.length = true ∨ anyI (P44d p) 0 p.keys.length = true then 8 else 0
theorem c44 (p : Payload) : ASpec prog 44 [encL p] (i64 (ckL' p)) := by
  refine ASpec.treeW Proofs.Try.f44 (T44 p) (by kernel_rfl) (by kernel_rfl) (t44 p) ?_
  refine ⟨fun h1 => ⟨_, rfl, ?_⟩, fun h1 => ⟨fun h2 => ⟨_, rfl, ?_⟩, fun h2 => ⟨fun h3 => ⟨_, rfl, ?_⟩, fun h3 => ⟨?_, ⟨fun h4 => ⟨_, rfl, ?_⟩, fun h4 => ⟨?_, ⟨fun h5 => ⟨_, rfl, ?_⟩, fun h5 => ⟨?_, ⟨fun h6 => ⟨_, rfl, ?_⟩, fun h6 => ⟨?_, ⟨fun h7 => ⟨_, rfl, ?_⟩, fun h7 => ⟨_, rfl, ?_⟩⟩⟩⟩⟩⟩⟩⟩⟩⟩⟩⟩
  all_goals simp only [decide_eq_true_eq, decide_eq_false_iff_not, List.length_map] at *
  · exact ile_i64 (by unfold ckL'; rw [if_pos (.inl (by omega))])
  · exact ile_i64 (by unfold ckL'; rw [if_pos (.inr (.inl (by omega)))])
  · exact ile_i64 (by unfold ckL'; rw [if_pos (.inr (.inr (.inl (by omega))))])
  · exact l44a p (by omega) _ ⟨⟨rfl, rfl, trivial⟩, ⟨rfl, trivial⟩, rfl, rfl, rfl⟩
  · exact ile_i64 (by unfold ckL'; rw [if_pos (.inr (.inr (.inr h4)))])
  · exact l44b p (by omega) _ ⟨⟨rfl, rfl, trivial⟩, ⟨rfl, trivial⟩, rfl, rfl, rfl⟩
  all_goals have hn : ¬ (1000 < p.origins.length ∨ 300 < p.paths.length ∨ 100 < p.keys.length ∨ anyI (P44a p) 0 p.paths.length = true) := by rw [h4]; simp; omega
  · exact ile_i64 (by unfold ckL'; rw [if_neg hn, if_pos (.inl h5)])
  · exact l44c p (by omega) _ ⟨⟨rfl, rfl, trivial⟩, ⟨rfl, trivial⟩, rfl, rfl, rfl⟩
  · exact ile_i64 (by unfold ckL'; rw [if_neg hn, if_pos (.inr (.inl h6))])
  · exact l44d p (by omega) _ ⟨⟨rfl, rfl, trivial⟩, ⟨rfl, trivial⟩, rfl, rfl, rfl⟩
  · exact ile_i64 (by unfold ckL'; rw [if_neg hn, if_pos (.inr (.inr h7))])
  · exact ile_i64 (by
      unfold ckL'; rw [if_neg hn, if_neg]
      rw [h5, h6, h7]; simp)
end Gp
