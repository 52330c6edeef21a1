/- Part 2 of the walk and of the plain law of PduCuts. -/
import Derived.Test.YtnfdbpopcfcegaaW1
set_option maxRecDepth 100000
set_option maxHeartbeats 0
set_option linter.unusedVariables false
set_option linter.unusedSimpArgs false
open Go Go.Abs
noncomputable section
namespace Gp
def byV (x k : Int) : Int := IntKind.u8.wrap (x.fdiv (2 ^ (min (IntKind.i64.wrap (8 * k)).toNat 64)))
def nbI (x : Int) (n i : Nat) : List Int := (List.range i).map fun j : Nat => byV x ((n : Int) - 1 - j)
theorem nbI_succ (x : Int) (n i : Nat) : nbI x n (i + 1) = nbI x n i ++ [byV x ((n : Int) - 1 - i)] := by simp [nbI, List.range_succ]
theorem nbI_len (x : Int) (n i : Nat) : (nbI x n i).length = i := by simp [nbI]
def I77 (ls : Nat → Abs.Loc) (l : List Int) (x : Int) (n i : Nat) : LState := { t := [(6, .imm (i64 ((n : Int) - 1 - i))), (1, .imm (u64 x)), (0, .ptr 0 0)], s := [(0, .bbox (ls 0) 92 (.agg [.own 50 (l.length + i)])), (50, .row 5 1 ((l ++ nbI x n i).map u8))], m := 27, n := 60 }
def E77 (ls : Nat → Abs.Loc) (l : List Int) (x : Int) (n : Nat) : LState := { t := [], s := [(0, .bbox (ls 0) 92 (.agg [.own 50 (l.length + n)])), (50, .row 5 1 ((l ++ nbI x n n).map u8))], m := 27, n := 60 }
def fin77 : Exit → Nat → Fin
  | .normal, n => ⟨[(50, 59), (n - 7, 50)], [6, 1, 0], [0, 50]⟩
  | _, _ => ⟨[], [], [0, 50]⟩
def T77r (ls : Nat → Abs.Loc) (l : List Int) (x : Int) (n i : Nat) : Tell :=
  Tell.mk (fun x x_1 => false) (fun x x_1 => Orc.no) (fun x => Tree.fail 1000003 0) (fun x => 0) (fun x => ([], [])) (fun x x_1 x_2 => Orc.no) fun x x_1 => Tree.fail 1000003 0
theorem t77r (ls : Nat → Abs.Loc) (l : List Int) (x : Int) (n i : Nat) : levLN prog Proofs.Try.f77 1 (I77 ls l x n i) (T77r ls l x n i) fin77 =
  Tree.br (decide ((0 : Int) ≤ (↑n : Int) - (1 : Int) - (↑i : Int)))
  (Tree.need ((0 : Int) ≤ IntKind.wrap IntKind.i64 ((8 : Int) * ((↑n : Int) - (1 : Int) - (↑i : Int))))
  (Tree.need (askA (some (1 = 1)) (List.length (List.map u8 (l ++ nbI x n i)) = List.length l + i ∧ cellsOk (List.map u8 (l ++ nbI x n i)) = true ∧ true = true ∧ List.length l + i + 1 ≤ 1000000))
  (Tree.done Exit.normal
  (LState.mk [(6, AVal.imm (IVal.v (Value.int IntKind.i64 (IntKind.wrap IntKind.i64 ((↑n : Int) - (1 : Int) - (↑i : Int) - (1 : Int)))))), (1, AVal.imm (u64 x)), (0, AVal.ptr 0 0)]
  [(0, Entry.bbox (ls 0) 92 (AVal.agg [AVal.own 50 (List.length l + i + 1)])),
  (50,
  Entry.row 5 1
  (List.map u8 (l ++ nbI x n i) ++
  [IVal.v (Value.int IntKind.u8 (IntKind.wrap IntKind.u8 (Int.fdiv x ((2 : Int) ^ min (Int.toNat (IntKind.wrap IntKind.i64 ((8 : Int) * ((↑n : Int) - (1 : Int) - (↑i : Int))))) 64))))]))]
  27 80 []))))
  (Tree.done (Exit.exit 0)
  (LState.mk [] [(0, Entry.bbox (ls 0) 92 (AVal.agg [AVal.own 50 (List.length l + i)])), (50, Entry.row 5 1 (List.map u8 (l ++ nbI x n i)))] 27 62 [])) := by kernel_rfl
def T77 (ls : Nat → Abs.Loc) (l : List Int) (x : Int) (n m : Nat) : Tell :=
  Tell.mk (fun x x_1 => false) (fun x x_1 => Orc.no) (fun x_1 => Tree.done (Exit.exit 0) (E77 ls l x n)) (fun x => 0) (fun x => ([6, 1, 0], [0, 1])) (fun x x_1 x_2 => Orc.no)
  fun x_1 x_2 => Tree.done (Exit.exit 0) (E77 ls l x n)
theorem t77 (ls : Nat → Abs.Loc) (l : List Int) (x : Int) (n m : Nat) : levG prog Proofs.Try.f77 ls [(92, .agg [.own 1 m])] [(5, 1, l.map u8)] [.ptr 0 0, .imm (u64 x), .imm (i64 n)] [(92, .agg [.own 1 (l ++ nbI x n n).length])] [.row 5 1 ((l ++ nbI x n n).map u8)] (.tup []) (T77 ls l x n m) =
  Tree.loop 1
  (LState.mk [(6, AVal.imm (IVal.v (Value.int IntKind.i64 (IntKind.wrap IntKind.i64 ((↑n : Int) - (1 : Int)))))), (1, AVal.imm (u64 x)), (0, AVal.ptr 0 0)]
  [(0, Entry.bbox (ls 0) 92 (AVal.agg [AVal.own 1 m])), (1, Entry.row 5 1 (List.map u8 l))] 27 5 [])
  (Tree.done (Exit.exit 0) (E77 ls l x n))
  (Tree.need
  ([(ls 0, 92, AVal.agg [AVal.own 1 (List.length l + n)])] = [(ls 0, 92, AVal.agg [AVal.own 1 (List.length (l ++ nbI x n n))])] ∧
  ELeL [Entry.row 5 1 (List.map u8 (l ++ nbI x n n))] [Entry.row 5 1 (List.map u8 (l ++ nbI x n n))] ∧ ALe (AVal.tup []) (AVal.tup []))
  (Tree.done Exit.ret lnil)) := by kernel_rfl
def T77' (ls : Nat → Abs.Loc) (x : Int) (n : Nat) : Tell :=
  Tell.mk (fun x x_1 => false) (fun x x_1 => Orc.no) (fun x_1 => Tree.done (Exit.exit 0) (E77 ls [] x n)) (fun x => 0) (fun x => ([6, 1, 0], [0])) (fun x x_1 x_2 => Orc.no) fun x_1 x_2 =>
  Tree.done (Exit.exit 0) (E77 ls [] x n)
theorem t77' (ls : Nat → Abs.Loc) (x : Int) (n : Nat) : levG prog Proofs.Try.f77 ls [(92, .agg [.imm (.v (.slice none 0 0))])] [] [.ptr 0 0, .imm (u64 x), .imm (i64 n)] [(92, .agg [.own 1 (nbI x n n).length])] [.row 5 1 ((nbI x n n).map u8)] (.tup []) (T77' ls x n) =
  Tree.loop 1
  (LState.mk [(6, AVal.imm (IVal.v (Value.int IntKind.i64 (IntKind.wrap IntKind.i64 ((↑n : Int) - (1 : Int)))))), (1, AVal.imm (u64 x)), (0, AVal.ptr 0 0)]
  [(0, Entry.bbox (ls 0) 92 (AVal.agg [AVal.imm (IVal.v (Value.slice none 0 0))]))] 27 4 [])
  (Tree.done (Exit.exit 0) (E77 ls [] x n))
  (Tree.need
  ([(ls 0, 92, AVal.agg [AVal.own 1 (0 + n)])] = [(ls 0, 92, AVal.agg [AVal.own 1 (List.length (nbI x n n))])] ∧
  ELeL [Entry.row 5 1 (List.map u8 ([] ++ nbI x n n))] [Entry.row 5 1 (List.map u8 (nbI x n n))] ∧ ALe (AVal.tup []) (AVal.tup []))
  (Tree.done Exit.ret lnil)) := by kernel_rfl
theorem l77 (ls : Nat → Abs.Loc) (l : List Int) (x : Int) (n : Nat) (hn : n ≤ 8) (hl : l.length ≤ 900000) (σ : LState) (h : LSub σ (I77 ls l x n 0)) : LoopOk prog [] (bodyOf Proofs.Try.f77) 1 σ (.done (.exit 0) (E77 ls l x n)) := by
  refine LoopOk.countN n 0 (I77 ls l x n) (E77 ls l x n) (T77r ls l x n) fin77 (by kernel_rfl) h fun i hi => ?_
  rw [t77r]
  have e1 : i < n → IntKind.i64.wrap (8 * ((n : Int) - 1 - i)) = 8 * ((n : Int) - 1 - i) := fun h => IntWalk.i64_in _ (by omega)
  refine ⟨fun h1 => need_sat ?_ (need_sat ?_ ?_), fun h1 => ?_⟩
  · (simp only [List.length_map, decide_eq_true_eq, decide_eq_false_iff_not, Int.toNat_natCast] at * <;> omega)
  · exact ⟨⟨by simp [nbI_len], cellsOk_map u8 (fun _ => rfl) _, rfl, by (simp only [List.length_map, decide_eq_true_eq, decide_eq_false_iff_not, Int.toNat_natCast] at * <;> omega)⟩, rfl⟩
  · have hlt : i < n := by (simp only [List.length_map, decide_eq_true_eq, decide_eq_false_iff_not, Int.toNat_natCast] at * <;> omega)
    refine ⟨hlt, ⟨?_, rfl, rfl, trivial⟩, ⟨rfl, ?_, trivial⟩, rfl, rfl, rfl⟩
    · refine congrArg (fun n => AVal.imm (i64 n)) ?_
      rw [IntWalk.i64_in _ (by omega)]; omega
    · refine congrArg (fun l => some (Entry.row 5 1 l)) ?_
      rw [nbI_succ, ← List.append_assoc, List.map_append (l₁ := l ++ nbI x n i)]; rfl
  · have : i = n := by (simp only [List.length_map, decide_eq_true_eq, decide_eq_false_iff_not, Int.toNat_natCast] at * <;> omega)
    subst this
    exact ⟨rfl, by omega, trivial, ⟨rfl, rfl, trivial⟩, rfl, rfl, rfl⟩
theorem q77 (l : List Int) (x : Int) (n m : Nat) (hn : n ≤ 8) (hm : m = l.length) (hl : l.length ≤ 900000) : GSpec prog 77 [(92, .agg [.own 1 m])] [(5, 1, l.map u8)] [.ptr 0 0, .imm (u64 x), .imm (i64 n)] [(92, .agg [.own 1 (l ++ nbI x n n).length])] [.row 5 1 ((l ++ nbI x n n).map u8)] (.tup []) := by
  subst hm
  refine GSpec.tree Proofs.Try.f77 (fun ls => T77 ls l x n l.length) (by kernel_rfl) (by kernel_rfl) rfl fun ls => ?_
  rw [t77]
  refine ⟨?_, need_sat ?_ (trivial)⟩
  · refine .nam (τ := I77 ls l x n 0) (.more 60 (show 5 ≤ 60 by decide) (.sw 1 50 (show 1 < 60 by decide) (show 50 < 60 by decide) (.sub ?_))) (l77 ls l x n hn hl _ ?_)
    · refine ⟨⟨?_, rfl, rfl, trivial⟩, ⟨?_, ?_, trivial⟩, rfl, rfl, rfl⟩
      · refine congrArg (fun n => AVal.imm (i64 n)) ?_
        rw [IntWalk.i64_in _ (by omega)]; omega
      · rfl
      · simp [nbI]; rfl
    · exact ⟨⟨rfl, rfl, rfl, trivial⟩, ⟨rfl, rfl, trivial⟩, rfl, rfl, rfl⟩
  · exact ⟨by simp [nbI_len], .refl _, .refl _⟩
theorem q77' (x : Int) (n : Nat) (hn : n ≤ 8) : GSpec prog 77 [(92, .agg [.imm (.v (.slice none 0 0))])] [] [.ptr 0 0, .imm (u64 x), .imm (i64 n)] [(92, .agg [.own 1 (nbI x n n).length])] [.row 5 1 ((nbI x n n).map u8)] (.tup []) := by
  refine GSpec.tree Proofs.Try.f77 (fun ls => T77' ls x n) (by kernel_rfl) (by kernel_rfl) rfl fun ls => ?_
  rw [t77']
  refine ⟨?_, need_sat ?_ (trivial)⟩
  · refine .nam (τ := I77 ls [] x n 0) (.cell 0 0 50 5 1 (show 4 ≤ 50 by decide) (.more 60 (show 51 ≤ 60 by decide) (.sub ?_))) (l77 ls [] x n hn (by simp) _ ?_)
    · refine ⟨⟨?_, rfl, rfl, trivial⟩, ⟨rfl, rfl, trivial⟩, rfl, rfl, rfl⟩
      refine congrArg (fun n => AVal.imm (i64 n)) ?_
      rw [IntWalk.i64_in _ (by omega)]; omega
    · exact ⟨⟨rfl, rfl, rfl, trivial⟩, ⟨rfl, rfl, trivial⟩, rfl, rfl, rfl⟩
  · exact ⟨by simp [nbI_len], .refl _, .refl _⟩
noncomputable def numO : { f : Int → Int → List Int // ∀ x n, f x n = nbI x n.toNat n.toNat } := Classical.choice ⟨⟨fun x n => nbI x n.toNat n.toNat, fun _ _ => rfl⟩⟩
def num (x n : Int) : List Int := numO.1 x n
theorem num_eq (x n : Int) : num x n = nbI x n.toNat n.toNat := numO.2 x n
theorem num_len (x n : Int) : (num x n).length = n.toNat := by rw [num_eq]; exact nbI_len _ _ _
theorem g77 (l : List Int) (x n : Int) (m : Nat) (h0 : 0 ≤ n) (hn : n ≤ 8) (hm : m = l.length) (hl : l.length ≤ 900000) : GSpec prog 77 [(92, .agg [.own 1 m])] [(5, 1, l.map u8)] [.ptr 0 0, .imm (u64 x), .imm (i64 n)] [(92, .agg [.own 1 (l ++ num x n).length])] [.row 5 1 ((l ++ num x n).map u8)] (.tup []) := by
  have := q77 l x n.toNat m (by omega) hm hl
  rw [← num_eq] at this
  rwa [show ((n.toNat : Nat) : Int) = n from by omega] at this
theorem g77' (x n : Int) (h0 : 0 ≤ n) (hn : n ≤ 8) : GSpec prog 77 [(92, .agg [.imm (.v (.slice none 0 0))])] [] [.ptr 0 0, .imm (u64 x), .imm (i64 n)] [(92, .agg [.own 1 (num x n).length])] [.row 5 1 ((num x n).map u8)] (.tup []) := by
  have := q77' x n.toNat (by omega)
  rw [← num_eq] at this
  rwa [show ((n.toNat : Nat) : Int) = n from by omega] at this
def flI (b : Bool) : List Int := num (if b then 1 else 0) 1
theorem flI_len (b : Bool) : (flI b).length = 1 := num_len _ _
def T87 (ls : Nat → Abs.Loc) (l : List Int) (m : Nat) (b : Bool) : Tell :=
  Tell.mk (fun x x_1 => false) (fun x x_1 => Orc.no) (fun x => Tree.fail 1000003 0) (fun x => 0) (fun x => ([], []))
  (oget
  [(3, 1, 1,
  Orc.callg [0, 1] 1 [AVal.ptr 0 0, AVal.imm (u64 (1 : Int)), AVal.imm (i64 (1 : Int))] [(92, AVal.agg [AVal.own 1 (List.length (l ++ num (1 : Int) (1 : Int)))])]
  [Entry.row 5 1 (List.map u8 (l ++ num (1 : Int) (1 : Int)))] (AVal.tup [])),
  (3, 2, 1,
  Orc.callg [0, 1] 1 [AVal.ptr 0 0, AVal.imm (u64 (0 : Int)), AVal.imm (i64 (1 : Int))] [(92, AVal.agg [AVal.own 1 (List.length (l ++ num (0 : Int) (1 : Int)))])]
  [Entry.row 5 1 (List.map u8 (l ++ num (0 : Int) (1 : Int)))] (AVal.tup []))])
  fun x x_1 => Tree.fail 1000003 0
theorem t87 (ls : Nat → Abs.Loc) (l : List Int) (m : Nat) (b : Bool) : levG prog Proofs.Try.f87 ls [(92, .agg [.own 1 m])] [(5, 1, l.map u8)] [.ptr 0 0, .imm (bo b)] [(92, .agg [.own 1 (l ++ flI b).length])] [.row 5 1 ((l ++ flI b).map u8)] (.tup []) (T87 ls l m b) =
  Tree.br b
  (Tree.need
  (ALeL [AVal.ptr 0 0, AVal.imm (IVal.v (Value.int IntKind.u64 (1 : Int))), AVal.imm (IVal.v (Value.int IntKind.i64 (1 : Int)))] [AVal.ptr 0 0, AVal.imm (u64 (1 : Int)), AVal.imm (i64 (1 : Int))] ∧
  GSpec prog 77 [(92, AVal.agg [AVal.own 1 m])] [(5, 1, List.map u8 l)] [AVal.ptr 0 0, AVal.imm (u64 (1 : Int)), AVal.imm (i64 (1 : Int))]
  [(92, AVal.agg [AVal.own 1 (List.length (l ++ num (1 : Int) (1 : Int)))])] [Entry.row 5 1 (List.map u8 (l ++ num (1 : Int) (1 : Int)))] (AVal.tup []))
  (Tree.need
  ([(ls 0, 92, AVal.agg [AVal.own 1 (List.length (l ++ num (1 : Int) (1 : Int)))])] = [(ls 0, 92, AVal.agg [AVal.own 1 (List.length (l ++ flI b))])] ∧
  ELeL [Entry.row 5 1 (List.map u8 (l ++ num (1 : Int) (1 : Int)))] [Entry.row 5 1 (List.map u8 (l ++ flI b))] ∧ ALe (AVal.tup []) (AVal.tup []))
  (Tree.done Exit.ret lnil)))
  (Tree.need
  (ALeL [AVal.ptr 0 0, AVal.imm (IVal.v (Value.int IntKind.u64 (0 : Int))), AVal.imm (IVal.v (Value.int IntKind.i64 (1 : Int)))] [AVal.ptr 0 0, AVal.imm (u64 (0 : Int)), AVal.imm (i64 (1 : Int))] ∧
  GSpec prog 77 [(92, AVal.agg [AVal.own 1 m])] [(5, 1, List.map u8 l)] [AVal.ptr 0 0, AVal.imm (u64 (0 : Int)), AVal.imm (i64 (1 : Int))]
  [(92, AVal.agg [AVal.own 1 (List.length (l ++ num (0 : Int) (1 : Int)))])] [Entry.row 5 1 (List.map u8 (l ++ num (0 : Int) (1 : Int)))] (AVal.tup []))
  (Tree.need
  ([(ls 0, 92, AVal.agg [AVal.own 1 (List.length (l ++ num (0 : Int) (1 : Int)))])] = [(ls 0, 92, AVal.agg [AVal.own 1 (List.length (l ++ flI b))])] ∧
  ELeL [Entry.row 5 1 (List.map u8 (l ++ num (0 : Int) (1 : Int)))] [Entry.row 5 1 (List.map u8 (l ++ flI b))] ∧ ALe (AVal.tup []) (AVal.tup []))
  (Tree.done Exit.ret lnil))) := by kernel_rfl
def T87' (ls : Nat → Abs.Loc) (b : Bool) : Tell :=
  Tell.mk (fun x x_1 => false) (fun x x_1 => Orc.no) (fun x => Tree.fail 1000003 0) (fun x => 0) (fun x => ([], []))
  (oget
  [(2, 1, 1,
  Orc.callg [0] 1 [AVal.ptr 0 0, AVal.imm (u64 (1 : Int)), AVal.imm (i64 (1 : Int))] [(92, AVal.agg [AVal.own 1 (List.length (num (1 : Int) (1 : Int)))])]
  [Entry.row 5 1 (List.map u8 (num (1 : Int) (1 : Int)))] (AVal.tup [])),
  (2, 2, 1,
  Orc.callg [0] 1 [AVal.ptr 0 0, AVal.imm (u64 (0 : Int)), AVal.imm (i64 (1 : Int))] [(92, AVal.agg [AVal.own 1 (List.length (num (0 : Int) (1 : Int)))])]
  [Entry.row 5 1 (List.map u8 (num (0 : Int) (1 : Int)))] (AVal.tup []))])
  fun x x_1 => Tree.fail 1000003 0
theorem t87' (ls : Nat → Abs.Loc) (b : Bool) : levG prog Proofs.Try.f87 ls [(92, .agg [.imm (.v (.slice none 0 0))])] [] [.ptr 0 0, .imm (bo b)] [(92, .agg [.own 1 (flI b).length])] [.row 5 1 ((flI b).map u8)] (.tup []) (T87' ls b) =
  Tree.br b
  (Tree.need
  (ALeL [AVal.ptr 0 0, AVal.imm (IVal.v (Value.int IntKind.u64 (1 : Int))), AVal.imm (IVal.v (Value.int IntKind.i64 (1 : Int)))] [AVal.ptr 0 0, AVal.imm (u64 (1 : Int)), AVal.imm (i64 (1 : Int))] ∧
  GSpec prog 77 [(92, AVal.agg [AVal.imm (IVal.v (Value.slice none 0 0))])] [] [AVal.ptr 0 0, AVal.imm (u64 (1 : Int)), AVal.imm (i64 (1 : Int))]
  [(92, AVal.agg [AVal.own 1 (List.length (num (1 : Int) (1 : Int)))])] [Entry.row 5 1 (List.map u8 (num (1 : Int) (1 : Int)))] (AVal.tup []))
  (Tree.need
  ([(ls 0, 92, AVal.agg [AVal.own 1 (List.length (num (1 : Int) (1 : Int)))])] = [(ls 0, 92, AVal.agg [AVal.own 1 (List.length (flI b))])] ∧
  ELeL [Entry.row 5 1 (List.map u8 (num (1 : Int) (1 : Int)))] [Entry.row 5 1 (List.map u8 (flI b))] ∧ ALe (AVal.tup []) (AVal.tup []))
  (Tree.done Exit.ret lnil)))
  (Tree.need
  (ALeL [AVal.ptr 0 0, AVal.imm (IVal.v (Value.int IntKind.u64 (0 : Int))), AVal.imm (IVal.v (Value.int IntKind.i64 (1 : Int)))] [AVal.ptr 0 0, AVal.imm (u64 (0 : Int)), AVal.imm (i64 (1 : Int))] ∧
  GSpec prog 77 [(92, AVal.agg [AVal.imm (IVal.v (Value.slice none 0 0))])] [] [AVal.ptr 0 0, AVal.imm (u64 (0 : Int)), AVal.imm (i64 (1 : Int))]
  [(92, AVal.agg [AVal.own 1 (List.length (num (0 : Int) (1 : Int)))])] [Entry.row 5 1 (List.map u8 (num (0 : Int) (1 : Int)))] (AVal.tup []))
  (Tree.need
  ([(ls 0, 92, AVal.agg [AVal.own 1 (List.length (num (0 : Int) (1 : Int)))])] = [(ls 0, 92, AVal.agg [AVal.own 1 (List.length (flI b))])] ∧
  ELeL [Entry.row 5 1 (List.map u8 (num (0 : Int) (1 : Int)))] [Entry.row 5 1 (List.map u8 (flI b))] ∧ ALe (AVal.tup []) (AVal.tup []))
  (Tree.done Exit.ret lnil))) := by kernel_rfl
theorem g87 (l : List Int) (m : Nat) (b : Bool) (hm : m = l.length) (hl : l.length ≤ 900000) : GSpec prog 87 [(92, .agg [.own 1 m])] [(5, 1, l.map u8)] [.ptr 0 0, .imm (bo b)] [(92, .agg [.own 1 (l ++ flI b).length])] [.row 5 1 ((l ++ flI b).map u8)] (.tup []) := by
  refine GSpec.tree Proofs.Try.f87 (fun ls => T87 ls l m b) (by kernel_rfl) (by kernel_rfl) rfl fun ls => ?_
  rw [t87]
  refine ⟨fun h1 => need_sat ⟨ALeL.refl _, g77 _ _ _ _ ?_ ?_ ?_ ?_⟩ (need_sat ?_ (trivial)), fun h1 => need_sat ⟨ALeL.refl _, g77 _ _ _ _ ?_ ?_ ?_ ?_⟩ (need_sat ?_ (trivial))⟩
  all_goals first
    | assumption
    | omega
    | (subst h1; exact ⟨rfl, .refl _, .refl _⟩)
theorem g87' (b : Bool) : GSpec prog 87 [(92, .agg [.imm (.v (.slice none 0 0))])] [] [.ptr 0 0, .imm (bo b)] [(92, .agg [.own 1 (flI b).length])] [.row 5 1 ((flI b).map u8)] (.tup []) := by
  refine GSpec.tree Proofs.Try.f87 (fun ls => T87' ls b) (by kernel_rfl) (by kernel_rfl) rfl fun ls => ?_
  rw [t87']
  refine ⟨fun h1 => need_sat ⟨ALeL.refl _, g77' _ _ ?_ ?_⟩ (need_sat ?_ (trivial)), fun h1 => need_sat ⟨ALeL.refl _, g77' _ _ ?_ ?_⟩ (need_sat ?_ (trivial))⟩
  all_goals first
    | omega
    | (subst h1; exact ⟨rfl, .refl _, .refl _⟩)
end Gp
namespace Gp
theorem _root_.Go.Abs.GSpec.rw1 {P : Program} {f : FuncId} {bx : List (Nat × AVal)} {ty k : Nat} {es es2 : List IVal} {ar : List AVal} {bx2 : List (Nat × AVal)} {new : List Entry} {r : AVal} (h : GSpec P f bx [(ty, k, es)] ar bx2 new r) (e : es2 = es) : GSpec P f bx [(ty, k, es2)] ar bx2 new r := e ▸ h
abbrev w64 (x : Int) : Int := IntKind.u64.wrap x
theorem fin5 {l0 : Abs.Loc} {a b : List Int} (h : a = b) : [(l0, (92 : Nat), AVal.agg [AVal.own 1 a.length])] = [(l0, 92, AVal.agg [AVal.own 1 b.length])] ∧ ELeL [Entry.row 5 1 (a.map u8)] [Entry.row 5 1 (b.map u8)] ∧ ALe (.tup []) (.tup []) := by
  subst h; exact ⟨rfl, .refl _, .refl _⟩
theorem fin5' {l0 : Abs.Loc} {n : Nat} {es : List IVal} {a b : List Int} (hn : n = b.length) (he : es = b.map u8) (h : b = a) : [(l0, (92 : Nat), AVal.agg [AVal.own 1 n])] = [(l0, 92, AVal.agg [AVal.own 1 a.length])] ∧ ELeL [Entry.row 5 1 es] [Entry.row 5 1 (a.map u8)] ∧ ALe (.tup []) (.tup []) := by
  subst h hn he; exact ⟨rfl, .refl _, .refl _⟩
def bytesL (s : ByteArray) : List Int := s.data.toList.map fun b => (b.toNat : Int)
def hd48 (p : Pdu) : List Int := num (w64 p.session) 2
def T48 (ls : Nat → Abs.Loc) (l : List Int) (m : Nat) (p : Pdu) : Tell :=
  Tell.mk (fun x x_1 => false) (fun x x_1 => Orc.no) (fun x => Tree.fail 1000003 0) (fun x => 0) (fun x => ([], []))
  (oget
  [(3, 1, 5,
  Orc.callg [0, 1] 1 [AVal.ptr 0 0, AVal.imm (u64 (IntKind.wrap IntKind.u64 p.session)), AVal.imm (i64 (2 : Int))]
  [(92, AVal.agg [AVal.own 1 (List.length (l ++ num (IntKind.wrap IntKind.u64 p.session) (2 : Int)))])] [Entry.row 5 1 (List.map u8 (l ++ num (IntKind.wrap IntKind.u64 p.session) (2 : Int)))]
  (AVal.tup []))])
  fun x x_1 => Tree.fail 1000003 0
theorem t48 (ls : Nat → Abs.Loc) (l : List Int) (m : Nat) (p : Pdu) : levG prog Proofs.Try.f48 ls [(92, .agg [.own 1 m])] [(5, 1, l.map u8)] [.imm (encD p), .ptr 0 0] [(92, .agg [.own 1 (l ++ hd48 p).length])] [.row 5 1 ((l ++ hd48 p).map u8)] (.tup []) (T48 ls l m p) =
  Tree.need
  (ALeL [AVal.ptr 0 0, AVal.imm (IVal.v (Value.int IntKind.u64 (IntKind.wrap IntKind.u64 p.session))), AVal.imm (IVal.v (Value.int IntKind.i64 (2 : Int)))]
  [AVal.ptr 0 0, AVal.imm (u64 (IntKind.wrap IntKind.u64 p.session)), AVal.imm (i64 (2 : Int))] ∧
  GSpec prog 77 [(92, AVal.agg [AVal.own 1 m])] [(5, 1, List.map u8 l)] [AVal.ptr 0 0, AVal.imm (u64 (IntKind.wrap IntKind.u64 p.session)), AVal.imm (i64 (2 : Int))]
  [(92, AVal.agg [AVal.own 1 (List.length (l ++ num (IntKind.wrap IntKind.u64 p.session) (2 : Int)))])] [Entry.row 5 1 (List.map u8 (l ++ num (IntKind.wrap IntKind.u64 p.session) (2 : Int)))]
  (AVal.tup []))
  (Tree.need
  ([(ls 0, 92, AVal.agg [AVal.own 1 (List.length (l ++ num (IntKind.wrap IntKind.u64 p.session) (2 : Int)))])] = [(ls 0, 92, AVal.agg [AVal.own 1 (List.length (l ++ hd48 p))])] ∧
  ELeL [Entry.row 5 1 (List.map u8 (l ++ num (IntKind.wrap IntKind.u64 p.session) (2 : Int)))] [Entry.row 5 1 (List.map u8 (l ++ hd48 p))] ∧ ALe (AVal.tup []) (AVal.tup []))
  (Tree.done Exit.ret lnil)) := by kernel_rfl
theorem g48 (l : List Int) (m : Nat) (p : Pdu) (hm : m = l.length) (hl : l.length ≤ 800000) : GSpec prog 48 [(92, .agg [.own 1 m])] [(5, 1, l.map u8)] [.imm (encD p), .ptr 0 0] [(92, .agg [.own 1 (l ++ hd48 p).length])] [.row 5 1 ((l ++ hd48 p).map u8)] (.tup []) := by
  refine GSpec.tree Proofs.Try.f48 (fun ls => T48 ls l m p) (by kernel_rfl) (by kernel_rfl) rfl fun ls => ?_
  rw [t48]
  refine need_sat ⟨ALeL.refl _, g77 _ _ _ _ ?_ ?_ ?_ ?_⟩ (need_sat ?_ (trivial))
  all_goals first
    | assumption
    | omega
    | rfl
    | (simp [flI_len, num_len]; omega)
    | (have := hl; simp [flI_len, num_len] at *; omega)
    | exact ⟨rfl, .refl _, .refl _⟩
    | exact fin5 (by simp [hd48])
def hd52 (p : Pdu) : List Int := num 0 2
def T52 (ls : Nat → Abs.Loc) (l : List Int) (m : Nat) (p : Pdu) : Tell :=
  Tell.mk (fun x x_1 => false) (fun x x_1 => Orc.no) (fun x => Tree.fail 1000003 0) (fun x => 0) (fun x => ([], []))
  (oget
  [(3, 1, 1,
  Orc.callg [0, 1] 1 [AVal.ptr 0 0, AVal.imm (u64 (0 : Int)), AVal.imm (i64 (2 : Int))] [(92, AVal.agg [AVal.own 1 (List.length (l ++ num (0 : Int) (2 : Int)))])]
  [Entry.row 5 1 (List.map u8 (l ++ num (0 : Int) (2 : Int)))] (AVal.tup []))])
  fun x x_1 => Tree.fail 1000003 0
theorem t52 (ls : Nat → Abs.Loc) (l : List Int) (m : Nat) (p : Pdu) : levG prog Proofs.Try.f52 ls [(92, .agg [.own 1 m])] [(5, 1, l.map u8)] [.imm (encD p), .ptr 0 0] [(92, .agg [.own 1 (l ++ hd52 p).length])] [.row 5 1 ((l ++ hd52 p).map u8)] (.tup []) (T52 ls l m p) =
  Tree.need
  (ALeL [AVal.ptr 0 0, AVal.imm (IVal.v (Value.int IntKind.u64 (0 : Int))), AVal.imm (IVal.v (Value.int IntKind.i64 (2 : Int)))] [AVal.ptr 0 0, AVal.imm (u64 (0 : Int)), AVal.imm (i64 (2 : Int))] ∧
  GSpec prog 77 [(92, AVal.agg [AVal.own 1 m])] [(5, 1, List.map u8 l)] [AVal.ptr 0 0, AVal.imm (u64 (0 : Int)), AVal.imm (i64 (2 : Int))]
  [(92, AVal.agg [AVal.own 1 (List.length (l ++ num (0 : Int) (2 : Int)))])] [Entry.row 5 1 (List.map u8 (l ++ num (0 : Int) (2 : Int)))] (AVal.tup []))
  (Tree.need
  ([(ls 0, 92, AVal.agg [AVal.own 1 (List.length (l ++ num (0 : Int) (2 : Int)))])] = [(ls 0, 92, AVal.agg [AVal.own 1 (List.length (l ++ hd52 p))])] ∧
  ELeL [Entry.row 5 1 (List.map u8 (l ++ num (0 : Int) (2 : Int)))] [Entry.row 5 1 (List.map u8 (l ++ hd52 p))] ∧ ALe (AVal.tup []) (AVal.tup []))
  (Tree.done Exit.ret lnil)) := by kernel_rfl
theorem g52 (l : List Int) (m : Nat) (p : Pdu) (hm : m = l.length) (hl : l.length ≤ 800000) : GSpec prog 52 [(92, .agg [.own 1 m])] [(5, 1, l.map u8)] [.imm (encD p), .ptr 0 0] [(92, .agg [.own 1 (l ++ hd52 p).length])] [.row 5 1 ((l ++ hd52 p).map u8)] (.tup []) := by
  refine GSpec.tree Proofs.Try.f52 (fun ls => T52 ls l m p) (by kernel_rfl) (by kernel_rfl) rfl fun ls => ?_
  rw [t52]
  refine need_sat ⟨ALeL.refl _, g77 _ _ _ _ ?_ ?_ ?_ ?_⟩ (need_sat ?_ (trivial))
  all_goals first
    | assumption
    | omega
    | rfl
    | (simp [flI_len, num_len]; omega)
    | (have := hl; simp [flI_len, num_len] at *; omega)
    | exact ⟨rfl, .refl _, .refl _⟩
    | exact fin5 (by simp [hd52])
def hd63 (p : Pdu) : List Int := flI p.add ++ num 0 1
def T63 (ls : Nat → Abs.Loc) (l : List Int) (m : Nat) (p : Pdu) : Tell :=
  Tell.mk (fun x x_1 => false) (fun x x_1 => Orc.no) (fun x => Tree.fail 1000003 0) (fun x => 0) (fun x => ([], []))
  (oget
  [(3, 1, 4,
  Orc.callg [0, 1] 1 [AVal.ptr 0 0, AVal.imm (bo p.add)] [(92, AVal.agg [AVal.own 1 (List.length (l ++ flI p.add))])]
  [Entry.row 5 1 (List.map u8 (l ++ flI p.add))] (AVal.tup [])),
  (9, 2, 1,
  Orc.callg [0, 7] 1 [AVal.ptr 0 0, AVal.imm (u64 (0 : Int)), AVal.imm (i64 (1 : Int))] [(92, AVal.agg [AVal.own 1 (List.length (l ++ flI p.add ++ num (0 : Int) (1 : Int)))])]
  [Entry.row 5 1 (List.map u8 (l ++ flI p.add ++ num (0 : Int) (1 : Int)))] (AVal.tup []))])
  fun x x_1 => Tree.fail 1000003 0
theorem t63 (ls : Nat → Abs.Loc) (l : List Int) (m : Nat) (p : Pdu) : levG prog Proofs.Try.f63 ls [(92, .agg [.own 1 m])] [(5, 1, l.map u8)] [.imm (encD p), .ptr 0 0] [(92, .agg [.own 1 (l ++ hd63 p).length])] [.row 5 1 ((l ++ hd63 p).map u8)] (.tup []) (T63 ls l m p) =
  Tree.need
  (ALeL [AVal.ptr 0 0, AVal.imm (bo p.add)] [AVal.ptr 0 0, AVal.imm (bo p.add)] ∧
  GSpec prog 87 [(92, AVal.agg [AVal.own 1 m])] [(5, 1, List.map u8 l)] [AVal.ptr 0 0, AVal.imm (bo p.add)]
  [(92, AVal.agg [AVal.own 1 (List.length (l ++ flI p.add))])] [Entry.row 5 1 (List.map u8 (l ++ flI p.add))] (AVal.tup []))
  (Tree.need
  (ALeL [AVal.ptr 0 0, AVal.imm (IVal.v (Value.int IntKind.u64 (0 : Int))), AVal.imm (IVal.v (Value.int IntKind.i64 (1 : Int)))] [AVal.ptr 0 0, AVal.imm (u64 (0 : Int)), AVal.imm (i64 (1 : Int))] ∧
  GSpec prog 77 [(92, AVal.agg [AVal.own 1 (List.length (l ++ flI p.add))])] [(5, 1, List.map u8 (l ++ flI p.add))]
  [AVal.ptr 0 0, AVal.imm (u64 (0 : Int)), AVal.imm (i64 (1 : Int))] [(92, AVal.agg [AVal.own 1 (List.length (l ++ flI p.add ++ num (0 : Int) (1 : Int)))])]
  [Entry.row 5 1 (List.map u8 (l ++ flI p.add ++ num (0 : Int) (1 : Int)))] (AVal.tup []))
  (Tree.need
  ([(ls 0, 92, AVal.agg [AVal.own 1 (List.length (l ++ flI p.add ++ num (0 : Int) (1 : Int)))])] = [(ls 0, 92, AVal.agg [AVal.own 1 (List.length (l ++ hd63 p))])] ∧
  ELeL [Entry.row 5 1 (List.map u8 (l ++ flI p.add ++ num (0 : Int) (1 : Int)))] [Entry.row 5 1 (List.map u8 (l ++ hd63 p))] ∧ ALe (AVal.tup []) (AVal.tup []))
  (Tree.done Exit.ret lnil))) := by kernel_rfl
theorem g63 (l : List Int) (m : Nat) (p : Pdu) (hm : m = l.length) (hl : l.length ≤ 800000) : GSpec prog 63 [(92, .agg [.own 1 m])] [(5, 1, l.map u8)] [.imm (encD p), .ptr 0 0] [(92, .agg [.own 1 (l ++ hd63 p).length])] [.row 5 1 ((l ++ hd63 p).map u8)] (.tup []) := by
  refine GSpec.tree Proofs.Try.f63 (fun ls => T63 ls l m p) (by kernel_rfl) (by kernel_rfl) rfl fun ls => ?_
  rw [t63]
  refine need_sat ⟨ALeL.refl _, g87 _ _ _ ?_ ?_⟩ (need_sat ⟨ALeL.refl _, g77 _ _ _ _ ?_ ?_ ?_ ?_⟩ (need_sat ?_ (trivial)))
  all_goals first
    | assumption
    | omega
    | rfl
    | (simp [flI_len, num_len]; omega)
    | (have := hl; simp [flI_len, num_len] at *; omega)
    | exact ⟨rfl, .refl _, .refl _⟩
    | exact fin5 (by simp [hd63])
def hd68 (p : Pdu) : List Int := num (w64 p.code) 2
def T68 (ls : Nat → Abs.Loc) (l : List Int) (m : Nat) (p : Pdu) : Tell :=
  Tell.mk (fun x x_1 => false) (fun x x_1 => Orc.no) (fun x => Tree.fail 1000003 0) (fun x => 0) (fun x => ([], []))
  (oget
  [(3, 1, 5,
  Orc.callg [0, 1] 1 [AVal.ptr 0 0, AVal.imm (u64 (IntKind.wrap IntKind.u64 p.code)), AVal.imm (i64 (2 : Int))]
  [(92, AVal.agg [AVal.own 1 (List.length (l ++ num (IntKind.wrap IntKind.u64 p.code) (2 : Int)))])] [Entry.row 5 1 (List.map u8 (l ++ num (IntKind.wrap IntKind.u64 p.code) (2 : Int)))]
  (AVal.tup []))])
  fun x x_1 => Tree.fail 1000003 0
theorem t68 (ls : Nat → Abs.Loc) (l : List Int) (m : Nat) (p : Pdu) : levG prog Proofs.Try.f68 ls [(92, .agg [.own 1 m])] [(5, 1, l.map u8)] [.imm (encD p), .ptr 0 0] [(92, .agg [.own 1 (l ++ hd68 p).length])] [.row 5 1 ((l ++ hd68 p).map u8)] (.tup []) (T68 ls l m p) =
  Tree.need
  (ALeL [AVal.ptr 0 0, AVal.imm (IVal.v (Value.int IntKind.u64 (IntKind.wrap IntKind.u64 p.code))), AVal.imm (IVal.v (Value.int IntKind.i64 (2 : Int)))]
  [AVal.ptr 0 0, AVal.imm (u64 (IntKind.wrap IntKind.u64 p.code)), AVal.imm (i64 (2 : Int))] ∧
  GSpec prog 77 [(92, AVal.agg [AVal.own 1 m])] [(5, 1, List.map u8 l)] [AVal.ptr 0 0, AVal.imm (u64 (IntKind.wrap IntKind.u64 p.code)), AVal.imm (i64 (2 : Int))]
  [(92, AVal.agg [AVal.own 1 (List.length (l ++ num (IntKind.wrap IntKind.u64 p.code) (2 : Int)))])] [Entry.row 5 1 (List.map u8 (l ++ num (IntKind.wrap IntKind.u64 p.code) (2 : Int)))] (AVal.tup []))
  (Tree.need
  ([(ls 0, 92, AVal.agg [AVal.own 1 (List.length (l ++ num (IntKind.wrap IntKind.u64 p.code) (2 : Int)))])] = [(ls 0, 92, AVal.agg [AVal.own 1 (List.length (l ++ hd68 p))])] ∧
  ELeL [Entry.row 5 1 (List.map u8 (l ++ num (IntKind.wrap IntKind.u64 p.code) (2 : Int)))] [Entry.row 5 1 (List.map u8 (l ++ hd68 p))] ∧ ALe (AVal.tup []) (AVal.tup []))
  (Tree.done Exit.ret lnil)) := by kernel_rfl
theorem g68 (l : List Int) (m : Nat) (p : Pdu) (hm : m = l.length) (hl : l.length ≤ 800000) : GSpec prog 68 [(92, .agg [.own 1 m])] [(5, 1, l.map u8)] [.imm (encD p), .ptr 0 0] [(92, .agg [.own 1 (l ++ hd68 p).length])] [.row 5 1 ((l ++ hd68 p).map u8)] (.tup []) := by
  refine GSpec.tree Proofs.Try.f68 (fun ls => T68 ls l m p) (by kernel_rfl) (by kernel_rfl) rfl fun ls => ?_
  rw [t68]
  refine need_sat ⟨ALeL.refl _, g77 _ _ _ _ ?_ ?_ ?_ ?_⟩ (need_sat ?_ (trivial))
  all_goals first
    | assumption
    | omega
    | rfl
    | (simp [flI_len, num_len]; omega)
    | (have := hl; simp [flI_len, num_len] at *; omega)
    | exact ⟨rfl, .refl _, .refl _⟩
    | exact fin5 (by simp [hd68])
def rs49 (p : Pdu) : List Int := num (w64 p.serial) 4
def T49 (ls : Nat → Abs.Loc) (p : Pdu) : Tell :=
  Tell.mk (fun x x_1 => false) (fun x x_1 => Orc.no) (fun x => Tree.fail 1000003 0) (fun x => 0) (fun x => ([], []))
  (oget
  [(2, 1, 5,
  Orc.callg [0] 1 [AVal.ptr 0 0, AVal.imm (u64 (IntKind.wrap IntKind.u64 p.serial)), AVal.imm (i64 (4 : Int))]
  [(92, AVal.agg [AVal.own 1 (List.length (num (IntKind.wrap IntKind.u64 p.serial) (4 : Int)))])] [Entry.row 5 1 (List.map u8 (num (IntKind.wrap IntKind.u64 p.serial) (4 : Int)))] (AVal.tup []))])
  fun x x_1 => Tree.fail 1000003 0
theorem t49 (ls : Nat → Abs.Loc) (p : Pdu) : levG prog Proofs.Try.f49 ls [(92, .agg [.imm (.v (.slice none 0 0))])] [] [.imm (encD p), .ptr 0 0] [(92, .agg [.own 1 (rs49 p).length])] [.row 5 1 ((rs49 p).map u8)] (.tup []) (T49 ls p) =
  Tree.need
  (ALeL [AVal.ptr 0 0, AVal.imm (IVal.v (Value.int IntKind.u64 (IntKind.wrap IntKind.u64 p.serial))), AVal.imm (IVal.v (Value.int IntKind.i64 (4 : Int)))]
  [AVal.ptr 0 0, AVal.imm (u64 (IntKind.wrap IntKind.u64 p.serial)), AVal.imm (i64 (4 : Int))] ∧
  GSpec prog 77 [(92, AVal.agg [AVal.imm (IVal.v (Value.slice none 0 0))])] [] [AVal.ptr 0 0, AVal.imm (u64 (IntKind.wrap IntKind.u64 p.serial)), AVal.imm (i64 (4 : Int))]
  [(92, AVal.agg [AVal.own 1 (List.length (num (IntKind.wrap IntKind.u64 p.serial) (4 : Int)))])] [Entry.row 5 1 (List.map u8 (num (IntKind.wrap IntKind.u64 p.serial) (4 : Int)))] (AVal.tup []))
  (Tree.need
  ([(ls 0, 92, AVal.agg [AVal.own 1 (List.length (num (IntKind.wrap IntKind.u64 p.serial) (4 : Int)))])] = [(ls 0, 92, AVal.agg [AVal.own 1 (List.length (rs49 p))])] ∧
  ELeL [Entry.row 5 1 (List.map u8 (num (IntKind.wrap IntKind.u64 p.serial) (4 : Int)))] [Entry.row 5 1 (List.map u8 (rs49 p))] ∧ ALe (AVal.tup []) (AVal.tup []))
  (Tree.done Exit.ret lnil)) := by kernel_rfl
theorem g49 (p : Pdu) : GSpec prog 49 [(92, .agg [.imm (.v (.slice none 0 0))])] [] [.imm (encD p), .ptr 0 0] [(92, .agg [.own 1 (rs49 p).length])] [.row 5 1 ((rs49 p).map u8)] (.tup []) := by
  refine GSpec.tree Proofs.Try.f49 (fun ls => T49 ls p) (by kernel_rfl) (by kernel_rfl) rfl fun ls => ?_
  rw [t49]
  refine need_sat ⟨ALeL.refl _, g77' _ _ ?_ ?_⟩ (need_sat ?_ (trivial))
  all_goals try first
    | omega
    | rfl
    | (simp [flI_len, num_len, rs49]; done)
    | (simp [flI_len, num_len, rs49]; omega)
    | (simp only [decide_eq_true_eq, decide_eq_false_iff_not] at *; exfalso; omega)
    | exact ⟨rfl, .refl _, .refl _⟩
def rs57 (p : Pdu) : List Int := flI p.add ++ num (w64 p.origin.pfx.len) 1 ++ num (w64 p.origin.max) 1 ++ num 0 1 ++ (if p.kind = 6 then num p.origin.pfx.addr.hi 8 ++ num p.origin.pfx.addr.lo 8 else num p.origin.pfx.addr.lo 4) ++ num (w64 p.origin.asn) 4
def T57 (ls : Nat → Abs.Loc) (p : Pdu) : Tell :=
  Tell.mk (fun x x_1 => false) (fun x x_1 => Orc.no) (fun x => Tree.fail 1000003 0) (fun x => 0) (fun x => ([], []))
  (oget
  [(2, 1, 4,
  Orc.callg [0] 1 [AVal.ptr 0 0, AVal.imm (bo p.add)] [(92, AVal.agg [AVal.own 1 (List.length (flI p.add))])] [Entry.row 5 1 (List.map u8 (flI p.add))] (AVal.tup [])),
  (8, 2, 7,
  Orc.callg [0, 6] 1 [AVal.ptr 0 0, AVal.imm (u64 (IntKind.wrap IntKind.u64 p.origin.pfx.len)), AVal.imm (i64 (1 : Int))]
  [(92, AVal.agg [AVal.own 1 (List.length (flI p.add ++ num (IntKind.wrap IntKind.u64 p.origin.pfx.len) (1 : Int)))])]
  [Entry.row 5 1 (List.map u8 (flI p.add ++ num (IntKind.wrap IntKind.u64 p.origin.pfx.len) (1 : Int)))] (AVal.tup [])),
  (17, 3, 6,
  Orc.callg [0, 15] 1 [AVal.ptr 0 0, AVal.imm (u64 (IntKind.wrap IntKind.u64 p.origin.max)), AVal.imm (i64 (1 : Int))]
  [(92, AVal.agg [AVal.own 1 (List.length (flI p.add ++ num (IntKind.wrap IntKind.u64 p.origin.pfx.len) (1 : Int) ++ num (IntKind.wrap IntKind.u64 p.origin.max) (1 : Int)))])]
  [Entry.row 5 1 (List.map u8 (flI p.add ++ num (IntKind.wrap IntKind.u64 p.origin.pfx.len) (1 : Int) ++ num (IntKind.wrap IntKind.u64 p.origin.max) (1 : Int)))] (AVal.tup [])),
  (25, 4, 1,
  Orc.callg [0, 23] 1 [AVal.ptr 0 0, AVal.imm (u64 (0 : Int)), AVal.imm (i64 (1 : Int))]
  [(92, AVal.agg [AVal.own 1 (List.length (flI p.add ++ num (IntKind.wrap IntKind.u64 p.origin.pfx.len) (1 : Int) ++ num (IntKind.wrap IntKind.u64 p.origin.max) (1 : Int) ++ num (0 : Int) (1 : Int)))])]
  [Entry.row 5 1 (List.map u8 (flI p.add ++ num (IntKind.wrap IntKind.u64 p.origin.pfx.len) (1 : Int) ++ num (IntKind.wrap IntKind.u64 p.origin.max) (1 : Int) ++ num (0 : Int) (1 : Int)))] (AVal.tup [])),
  (32, 6, 7,
  Orc.callg [0, 26] 1 [AVal.ptr 0 0, AVal.imm (u64 p.origin.pfx.addr.hi), AVal.imm (i64 (8 : Int))]
  [(92,
  AVal.agg
  [AVal.own 1
  (List.length (flI p.add ++ num (IntKind.wrap IntKind.u64 p.origin.pfx.len) (1 : Int) ++ num (IntKind.wrap IntKind.u64 p.origin.max) (1 : Int) ++ num (0 : Int) (1 : Int) ++ num p.origin.pfx.addr.hi (8 : Int)))])]
  [Entry.row 5 1
  (List.map u8 (flI p.add ++ num (IntKind.wrap IntKind.u64 p.origin.pfx.len) (1 : Int) ++ num (IntKind.wrap IntKind.u64 p.origin.max) (1 : Int) ++ num (0 : Int) (1 : Int) ++ num p.origin.pfx.addr.hi (8 : Int)))]
  (AVal.tup [])),
  (32, 8, 7,
  Orc.callg [0, 26] 1 [AVal.ptr 0 0, AVal.imm (u64 p.origin.pfx.addr.lo), AVal.imm (i64 (4 : Int))]
  [(92,
  AVal.agg
  [AVal.own 1
  (List.length (flI p.add ++ num (IntKind.wrap IntKind.u64 p.origin.pfx.len) (1 : Int) ++ num (IntKind.wrap IntKind.u64 p.origin.max) (1 : Int) ++ num (0 : Int) (1 : Int) ++ num p.origin.pfx.addr.lo (4 : Int)))])]
  [Entry.row 5 1
  (List.map u8 (flI p.add ++ num (IntKind.wrap IntKind.u64 p.origin.pfx.len) (1 : Int) ++ num (IntKind.wrap IntKind.u64 p.origin.max) (1 : Int) ++ num (0 : Int) (1 : Int) ++ num p.origin.pfx.addr.lo (4 : Int)))]
  (AVal.tup [])),
  (41, 7, 7,
  Orc.callg [0, 39] 1 [AVal.ptr 0 0, AVal.imm (u64 p.origin.pfx.addr.lo), AVal.imm (i64 (8 : Int))]
  [(92,
  AVal.agg
  [AVal.own 1
  (List.length
  (flI p.add ++ num (IntKind.wrap IntKind.u64 p.origin.pfx.len) (1 : Int) ++ num (IntKind.wrap IntKind.u64 p.origin.max) (1 : Int) ++ num (0 : Int) (1 : Int) ++ num p.origin.pfx.addr.hi (8 : Int) ++
  num p.origin.pfx.addr.lo (8 : Int)))])]
  [Entry.row 5 1
  (List.map u8
  (flI p.add ++ num (IntKind.wrap IntKind.u64 p.origin.pfx.len) (1 : Int) ++ num (IntKind.wrap IntKind.u64 p.origin.max) (1 : Int) ++ num (0 : Int) (1 : Int) ++ num p.origin.pfx.addr.hi (8 : Int) ++
  num p.origin.pfx.addr.lo (8 : Int)))]
  (AVal.tup [])),
  (41, 9, 6,
  Orc.callg [0, 39] 1 [AVal.ptr 0 0, AVal.imm (u64 (IntKind.wrap IntKind.u64 p.origin.asn)), AVal.imm (i64 (4 : Int))]
  [(92,
  AVal.agg
  [AVal.own 1
  (List.length
  (flI p.add ++ num (IntKind.wrap IntKind.u64 p.origin.pfx.len) (1 : Int) ++ num (IntKind.wrap IntKind.u64 p.origin.max) (1 : Int) ++ num (0 : Int) (1 : Int) ++ num p.origin.pfx.addr.lo (4 : Int) ++
  num (IntKind.wrap IntKind.u64 p.origin.asn) (4 : Int)))])]
  [Entry.row 5 1
  (List.map u8
  (flI p.add ++ num (IntKind.wrap IntKind.u64 p.origin.pfx.len) (1 : Int) ++ num (IntKind.wrap IntKind.u64 p.origin.max) (1 : Int) ++ num (0 : Int) (1 : Int) ++ num p.origin.pfx.addr.lo (4 : Int) ++
  num (IntKind.wrap IntKind.u64 p.origin.asn) (4 : Int)))]
  (AVal.tup [])),
  (50, 9, 6,
  Orc.callg [0, 48] 1 [AVal.ptr 0 0, AVal.imm (u64 (IntKind.wrap IntKind.u64 p.origin.asn)), AVal.imm (i64 (4 : Int))]
  [(92,
  AVal.agg
  [AVal.own 1
  (List.length
  (flI p.add ++ num (IntKind.wrap IntKind.u64 p.origin.pfx.len) (1 : Int) ++ num (IntKind.wrap IntKind.u64 p.origin.max) (1 : Int) ++ num (0 : Int) (1 : Int) ++ num p.origin.pfx.addr.hi (8 : Int) ++
  num p.origin.pfx.addr.lo (8 : Int) ++
  num (IntKind.wrap IntKind.u64 p.origin.asn) (4 : Int)))])]
  [Entry.row 5 1
  (List.map u8
  (flI p.add ++ num (IntKind.wrap IntKind.u64 p.origin.pfx.len) (1 : Int) ++ num (IntKind.wrap IntKind.u64 p.origin.max) (1 : Int) ++ num (0 : Int) (1 : Int) ++ num p.origin.pfx.addr.hi (8 : Int) ++
  num p.origin.pfx.addr.lo (8 : Int) ++
  num (IntKind.wrap IntKind.u64 p.origin.asn) (4 : Int)))]
  (AVal.tup []))])
  fun x x_1 => Tree.fail 1000003 0
theorem t57 (ls : Nat → Abs.Loc) (p : Pdu) : levG prog Proofs.Try.f57 ls [(92, .agg [.imm (.v (.slice none 0 0))])] [] [.imm (encD p), .ptr 0 0] [(92, .agg [.own 1 (rs57 p).length])] [.row 5 1 ((rs57 p).map u8)] (.tup []) (T57 ls p) =
  Tree.need
  (ALeL [AVal.ptr 0 0, AVal.imm (bo p.add)] [AVal.ptr 0 0, AVal.imm (bo p.add)] ∧
  GSpec prog 87 [(92, AVal.agg [AVal.imm (IVal.v (Value.slice none 0 0))])] [] [AVal.ptr 0 0, AVal.imm (bo p.add)] [(92, AVal.agg [AVal.own 1 (List.length (flI p.add))])]
  [Entry.row 5 1 (List.map u8 (flI p.add))] (AVal.tup []))
  (Tree.need
  (ALeL [AVal.ptr 0 0, AVal.imm (IVal.v (Value.int IntKind.u64 (IntKind.wrap IntKind.u64 p.origin.pfx.len))), AVal.imm (IVal.v (Value.int IntKind.i64 (1 : Int)))]
  [AVal.ptr 0 0, AVal.imm (u64 (IntKind.wrap IntKind.u64 p.origin.pfx.len)), AVal.imm (i64 (1 : Int))] ∧
  GSpec prog 77 [(92, AVal.agg [AVal.own 1 (List.length (flI p.add))])] [(5, 1, List.map u8 (flI p.add))]
  [AVal.ptr 0 0, AVal.imm (u64 (IntKind.wrap IntKind.u64 p.origin.pfx.len)), AVal.imm (i64 (1 : Int))]
  [(92, AVal.agg [AVal.own 1 (List.length (flI p.add ++ num (IntKind.wrap IntKind.u64 p.origin.pfx.len) (1 : Int)))])]
  [Entry.row 5 1 (List.map u8 (flI p.add ++ num (IntKind.wrap IntKind.u64 p.origin.pfx.len) (1 : Int)))] (AVal.tup []))
  (Tree.need
  (ALeL [AVal.ptr 0 0, AVal.imm (IVal.v (Value.int IntKind.u64 (IntKind.wrap IntKind.u64 p.origin.max))), AVal.imm (IVal.v (Value.int IntKind.i64 (1 : Int)))]
  [AVal.ptr 0 0, AVal.imm (u64 (IntKind.wrap IntKind.u64 p.origin.max)), AVal.imm (i64 (1 : Int))] ∧
  GSpec prog 77 [(92, AVal.agg [AVal.own 1 (List.length (flI p.add ++ num (IntKind.wrap IntKind.u64 p.origin.pfx.len) (1 : Int)))])]
  [(5, 1, List.map u8 (flI p.add ++ num (IntKind.wrap IntKind.u64 p.origin.pfx.len) (1 : Int)))] [AVal.ptr 0 0, AVal.imm (u64 (IntKind.wrap IntKind.u64 p.origin.max)), AVal.imm (i64 (1 : Int))]
  [(92, AVal.agg [AVal.own 1 (List.length (flI p.add ++ num (IntKind.wrap IntKind.u64 p.origin.pfx.len) (1 : Int) ++ num (IntKind.wrap IntKind.u64 p.origin.max) (1 : Int)))])]
  [Entry.row 5 1 (List.map u8 (flI p.add ++ num (IntKind.wrap IntKind.u64 p.origin.pfx.len) (1 : Int) ++ num (IntKind.wrap IntKind.u64 p.origin.max) (1 : Int)))] (AVal.tup []))
  (Tree.need
  (ALeL [AVal.ptr 0 0, AVal.imm (IVal.v (Value.int IntKind.u64 (0 : Int))), AVal.imm (IVal.v (Value.int IntKind.i64 (1 : Int)))] [AVal.ptr 0 0, AVal.imm (u64 (0 : Int)), AVal.imm (i64 (1 : Int))] ∧
  GSpec prog 77 [(92, AVal.agg [AVal.own 1 (List.length (flI p.add ++ num (IntKind.wrap IntKind.u64 p.origin.pfx.len) (1 : Int) ++ num (IntKind.wrap IntKind.u64 p.origin.max) (1 : Int)))])]
  [(5, 1, List.map u8 (flI p.add ++ num (IntKind.wrap IntKind.u64 p.origin.pfx.len) (1 : Int) ++ num (IntKind.wrap IntKind.u64 p.origin.max) (1 : Int)))]
  [AVal.ptr 0 0, AVal.imm (u64 (0 : Int)), AVal.imm (i64 (1 : Int))]
  [(92, AVal.agg [AVal.own 1 (List.length (flI p.add ++ num (IntKind.wrap IntKind.u64 p.origin.pfx.len) (1 : Int) ++ num (IntKind.wrap IntKind.u64 p.origin.max) (1 : Int) ++ num (0 : Int) (1 : Int)))])]
  [Entry.row 5 1 (List.map u8 (flI p.add ++ num (IntKind.wrap IntKind.u64 p.origin.pfx.len) (1 : Int) ++ num (IntKind.wrap IntKind.u64 p.origin.max) (1 : Int) ++ num (0 : Int) (1 : Int)))] (AVal.tup []))
  (Tree.br (decide (p.kind = (6 : Int)))
  (Tree.need
  (ALeL [AVal.ptr 0 0, AVal.imm (u64 p.origin.pfx.addr.hi), AVal.imm (IVal.v (Value.int IntKind.i64 (8 : Int)))] [AVal.ptr 0 0, AVal.imm (u64 p.origin.pfx.addr.hi), AVal.imm (i64 (8 : Int))] ∧
  GSpec prog 77
  [(92, AVal.agg [AVal.own 1 (List.length (flI p.add ++ num (IntKind.wrap IntKind.u64 p.origin.pfx.len) (1 : Int) ++ num (IntKind.wrap IntKind.u64 p.origin.max) (1 : Int) ++ num (0 : Int) (1 : Int)))])]
  [(5, 1, List.map u8 (flI p.add ++ num (IntKind.wrap IntKind.u64 p.origin.pfx.len) (1 : Int) ++ num (IntKind.wrap IntKind.u64 p.origin.max) (1 : Int) ++ num (0 : Int) (1 : Int)))]
  [AVal.ptr 0 0, AVal.imm (u64 p.origin.pfx.addr.hi), AVal.imm (i64 (8 : Int))]
  [(92,
  AVal.agg
  [AVal.own 1
  (List.length (flI p.add ++ num (IntKind.wrap IntKind.u64 p.origin.pfx.len) (1 : Int) ++ num (IntKind.wrap IntKind.u64 p.origin.max) (1 : Int) ++ num (0 : Int) (1 : Int) ++ num p.origin.pfx.addr.hi (8 : Int)))])]
  [Entry.row 5 1
  (List.map u8 (flI p.add ++ num (IntKind.wrap IntKind.u64 p.origin.pfx.len) (1 : Int) ++ num (IntKind.wrap IntKind.u64 p.origin.max) (1 : Int) ++ num (0 : Int) (1 : Int) ++ num p.origin.pfx.addr.hi (8 : Int)))]
  (AVal.tup []))
  (Tree.need
  (ALeL [AVal.ptr 0 0, AVal.imm (u64 p.origin.pfx.addr.lo), AVal.imm (IVal.v (Value.int IntKind.i64 (8 : Int)))] [AVal.ptr 0 0, AVal.imm (u64 p.origin.pfx.addr.lo), AVal.imm (i64 (8 : Int))] ∧
  GSpec prog 77
  [(92,
  AVal.agg
  [AVal.own 1
  (List.length (flI p.add ++ num (IntKind.wrap IntKind.u64 p.origin.pfx.len) (1 : Int) ++ num (IntKind.wrap IntKind.u64 p.origin.max) (1 : Int) ++ num (0 : Int) (1 : Int) ++ num p.origin.pfx.addr.hi (8 : Int)))])]
  [(5, 1,
  List.map u8 (flI p.add ++ num (IntKind.wrap IntKind.u64 p.origin.pfx.len) (1 : Int) ++ num (IntKind.wrap IntKind.u64 p.origin.max) (1 : Int) ++ num (0 : Int) (1 : Int) ++ num p.origin.pfx.addr.hi (8 : Int)))]
  [AVal.ptr 0 0, AVal.imm (u64 p.origin.pfx.addr.lo), AVal.imm (i64 (8 : Int))]
  [(92,
  AVal.agg
  [AVal.own 1
  (List.length
  (flI p.add ++ num (IntKind.wrap IntKind.u64 p.origin.pfx.len) (1 : Int) ++ num (IntKind.wrap IntKind.u64 p.origin.max) (1 : Int) ++ num (0 : Int) (1 : Int) ++ num p.origin.pfx.addr.hi (8 : Int) ++
  num p.origin.pfx.addr.lo (8 : Int)))])]
  [Entry.row 5 1
  (List.map u8
  (flI p.add ++ num (IntKind.wrap IntKind.u64 p.origin.pfx.len) (1 : Int) ++ num (IntKind.wrap IntKind.u64 p.origin.max) (1 : Int) ++ num (0 : Int) (1 : Int) ++ num p.origin.pfx.addr.hi (8 : Int) ++
  num p.origin.pfx.addr.lo (8 : Int)))]
  (AVal.tup []))
  (Tree.need
  (ALeL [AVal.ptr 0 0, AVal.imm (IVal.v (Value.int IntKind.u64 (IntKind.wrap IntKind.u64 p.origin.asn))), AVal.imm (IVal.v (Value.int IntKind.i64 (4 : Int)))]
  [AVal.ptr 0 0, AVal.imm (u64 (IntKind.wrap IntKind.u64 p.origin.asn)), AVal.imm (i64 (4 : Int))] ∧
  GSpec prog 77
  [(92,
  AVal.agg
  [AVal.own 1
  (List.length
  (flI p.add ++ num (IntKind.wrap IntKind.u64 p.origin.pfx.len) (1 : Int) ++ num (IntKind.wrap IntKind.u64 p.origin.max) (1 : Int) ++ num (0 : Int) (1 : Int) ++ num p.origin.pfx.addr.hi (8 : Int) ++
  num p.origin.pfx.addr.lo (8 : Int)))])]
  [(5, 1,
  List.map u8
  (flI p.add ++ num (IntKind.wrap IntKind.u64 p.origin.pfx.len) (1 : Int) ++ num (IntKind.wrap IntKind.u64 p.origin.max) (1 : Int) ++ num (0 : Int) (1 : Int) ++ num p.origin.pfx.addr.hi (8 : Int) ++
  num p.origin.pfx.addr.lo (8 : Int)))]
  [AVal.ptr 0 0, AVal.imm (u64 (IntKind.wrap IntKind.u64 p.origin.asn)), AVal.imm (i64 (4 : Int))]
  [(92,
  AVal.agg
  [AVal.own 1
  (List.length
  (flI p.add ++ num (IntKind.wrap IntKind.u64 p.origin.pfx.len) (1 : Int) ++ num (IntKind.wrap IntKind.u64 p.origin.max) (1 : Int) ++ num (0 : Int) (1 : Int) ++ num p.origin.pfx.addr.hi (8 : Int) ++
  num p.origin.pfx.addr.lo (8 : Int) ++
  num (IntKind.wrap IntKind.u64 p.origin.asn) (4 : Int)))])]
  [Entry.row 5 1
  (List.map u8
  (flI p.add ++ num (IntKind.wrap IntKind.u64 p.origin.pfx.len) (1 : Int) ++ num (IntKind.wrap IntKind.u64 p.origin.max) (1 : Int) ++ num (0 : Int) (1 : Int) ++ num p.origin.pfx.addr.hi (8 : Int) ++
  num p.origin.pfx.addr.lo (8 : Int) ++
  num (IntKind.wrap IntKind.u64 p.origin.asn) (4 : Int)))]
  (AVal.tup []))
  (Tree.need
  ([(ls 0, 92,
  AVal.agg
  [AVal.own 1
  (List.length
  (flI p.add ++ num (IntKind.wrap IntKind.u64 p.origin.pfx.len) (1 : Int) ++ num (IntKind.wrap IntKind.u64 p.origin.max) (1 : Int) ++ num (0 : Int) (1 : Int) ++ num p.origin.pfx.addr.hi (8 : Int) ++
  num p.origin.pfx.addr.lo (8 : Int) ++
  num (IntKind.wrap IntKind.u64 p.origin.asn) (4 : Int)))])] =
  [(ls 0, 92, AVal.agg [AVal.own 1 (List.length (rs57 p))])] ∧
  ELeL
  [Entry.row 5 1
  (List.map u8
  (flI p.add ++ num (IntKind.wrap IntKind.u64 p.origin.pfx.len) (1 : Int) ++ num (IntKind.wrap IntKind.u64 p.origin.max) (1 : Int) ++ num (0 : Int) (1 : Int) ++ num p.origin.pfx.addr.hi (8 : Int) ++
  num p.origin.pfx.addr.lo (8 : Int) ++
  num (IntKind.wrap IntKind.u64 p.origin.asn) (4 : Int)))]
  [Entry.row 5 1 (List.map u8 (rs57 p))] ∧
  ALe (AVal.tup []) (AVal.tup []))
  (Tree.done Exit.ret lnil)))))
  (Tree.need
  (ALeL [AVal.ptr 0 0, AVal.imm (u64 p.origin.pfx.addr.lo), AVal.imm (IVal.v (Value.int IntKind.i64 (4 : Int)))] [AVal.ptr 0 0, AVal.imm (u64 p.origin.pfx.addr.lo), AVal.imm (i64 (4 : Int))] ∧
  GSpec prog 77
  [(92, AVal.agg [AVal.own 1 (List.length (flI p.add ++ num (IntKind.wrap IntKind.u64 p.origin.pfx.len) (1 : Int) ++ num (IntKind.wrap IntKind.u64 p.origin.max) (1 : Int) ++ num (0 : Int) (1 : Int)))])]
  [(5, 1, List.map u8 (flI p.add ++ num (IntKind.wrap IntKind.u64 p.origin.pfx.len) (1 : Int) ++ num (IntKind.wrap IntKind.u64 p.origin.max) (1 : Int) ++ num (0 : Int) (1 : Int)))]
  [AVal.ptr 0 0, AVal.imm (u64 p.origin.pfx.addr.lo), AVal.imm (i64 (4 : Int))]
  [(92,
  AVal.agg
  [AVal.own 1
  (List.length (flI p.add ++ num (IntKind.wrap IntKind.u64 p.origin.pfx.len) (1 : Int) ++ num (IntKind.wrap IntKind.u64 p.origin.max) (1 : Int) ++ num (0 : Int) (1 : Int) ++ num p.origin.pfx.addr.lo (4 : Int)))])]
  [Entry.row 5 1
  (List.map u8 (flI p.add ++ num (IntKind.wrap IntKind.u64 p.origin.pfx.len) (1 : Int) ++ num (IntKind.wrap IntKind.u64 p.origin.max) (1 : Int) ++ num (0 : Int) (1 : Int) ++ num p.origin.pfx.addr.lo (4 : Int)))]
  (AVal.tup []))
  (Tree.need
  (ALeL [AVal.ptr 0 0, AVal.imm (IVal.v (Value.int IntKind.u64 (IntKind.wrap IntKind.u64 p.origin.asn))), AVal.imm (IVal.v (Value.int IntKind.i64 (4 : Int)))]
  [AVal.ptr 0 0, AVal.imm (u64 (IntKind.wrap IntKind.u64 p.origin.asn)), AVal.imm (i64 (4 : Int))] ∧
  GSpec prog 77
  [(92,
  AVal.agg
  [AVal.own 1
  (List.length (flI p.add ++ num (IntKind.wrap IntKind.u64 p.origin.pfx.len) (1 : Int) ++ num (IntKind.wrap IntKind.u64 p.origin.max) (1 : Int) ++ num (0 : Int) (1 : Int) ++ num p.origin.pfx.addr.lo (4 : Int)))])]
  [(5, 1,
  List.map u8 (flI p.add ++ num (IntKind.wrap IntKind.u64 p.origin.pfx.len) (1 : Int) ++ num (IntKind.wrap IntKind.u64 p.origin.max) (1 : Int) ++ num (0 : Int) (1 : Int) ++ num p.origin.pfx.addr.lo (4 : Int)))]
  [AVal.ptr 0 0, AVal.imm (u64 (IntKind.wrap IntKind.u64 p.origin.asn)), AVal.imm (i64 (4 : Int))]
  [(92,
  AVal.agg
  [AVal.own 1
  (List.length
  (flI p.add ++ num (IntKind.wrap IntKind.u64 p.origin.pfx.len) (1 : Int) ++ num (IntKind.wrap IntKind.u64 p.origin.max) (1 : Int) ++ num (0 : Int) (1 : Int) ++ num p.origin.pfx.addr.lo (4 : Int) ++
  num (IntKind.wrap IntKind.u64 p.origin.asn) (4 : Int)))])]
  [Entry.row 5 1
  (List.map u8
  (flI p.add ++ num (IntKind.wrap IntKind.u64 p.origin.pfx.len) (1 : Int) ++ num (IntKind.wrap IntKind.u64 p.origin.max) (1 : Int) ++ num (0 : Int) (1 : Int) ++ num p.origin.pfx.addr.lo (4 : Int) ++
  num (IntKind.wrap IntKind.u64 p.origin.asn) (4 : Int)))]
  (AVal.tup []))
  (Tree.need
  ([(ls 0, 92,
  AVal.agg
  [AVal.own 1
  (List.length
  (flI p.add ++ num (IntKind.wrap IntKind.u64 p.origin.pfx.len) (1 : Int) ++ num (IntKind.wrap IntKind.u64 p.origin.max) (1 : Int) ++ num (0 : Int) (1 : Int) ++ num p.origin.pfx.addr.lo (4 : Int) ++
  num (IntKind.wrap IntKind.u64 p.origin.asn) (4 : Int)))])] =
  [(ls 0, 92, AVal.agg [AVal.own 1 (List.length (rs57 p))])] ∧
  ELeL
  [Entry.row 5 1
  (List.map u8
  (flI p.add ++ num (IntKind.wrap IntKind.u64 p.origin.pfx.len) (1 : Int) ++ num (IntKind.wrap IntKind.u64 p.origin.max) (1 : Int) ++ num (0 : Int) (1 : Int) ++ num p.origin.pfx.addr.lo (4 : Int) ++
  num (IntKind.wrap IntKind.u64 p.origin.asn) (4 : Int)))]
  [Entry.row 5 1 (List.map u8 (rs57 p))] ∧
  ALe (AVal.tup []) (AVal.tup []))
  (Tree.done Exit.ret lnil)))))))) := by kernel_rfl
theorem g57 (p : Pdu) : GSpec prog 57 [(92, .agg [.imm (.v (.slice none 0 0))])] [] [.imm (encD p), .ptr 0 0] [(92, .agg [.own 1 (rs57 p).length])] [.row 5 1 ((rs57 p).map u8)] (.tup []) := by
  refine GSpec.tree Proofs.Try.f57 (fun ls => T57 ls p) (by kernel_rfl) (by kernel_rfl) rfl fun ls => ?_
  rw [t57]
  refine need_sat ⟨ALeL.refl _, g87' _⟩ (need_sat ⟨ALeL.refl _, g77 _ _ _ _ ?_ ?_ ?_ ?_⟩ (need_sat ⟨ALeL.refl _, g77 _ _ _ _ ?_ ?_ ?_ ?_⟩ (need_sat ⟨ALeL.refl _, g77 _ _ _ _ ?_ ?_ ?_ ?_⟩ ⟨fun h1 => need_sat ⟨ALeL.refl _, g77 _ _ _ _ ?_ ?_ ?_ ?_⟩ (need_sat ⟨ALeL.refl _, g77 _ _ _ _ ?_ ?_ ?_ ?_⟩ (need_sat ⟨ALeL.refl _, g77 _ _ _ _ ?_ ?_ ?_ ?_⟩ (need_sat ?_ (trivial)))), fun h1 => need_sat ⟨ALeL.refl _, g77 _ _ _ _ ?_ ?_ ?_ ?_⟩ (need_sat ⟨ALeL.refl _, g77 _ _ _ _ ?_ ?_ ?_ ?_⟩ (need_sat ?_ (trivial)))⟩)))
  all_goals try first
    | omega
    | rfl
    | (simp [flI_len, num_len, rs49]; done)
    | (simp [flI_len, num_len, rs49]; omega)
    | (simp only [decide_eq_true_eq, decide_eq_false_iff_not] at *; exfalso; omega)
    | exact ⟨rfl, .refl _, .refl _⟩
  · simp only [decide_eq_true_eq] at h1
    exact fin5 (by simp [rs57, h1])
  · simp only [decide_eq_false_iff_not] at h1
    exact fin5 (by simp [rs57, h1])
def rs60 (p : Pdu) : List Int := rs49 p ++ (if 0 < p.version then num (w64 p.refresh) 4 ++ num (w64 p.retry) 4 ++ num (w64 p.expire) 4 else [])
def T60 (ls : Nat → Abs.Loc) (p : Pdu) : Tell :=
  Tell.mk (fun x x_1 => false) (fun x x_1 => Orc.no) (fun x => Tree.fail 1000003 0) (fun x => 5) (fun x => ([], []))
  (opget [(1, 0), (2, 2), (2, 5), (2, 8), (4, 0), (4, 1), (5, 2)]
  [(2, 1, 2,
  Orc.callg [0] 1 [AVal.imm (encD p), AVal.ptr 0 0] [(92, AVal.agg [AVal.own 1 (List.length (rs49 p))])] [Entry.row 5 1 (List.map u8 (rs49 p))] (AVal.tup [])),
  (19, 4, 1, Orc.ext [] (IVal.tup [])),
  (26, 6, 3,
  Orc.callg [0, 4] 1 [AVal.ptr 0 0, AVal.imm (u64 (IntKind.wrap IntKind.u64 p.refresh)), AVal.imm (i64 (4 : Int))]
  [(92, AVal.agg [AVal.own 1 (List.length (rs49 p ++ num (IntKind.wrap IntKind.u64 p.refresh) (4 : Int)))])]
  [Entry.row 5 1 (List.map u8 (rs49 p ++ num (IntKind.wrap IntKind.u64 p.refresh) (4 : Int)))] (AVal.tup [])),
  (29, 4, 1, Orc.ext [] (IVal.tup [])), (34, 4, 1, Orc.ext [] (IVal.tup [])),
  (36, 6, 3,
  Orc.callg [0, 4] 1 [AVal.ptr 0 0, AVal.imm (u64 (IntKind.wrap IntKind.u64 p.retry)), AVal.imm (i64 (4 : Int))]
  [(92, AVal.agg [AVal.own 1 (List.length (rs49 p ++ num (IntKind.wrap IntKind.u64 p.retry) (4 : Int)))])] [Entry.row 5 1 (List.map u8 (rs49 p ++ num (IntKind.wrap IntKind.u64 p.retry) (4 : Int)))]
  (AVal.tup [])),
  (39, 4, 1, Orc.ext [] (IVal.tup [])),
  (41, 6, 3,
  Orc.callg [0, 29] 1 [AVal.ptr 0 0, AVal.imm (u64 (IntKind.wrap IntKind.u64 p.retry)), AVal.imm (i64 (4 : Int))]
  [(92, AVal.agg [AVal.own 1 (List.length (rs49 p ++ num (IntKind.wrap IntKind.u64 p.refresh) (4 : Int) ++ num (IntKind.wrap IntKind.u64 p.retry) (4 : Int)))])]
  [Entry.row 5 1 (List.map u8 (rs49 p ++ num (IntKind.wrap IntKind.u64 p.refresh) (4 : Int) ++ num (IntKind.wrap IntKind.u64 p.retry) (4 : Int)))] (AVal.tup [])),
  (44, 4, 1, Orc.ext [] (IVal.tup [])),
  (46, 6, 3,
  Orc.callg [0, 4] 1 [AVal.ptr 0 0, AVal.imm (u64 (IntKind.wrap IntKind.u64 p.expire)), AVal.imm (i64 (4 : Int))]
  [(92, AVal.agg [AVal.own 1 (List.length (rs49 p ++ num (IntKind.wrap IntKind.u64 p.expire) (4 : Int)))])] [Entry.row 5 1 (List.map u8 (rs49 p ++ num (IntKind.wrap IntKind.u64 p.expire) (4 : Int)))]
  (AVal.tup [])),
  (49, 4, 1, Orc.ext [] (IVal.tup [])),
  (51, 6, 3,
  Orc.callg [0, 29] 1 [AVal.ptr 0 0, AVal.imm (u64 (IntKind.wrap IntKind.u64 p.expire)), AVal.imm (i64 (4 : Int))]
  [(92, AVal.agg [AVal.own 1 (List.length (rs49 p ++ num (IntKind.wrap IntKind.u64 p.refresh) (4 : Int) ++ num (IntKind.wrap IntKind.u64 p.expire) (4 : Int)))])]
  [Entry.row 5 1 (List.map u8 (rs49 p ++ num (IntKind.wrap IntKind.u64 p.refresh) (4 : Int) ++ num (IntKind.wrap IntKind.u64 p.expire) (4 : Int)))] (AVal.tup [])),
  (56, 6, 3,
  Orc.callg [0, 44] 1 [AVal.ptr 0 0, AVal.imm (u64 (IntKind.wrap IntKind.u64 p.expire)), AVal.imm (i64 (4 : Int))]
  [(92, AVal.agg [AVal.own 1 (List.length (rs49 p ++ num (IntKind.wrap IntKind.u64 p.refresh) (4 : Int) ++ num (IntKind.wrap IntKind.u64 p.retry) (4 : Int) ++ num (IntKind.wrap IntKind.u64 p.expire) (4 : Int)))])]
  [Entry.row 5 1 (List.map u8 (rs49 p ++ num (IntKind.wrap IntKind.u64 p.refresh) (4 : Int) ++ num (IntKind.wrap IntKind.u64 p.retry) (4 : Int) ++ num (IntKind.wrap IntKind.u64 p.expire) (4 : Int)))] (AVal.tup []))])
  fun x x_1 => Tree.fail 1000003 0
theorem t60 (ls : Nat → Abs.Loc) (p : Pdu) : levG prog Proofs.Try.f60 ls [(92, .agg [.imm (.v (.slice none 0 0))])] [] [.imm (encD p), .ptr 0 0] [(92, .agg [.own 1 (rs60 p).length])] [.row 5 1 ((rs60 p).map u8)] (.tup []) (T60 ls p) =
  Tree.need
  (ALeL [AVal.imm (encD p), AVal.ptr 0 0] [AVal.imm (encD p), AVal.ptr 0 0] ∧
  GSpec prog 49 [(92, AVal.agg [AVal.imm (IVal.v (Value.slice none 0 0))])] [] [AVal.imm (encD p), AVal.ptr 0 0] [(92, AVal.agg [AVal.own 1 (List.length (rs49 p))])]
  [Entry.row 5 1 (List.map u8 (rs49 p))] (AVal.tup []))
  (Tree.br true
  (Tree.need ((0 : Int) ≤ (0 : Int) ∧ 0 < 3)
  (Tree.br (decide ((0 : Int) < p.version))
  (Tree.need
  (ALeL [AVal.ptr 0 0, AVal.imm (IVal.v (Value.int IntKind.u64 (IntKind.wrap IntKind.u64 p.refresh))), AVal.imm (IVal.v (Value.int IntKind.i64 (4 : Int)))]
  [AVal.ptr 0 0, AVal.imm (u64 (IntKind.wrap IntKind.u64 p.refresh)), AVal.imm (i64 (4 : Int))] ∧
  GSpec prog 77 [(92, AVal.agg [AVal.own 1 (List.length (rs49 p))])] [(5, 1, List.map u8 (rs49 p))]
  [AVal.ptr 0 0, AVal.imm (u64 (IntKind.wrap IntKind.u64 p.refresh)), AVal.imm (i64 (4 : Int))]
  [(92, AVal.agg [AVal.own 1 (List.length (rs49 p ++ num (IntKind.wrap IntKind.u64 p.refresh) (4 : Int)))])]
  [Entry.row 5 1 (List.map u8 (rs49 p ++ num (IntKind.wrap IntKind.u64 p.refresh) (4 : Int)))] (AVal.tup []))
  (Tree.br true
  (Tree.need ((0 : Int) ≤ (1 : Int) ∧ 1 < 3)
  (Tree.br (decide ((0 : Int) < p.version))
  (Tree.need
  (ALeL [AVal.ptr 0 0, AVal.imm (IVal.v (Value.int IntKind.u64 (IntKind.wrap IntKind.u64 p.retry))), AVal.imm (IVal.v (Value.int IntKind.i64 (4 : Int)))]
  [AVal.ptr 0 0, AVal.imm (u64 (IntKind.wrap IntKind.u64 p.retry)), AVal.imm (i64 (4 : Int))] ∧
  GSpec prog 77 [(92, AVal.agg [AVal.own 1 (List.length (rs49 p ++ num (IntKind.wrap IntKind.u64 p.refresh) (4 : Int)))])]
  [(5, 1, List.map u8 (rs49 p ++ num (IntKind.wrap IntKind.u64 p.refresh) (4 : Int)))] [AVal.ptr 0 0, AVal.imm (u64 (IntKind.wrap IntKind.u64 p.retry)), AVal.imm (i64 (4 : Int))]
  [(92, AVal.agg [AVal.own 1 (List.length (rs49 p ++ num (IntKind.wrap IntKind.u64 p.refresh) (4 : Int) ++ num (IntKind.wrap IntKind.u64 p.retry) (4 : Int)))])]
  [Entry.row 5 1 (List.map u8 (rs49 p ++ num (IntKind.wrap IntKind.u64 p.refresh) (4 : Int) ++ num (IntKind.wrap IntKind.u64 p.retry) (4 : Int)))] (AVal.tup []))
  (Tree.br true
  (Tree.need ((0 : Int) ≤ (2 : Int) ∧ 2 < 3)
  (Tree.br (decide ((0 : Int) < p.version))
  (Tree.need
  (ALeL [AVal.ptr 0 0, AVal.imm (IVal.v (Value.int IntKind.u64 (IntKind.wrap IntKind.u64 p.expire))), AVal.imm (IVal.v (Value.int IntKind.i64 (4 : Int)))]
  [AVal.ptr 0 0, AVal.imm (u64 (IntKind.wrap IntKind.u64 p.expire)), AVal.imm (i64 (4 : Int))] ∧
  GSpec prog 77 [(92, AVal.agg [AVal.own 1 (List.length (rs49 p ++ num (IntKind.wrap IntKind.u64 p.refresh) (4 : Int) ++ num (IntKind.wrap IntKind.u64 p.retry) (4 : Int)))])]
  [(5, 1, List.map u8 (rs49 p ++ num (IntKind.wrap IntKind.u64 p.refresh) (4 : Int) ++ num (IntKind.wrap IntKind.u64 p.retry) (4 : Int)))]
  [AVal.ptr 0 0, AVal.imm (u64 (IntKind.wrap IntKind.u64 p.expire)), AVal.imm (i64 (4 : Int))]
  [(92,
  AVal.agg
  [AVal.own 1 (List.length (rs49 p ++ num (IntKind.wrap IntKind.u64 p.refresh) (4 : Int) ++ num (IntKind.wrap IntKind.u64 p.retry) (4 : Int) ++ num (IntKind.wrap IntKind.u64 p.expire) (4 : Int)))])]
  [Entry.row 5 1
  (List.map u8 (rs49 p ++ num (IntKind.wrap IntKind.u64 p.refresh) (4 : Int) ++ num (IntKind.wrap IntKind.u64 p.retry) (4 : Int) ++ num (IntKind.wrap IntKind.u64 p.expire) (4 : Int)))]
  (AVal.tup []))
  (Tree.br false
  (Tree.need ((0 : Int) ≤ (3 : Int) ∧ 3 < 3)
  (Tree.stop
  (LState.mk
  [(22, AVal.rptr 15 1 3 0), (21, AVal.imm (IVal.v (Value.bool false))), (20, AVal.imm (IVal.v (Value.int IntKind.i64 (3 : Int)))),
  (32, AVal.imm (IVal.v (Value.int IntKind.i64 (3 : Int)))), (31, AVal.tup []), (30, AVal.imm (IVal.v (Value.int IntKind.u64 (IntKind.wrap IntKind.u64 p.expire)))),
  (29, AVal.imm (u32 p.expire)), (28, AVal.ptr 0 0), (27, AVal.imm (IVal.v (Value.bool (decide ((0 : Int) < p.version))))), (26, AVal.imm (u8 p.version)),
  (25, AVal.ptr 1 0), (24, AVal.ptr 1 0), (5, AVal.imm (u32 p.expire)), (23, AVal.imm (u32 p.expire)),
  (19, AVal.imm (IVal.v (Value.int IntKind.i64 (3 : Int)))), (18, AVal.own 15 3), (17, AVal.imm (u32 p.expire)), (16, AVal.ptr 1 33),
  (15, AVal.ptr 1 0), (14, AVal.imm (u32 p.retry)), (13, AVal.ptr 1 32), (12, AVal.ptr 1 0),
  (11, AVal.imm (u32 p.refresh)), (10, AVal.ptr 1 31), (9, AVal.ptr 1 0), (8, AVal.tup []), (7, AVal.ptr 0 0),
  (6, AVal.imm (encD p)), (2, AVal.ptr 1 0), (0, AVal.imm (encD p)), (1, AVal.ptr 0 0)]
  [(59,
  Entry.row 5 1
  (List.map u8 (rs49 p ++ num (IntKind.wrap IntKind.u64 p.refresh) (4 : Int) ++ num (IntKind.wrap IntKind.u64 p.retry) (4 : Int) ++ num (IntKind.wrap IntKind.u64 p.expire) (4 : Int)))),
  (0,
  Entry.bbox (ls 0) 92
  (AVal.agg
  [AVal.own 59
  (List.length (rs49 p ++ num (IntKind.wrap IntKind.u64 p.refresh) (4 : Int) ++ num (IntKind.wrap IntKind.u64 p.retry) (4 : Int) ++ num (IntKind.wrap IntKind.u64 p.expire) (4 : Int)))])),
  (15, Entry.row 23 1 [u32 p.refresh, u32 p.retry, u32 p.expire]), (1, Entry.box 85 (AVal.imm (encD p)))]
  33 64 [])
  4 1 (Op.load 23 (Operand.tmp 22))))
  (Tree.need
  ([(ls 0, 92,
  AVal.agg
  [AVal.own 1
  (List.length (rs49 p ++ num (IntKind.wrap IntKind.u64 p.refresh) (4 : Int) ++ num (IntKind.wrap IntKind.u64 p.retry) (4 : Int) ++ num (IntKind.wrap IntKind.u64 p.expire) (4 : Int)))])] =
  [(ls 0, 92, AVal.agg [AVal.own 1 (List.length (rs60 p))])] ∧
  ELeL
  [Entry.row 5 1
  (List.map u8 (rs49 p ++ num (IntKind.wrap IntKind.u64 p.refresh) (4 : Int) ++ num (IntKind.wrap IntKind.u64 p.retry) (4 : Int) ++ num (IntKind.wrap IntKind.u64 p.expire) (4 : Int)))]
  [Entry.row 5 1 (List.map u8 (rs60 p))] ∧
  ALe (AVal.tup []) (AVal.tup []))
  (Tree.done Exit.ret lnil))))
  (Tree.br false
  (Tree.need ((0 : Int) ≤ (3 : Int) ∧ 3 < 3)
  (Tree.stop
  (LState.mk
  [(22, AVal.rptr 15 1 3 0), (21, AVal.imm (IVal.v (Value.bool false))), (20, AVal.imm (IVal.v (Value.int IntKind.i64 (3 : Int)))),
  (32, AVal.imm (IVal.v (Value.int IntKind.i64 (3 : Int)))), (27, AVal.imm (IVal.v (Value.bool (decide ((0 : Int) < p.version))))), (26, AVal.imm (u8 p.version)),
  (25, AVal.ptr 1 0), (24, AVal.ptr 1 0), (5, AVal.imm (u32 p.expire)), (23, AVal.imm (u32 p.expire)), (31, AVal.tup []),
  (30, AVal.imm (IVal.v (Value.int IntKind.u64 (IntKind.wrap IntKind.u64 p.retry)))), (29, AVal.imm (u32 p.retry)), (28, AVal.ptr 0 0),
  (19, AVal.imm (IVal.v (Value.int IntKind.i64 (3 : Int)))), (18, AVal.own 15 3), (17, AVal.imm (u32 p.expire)), (16, AVal.ptr 1 33),
  (15, AVal.ptr 1 0), (14, AVal.imm (u32 p.retry)), (13, AVal.ptr 1 32), (12, AVal.ptr 1 0),
  (11, AVal.imm (u32 p.refresh)), (10, AVal.ptr 1 31), (9, AVal.ptr 1 0), (8, AVal.tup []), (7, AVal.ptr 0 0),
  (6, AVal.imm (encD p)), (2, AVal.ptr 1 0), (0, AVal.imm (encD p)), (1, AVal.ptr 0 0)]
  [(44, Entry.row 5 1 (List.map u8 (rs49 p ++ num (IntKind.wrap IntKind.u64 p.refresh) (4 : Int) ++ num (IntKind.wrap IntKind.u64 p.retry) (4 : Int)))),
  (0,
  Entry.bbox (ls 0) 92 (AVal.agg [AVal.own 44 (List.length (rs49 p ++ num (IntKind.wrap IntKind.u64 p.refresh) (4 : Int) ++ num (IntKind.wrap IntKind.u64 p.retry) (4 : Int)))])),
  (15, Entry.row 23 1 [u32 p.refresh, u32 p.retry, u32 p.expire]), (1, Entry.box 85 (AVal.imm (encD p)))]
  33 59 [])
  4 1 (Op.load 23 (Operand.tmp 22))))
  (Tree.need
  ([(ls 0, 92, AVal.agg [AVal.own 1 (List.length (rs49 p ++ num (IntKind.wrap IntKind.u64 p.refresh) (4 : Int) ++ num (IntKind.wrap IntKind.u64 p.retry) (4 : Int)))])] =
  [(ls 0, 92, AVal.agg [AVal.own 1 (List.length (rs60 p))])] ∧
  ELeL [Entry.row 5 1 (List.map u8 (rs49 p ++ num (IntKind.wrap IntKind.u64 p.refresh) (4 : Int) ++ num (IntKind.wrap IntKind.u64 p.retry) (4 : Int)))]
  [Entry.row 5 1 (List.map u8 (rs60 p))] ∧
  ALe (AVal.tup []) (AVal.tup []))
  (Tree.done Exit.ret lnil)))))
  (Tree.need
  ([(ls 0, 92, AVal.agg [AVal.own 1 (List.length (rs49 p ++ num (IntKind.wrap IntKind.u64 p.refresh) (4 : Int) ++ num (IntKind.wrap IntKind.u64 p.retry) (4 : Int)))])] =
  [(ls 0, 92, AVal.agg [AVal.own 1 (List.length (rs60 p))])] ∧
  ELeL [Entry.row 5 1 (List.map u8 (rs49 p ++ num (IntKind.wrap IntKind.u64 p.refresh) (4 : Int) ++ num (IntKind.wrap IntKind.u64 p.retry) (4 : Int)))]
  [Entry.row 5 1 (List.map u8 (rs60 p))] ∧
  ALe (AVal.tup []) (AVal.tup []))
  (Tree.done Exit.ret lnil))))
  (Tree.br true
  (Tree.need ((0 : Int) ≤ (2 : Int) ∧ 2 < 3)
  (Tree.br (decide ((0 : Int) < p.version))
  (Tree.need
  (ALeL [AVal.ptr 0 0, AVal.imm (IVal.v (Value.int IntKind.u64 (IntKind.wrap IntKind.u64 p.expire))), AVal.imm (IVal.v (Value.int IntKind.i64 (4 : Int)))]
  [AVal.ptr 0 0, AVal.imm (u64 (IntKind.wrap IntKind.u64 p.expire)), AVal.imm (i64 (4 : Int))] ∧
  GSpec prog 77 [(92, AVal.agg [AVal.own 1 (List.length (rs49 p ++ num (IntKind.wrap IntKind.u64 p.refresh) (4 : Int)))])]
  [(5, 1, List.map u8 (rs49 p ++ num (IntKind.wrap IntKind.u64 p.refresh) (4 : Int)))] [AVal.ptr 0 0, AVal.imm (u64 (IntKind.wrap IntKind.u64 p.expire)), AVal.imm (i64 (4 : Int))]
  [(92, AVal.agg [AVal.own 1 (List.length (rs49 p ++ num (IntKind.wrap IntKind.u64 p.refresh) (4 : Int) ++ num (IntKind.wrap IntKind.u64 p.expire) (4 : Int)))])]
  [Entry.row 5 1 (List.map u8 (rs49 p ++ num (IntKind.wrap IntKind.u64 p.refresh) (4 : Int) ++ num (IntKind.wrap IntKind.u64 p.expire) (4 : Int)))] (AVal.tup []))
  (Tree.br false
  (Tree.need ((0 : Int) ≤ (3 : Int) ∧ 3 < 3)
  (Tree.stop
  (LState.mk
  [(22, AVal.rptr 15 1 3 0), (21, AVal.imm (IVal.v (Value.bool false))), (20, AVal.imm (IVal.v (Value.int IntKind.i64 (3 : Int)))),
  (32, AVal.imm (IVal.v (Value.int IntKind.i64 (3 : Int)))), (31, AVal.tup []), (30, AVal.imm (IVal.v (Value.int IntKind.u64 (IntKind.wrap IntKind.u64 p.expire)))),
  (29, AVal.imm (u32 p.expire)), (28, AVal.ptr 0 0), (27, AVal.imm (IVal.v (Value.bool (decide ((0 : Int) < p.version))))), (26, AVal.imm (u8 p.version)),
  (25, AVal.ptr 1 0), (24, AVal.ptr 1 0), (5, AVal.imm (u32 p.expire)), (23, AVal.imm (u32 p.expire)),
  (19, AVal.imm (IVal.v (Value.int IntKind.i64 (3 : Int)))), (18, AVal.own 15 3), (17, AVal.imm (u32 p.expire)), (16, AVal.ptr 1 33),
  (15, AVal.ptr 1 0), (14, AVal.imm (u32 p.retry)), (13, AVal.ptr 1 32), (12, AVal.ptr 1 0),
  (11, AVal.imm (u32 p.refresh)), (10, AVal.ptr 1 31), (9, AVal.ptr 1 0), (8, AVal.tup []), (7, AVal.ptr 0 0),
  (6, AVal.imm (encD p)), (2, AVal.ptr 1 0), (0, AVal.imm (encD p)), (1, AVal.ptr 0 0)]
  [(54, Entry.row 5 1 (List.map u8 (rs49 p ++ num (IntKind.wrap IntKind.u64 p.refresh) (4 : Int) ++ num (IntKind.wrap IntKind.u64 p.expire) (4 : Int)))),
  (0,
  Entry.bbox (ls 0) 92 (AVal.agg [AVal.own 54 (List.length (rs49 p ++ num (IntKind.wrap IntKind.u64 p.refresh) (4 : Int) ++ num (IntKind.wrap IntKind.u64 p.expire) (4 : Int)))])),
  (15, Entry.row 23 1 [u32 p.refresh, u32 p.retry, u32 p.expire]), (1, Entry.box 85 (AVal.imm (encD p)))]
  33 59 [])
  4 1 (Op.load 23 (Operand.tmp 22))))
  (Tree.need
  ([(ls 0, 92, AVal.agg [AVal.own 1 (List.length (rs49 p ++ num (IntKind.wrap IntKind.u64 p.refresh) (4 : Int) ++ num (IntKind.wrap IntKind.u64 p.expire) (4 : Int)))])] =
  [(ls 0, 92, AVal.agg [AVal.own 1 (List.length (rs60 p))])] ∧
  ELeL [Entry.row 5 1 (List.map u8 (rs49 p ++ num (IntKind.wrap IntKind.u64 p.refresh) (4 : Int) ++ num (IntKind.wrap IntKind.u64 p.expire) (4 : Int)))]
  [Entry.row 5 1 (List.map u8 (rs60 p))] ∧
  ALe (AVal.tup []) (AVal.tup []))
  (Tree.done Exit.ret lnil))))
  (Tree.br false
  (Tree.need ((0 : Int) ≤ (3 : Int) ∧ 3 < 3)
  (Tree.stop
  (LState.mk
  [(22, AVal.rptr 15 1 3 0), (21, AVal.imm (IVal.v (Value.bool false))), (20, AVal.imm (IVal.v (Value.int IntKind.i64 (3 : Int)))),
  (32, AVal.imm (IVal.v (Value.int IntKind.i64 (3 : Int)))), (27, AVal.imm (IVal.v (Value.bool (decide ((0 : Int) < p.version))))), (26, AVal.imm (u8 p.version)),
  (25, AVal.ptr 1 0), (24, AVal.ptr 1 0), (5, AVal.imm (u32 p.expire)), (23, AVal.imm (u32 p.expire)), (31, AVal.tup []),
  (30, AVal.imm (IVal.v (Value.int IntKind.u64 (IntKind.wrap IntKind.u64 p.refresh)))), (29, AVal.imm (u32 p.refresh)), (28, AVal.ptr 0 0),
  (19, AVal.imm (IVal.v (Value.int IntKind.i64 (3 : Int)))), (18, AVal.own 15 3), (17, AVal.imm (u32 p.expire)), (16, AVal.ptr 1 33),
  (15, AVal.ptr 1 0), (14, AVal.imm (u32 p.retry)), (13, AVal.ptr 1 32), (12, AVal.ptr 1 0),
  (11, AVal.imm (u32 p.refresh)), (10, AVal.ptr 1 31), (9, AVal.ptr 1 0), (8, AVal.tup []), (7, AVal.ptr 0 0),
  (6, AVal.imm (encD p)), (2, AVal.ptr 1 0), (0, AVal.imm (encD p)), (1, AVal.ptr 0 0)]
  [(29, Entry.row 5 1 (List.map u8 (rs49 p ++ num (IntKind.wrap IntKind.u64 p.refresh) (4 : Int)))),
  (0, Entry.bbox (ls 0) 92 (AVal.agg [AVal.own 29 (List.length (rs49 p ++ num (IntKind.wrap IntKind.u64 p.refresh) (4 : Int)))])),
  (15, Entry.row 23 1 [u32 p.refresh, u32 p.retry, u32 p.expire]), (1, Entry.box 85 (AVal.imm (encD p)))]
  33 54 [])
  4 1 (Op.load 23 (Operand.tmp 22))))
  (Tree.need
  ([(ls 0, 92, AVal.agg [AVal.own 1 (List.length (rs49 p ++ num (IntKind.wrap IntKind.u64 p.refresh) (4 : Int)))])] =
  [(ls 0, 92, AVal.agg [AVal.own 1 (List.length (rs60 p))])] ∧
  ELeL [Entry.row 5 1 (List.map u8 (rs49 p ++ num (IntKind.wrap IntKind.u64 p.refresh) (4 : Int)))] [Entry.row 5 1 (List.map u8 (rs60 p))] ∧ ALe (AVal.tup []) (AVal.tup []))
  (Tree.done Exit.ret lnil)))))
  (Tree.need
  ([(ls 0, 92, AVal.agg [AVal.own 1 (List.length (rs49 p ++ num (IntKind.wrap IntKind.u64 p.refresh) (4 : Int)))])] =
  [(ls 0, 92, AVal.agg [AVal.own 1 (List.length (rs60 p))])] ∧
  ELeL [Entry.row 5 1 (List.map u8 (rs49 p ++ num (IntKind.wrap IntKind.u64 p.refresh) (4 : Int)))] [Entry.row 5 1 (List.map u8 (rs60 p))] ∧ ALe (AVal.tup []) (AVal.tup []))
  (Tree.done Exit.ret lnil)))))
  (Tree.need
  ([(ls 0, 92, AVal.agg [AVal.own 1 (List.length (rs49 p ++ num (IntKind.wrap IntKind.u64 p.refresh) (4 : Int)))])] = [(ls 0, 92, AVal.agg [AVal.own 1 (List.length (rs60 p))])] ∧
  ELeL [Entry.row 5 1 (List.map u8 (rs49 p ++ num (IntKind.wrap IntKind.u64 p.refresh) (4 : Int)))] [Entry.row 5 1 (List.map u8 (rs60 p))] ∧ ALe (AVal.tup []) (AVal.tup []))
  (Tree.done Exit.ret lnil))))
  (Tree.br true
  (Tree.need ((0 : Int) ≤ (1 : Int) ∧ 1 < 3)
  (Tree.br (decide ((0 : Int) < p.version))
  (Tree.need
  (ALeL [AVal.ptr 0 0, AVal.imm (IVal.v (Value.int IntKind.u64 (IntKind.wrap IntKind.u64 p.retry))), AVal.imm (IVal.v (Value.int IntKind.i64 (4 : Int)))]
  [AVal.ptr 0 0, AVal.imm (u64 (IntKind.wrap IntKind.u64 p.retry)), AVal.imm (i64 (4 : Int))] ∧
  GSpec prog 77 [(92, AVal.agg [AVal.own 1 (List.length (rs49 p))])] [(5, 1, List.map u8 (rs49 p))]
  [AVal.ptr 0 0, AVal.imm (u64 (IntKind.wrap IntKind.u64 p.retry)), AVal.imm (i64 (4 : Int))]
  [(92, AVal.agg [AVal.own 1 (List.length (rs49 p ++ num (IntKind.wrap IntKind.u64 p.retry) (4 : Int)))])]
  [Entry.row 5 1 (List.map u8 (rs49 p ++ num (IntKind.wrap IntKind.u64 p.retry) (4 : Int)))] (AVal.tup []))
  (Tree.br true
  (Tree.need ((0 : Int) ≤ (2 : Int) ∧ 2 < 3)
  (Tree.br (decide ((0 : Int) < p.version))
  (Tree.stop
  (LState.mk
  [(30, AVal.imm (IVal.v (Value.int IntKind.u64 (IntKind.wrap IntKind.u64 p.expire)))), (29, AVal.imm (u32 p.expire)), (28, AVal.ptr 0 0),
  (27, AVal.imm (IVal.v (Value.bool (decide ((0 : Int) < p.version))))), (26, AVal.imm (u8 p.version)), (25, AVal.ptr 1 0), (24, AVal.ptr 1 0),
  (5, AVal.imm (u32 p.expire)), (23, AVal.imm (u32 p.expire)), (22, AVal.rptr 15 1 2 0), (21, AVal.imm (IVal.v (Value.bool true))),
  (20, AVal.imm (IVal.v (Value.int IntKind.i64 (2 : Int)))), (32, AVal.imm (IVal.v (Value.int IntKind.i64 (2 : Int)))), (31, AVal.tup []),
  (19, AVal.imm (IVal.v (Value.int IntKind.i64 (3 : Int)))), (18, AVal.own 15 3), (17, AVal.imm (u32 p.expire)), (16, AVal.ptr 1 33),
  (15, AVal.ptr 1 0), (14, AVal.imm (u32 p.retry)), (13, AVal.ptr 1 32), (12, AVal.ptr 1 0), (11, AVal.imm (u32 p.refresh)),
  (10, AVal.ptr 1 31), (9, AVal.ptr 1 0), (8, AVal.tup []), (7, AVal.ptr 0 0), (6, AVal.imm (encD p)),
  (2, AVal.ptr 1 0), (0, AVal.imm (encD p)), (1, AVal.ptr 0 0)]
  [(39, Entry.row 5 1 (List.map u8 (rs49 p ++ num (IntKind.wrap IntKind.u64 p.retry) (4 : Int)))),
  (0, Entry.bbox (ls 0) 92 (AVal.agg [AVal.own 39 (List.length (rs49 p ++ num (IntKind.wrap IntKind.u64 p.retry) (4 : Int)))])),
  (15, Entry.row 23 1 [u32 p.refresh, u32 p.retry, u32 p.expire]), (1, Entry.box 85 (AVal.imm (encD p)))]
  33 51 [])
  6 3
  (Op.call
  (Call.mk (Callee.value (Operand.func 77)) (Array.mk [Operand.tmp 28, Operand.tmp 30, Operand.const (Value.int IntKind.i64 (4 : Int))]) (Array.mk [90, 24, 3]))))
  (Tree.br false
  (Tree.need ((0 : Int) ≤ (3 : Int) ∧ 3 < 3)
  (Tree.stop
  (LState.mk
  [(22, AVal.rptr 15 1 3 0), (21, AVal.imm (IVal.v (Value.bool false))), (20, AVal.imm (IVal.v (Value.int IntKind.i64 (3 : Int)))),
  (32, AVal.imm (IVal.v (Value.int IntKind.i64 (3 : Int)))), (27, AVal.imm (IVal.v (Value.bool (decide ((0 : Int) < p.version))))), (26, AVal.imm (u8 p.version)),
  (25, AVal.ptr 1 0), (24, AVal.ptr 1 0), (5, AVal.imm (u32 p.expire)), (23, AVal.imm (u32 p.expire)), (31, AVal.tup []),
  (30, AVal.imm (IVal.v (Value.int IntKind.u64 (IntKind.wrap IntKind.u64 p.retry)))), (29, AVal.imm (u32 p.retry)), (28, AVal.ptr 0 0),
  (19, AVal.imm (IVal.v (Value.int IntKind.i64 (3 : Int)))), (18, AVal.own 15 3), (17, AVal.imm (u32 p.expire)), (16, AVal.ptr 1 33),
  (15, AVal.ptr 1 0), (14, AVal.imm (u32 p.retry)), (13, AVal.ptr 1 32), (12, AVal.ptr 1 0),
  (11, AVal.imm (u32 p.refresh)), (10, AVal.ptr 1 31), (9, AVal.ptr 1 0), (8, AVal.tup []), (7, AVal.ptr 0 0),
  (6, AVal.imm (encD p)), (2, AVal.ptr 1 0), (0, AVal.imm (encD p)), (1, AVal.ptr 0 0)]
  [(39, Entry.row 5 1 (List.map u8 (rs49 p ++ num (IntKind.wrap IntKind.u64 p.retry) (4 : Int)))),
  (0, Entry.bbox (ls 0) 92 (AVal.agg [AVal.own 39 (List.length (rs49 p ++ num (IntKind.wrap IntKind.u64 p.retry) (4 : Int)))])),
  (15, Entry.row 23 1 [u32 p.refresh, u32 p.retry, u32 p.expire]), (1, Entry.box 85 (AVal.imm (encD p)))]
  33 54 [])
  4 1 (Op.load 23 (Operand.tmp 22))))
  (Tree.need
  ([(ls 0, 92, AVal.agg [AVal.own 1 (List.length (rs49 p ++ num (IntKind.wrap IntKind.u64 p.retry) (4 : Int)))])] =
  [(ls 0, 92, AVal.agg [AVal.own 1 (List.length (rs60 p))])] ∧
  ELeL [Entry.row 5 1 (List.map u8 (rs49 p ++ num (IntKind.wrap IntKind.u64 p.retry) (4 : Int)))] [Entry.row 5 1 (List.map u8 (rs60 p))] ∧ ALe (AVal.tup []) (AVal.tup []))
  (Tree.done Exit.ret lnil)))))
  (Tree.need
  ([(ls 0, 92, AVal.agg [AVal.own 1 (List.length (rs49 p ++ num (IntKind.wrap IntKind.u64 p.retry) (4 : Int)))])] =
  [(ls 0, 92, AVal.agg [AVal.own 1 (List.length (rs60 p))])] ∧
  ELeL [Entry.row 5 1 (List.map u8 (rs49 p ++ num (IntKind.wrap IntKind.u64 p.retry) (4 : Int)))] [Entry.row 5 1 (List.map u8 (rs60 p))] ∧ ALe (AVal.tup []) (AVal.tup []))
  (Tree.done Exit.ret lnil))))
  (Tree.br true
  (Tree.need ((0 : Int) ≤ (2 : Int) ∧ 2 < 3)
  (Tree.br (decide ((0 : Int) < p.version))
  (Tree.need
  (ALeL [AVal.ptr 0 0, AVal.imm (IVal.v (Value.int IntKind.u64 (IntKind.wrap IntKind.u64 p.expire))), AVal.imm (IVal.v (Value.int IntKind.i64 (4 : Int)))]
  [AVal.ptr 0 0, AVal.imm (u64 (IntKind.wrap IntKind.u64 p.expire)), AVal.imm (i64 (4 : Int))] ∧
  GSpec prog 77 [(92, AVal.agg [AVal.own 1 (List.length (rs49 p))])] [(5, 1, List.map u8 (rs49 p))]
  [AVal.ptr 0 0, AVal.imm (u64 (IntKind.wrap IntKind.u64 p.expire)), AVal.imm (i64 (4 : Int))]
  [(92, AVal.agg [AVal.own 1 (List.length (rs49 p ++ num (IntKind.wrap IntKind.u64 p.expire) (4 : Int)))])]
  [Entry.row 5 1 (List.map u8 (rs49 p ++ num (IntKind.wrap IntKind.u64 p.expire) (4 : Int)))] (AVal.tup []))
  (Tree.br false
  (Tree.need ((0 : Int) ≤ (3 : Int) ∧ 3 < 3)
  (Tree.stop
  (LState.mk
  [(22, AVal.rptr 15 1 3 0), (21, AVal.imm (IVal.v (Value.bool false))), (20, AVal.imm (IVal.v (Value.int IntKind.i64 (3 : Int)))),
  (32, AVal.imm (IVal.v (Value.int IntKind.i64 (3 : Int)))), (31, AVal.tup []), (30, AVal.imm (IVal.v (Value.int IntKind.u64 (IntKind.wrap IntKind.u64 p.expire)))),
  (29, AVal.imm (u32 p.expire)), (28, AVal.ptr 0 0), (27, AVal.imm (IVal.v (Value.bool (decide ((0 : Int) < p.version))))), (26, AVal.imm (u8 p.version)),
  (25, AVal.ptr 1 0), (24, AVal.ptr 1 0), (5, AVal.imm (u32 p.expire)), (23, AVal.imm (u32 p.expire)),
  (19, AVal.imm (IVal.v (Value.int IntKind.i64 (3 : Int)))), (18, AVal.own 15 3), (17, AVal.imm (u32 p.expire)), (16, AVal.ptr 1 33),
  (15, AVal.ptr 1 0), (14, AVal.imm (u32 p.retry)), (13, AVal.ptr 1 32), (12, AVal.ptr 1 0),
  (11, AVal.imm (u32 p.refresh)), (10, AVal.ptr 1 31), (9, AVal.ptr 1 0), (8, AVal.tup []), (7, AVal.ptr 0 0),
  (6, AVal.imm (encD p)), (2, AVal.ptr 1 0), (0, AVal.imm (encD p)), (1, AVal.ptr 0 0)]
  [(49, Entry.row 5 1 (List.map u8 (rs49 p ++ num (IntKind.wrap IntKind.u64 p.expire) (4 : Int)))),
  (0, Entry.bbox (ls 0) 92 (AVal.agg [AVal.own 49 (List.length (rs49 p ++ num (IntKind.wrap IntKind.u64 p.expire) (4 : Int)))])),
  (15, Entry.row 23 1 [u32 p.refresh, u32 p.retry, u32 p.expire]), (1, Entry.box 85 (AVal.imm (encD p)))]
  33 54 [])
  4 1 (Op.load 23 (Operand.tmp 22))))
  (Tree.need
  ([(ls 0, 92, AVal.agg [AVal.own 1 (List.length (rs49 p ++ num (IntKind.wrap IntKind.u64 p.expire) (4 : Int)))])] =
  [(ls 0, 92, AVal.agg [AVal.own 1 (List.length (rs60 p))])] ∧
  ELeL [Entry.row 5 1 (List.map u8 (rs49 p ++ num (IntKind.wrap IntKind.u64 p.expire) (4 : Int)))] [Entry.row 5 1 (List.map u8 (rs60 p))] ∧ ALe (AVal.tup []) (AVal.tup []))
  (Tree.done Exit.ret lnil))))
  (Tree.br false
  (Tree.need ((0 : Int) ≤ (3 : Int) ∧ 3 < 3)
  (Tree.stop
  (LState.mk
  [(22, AVal.rptr 15 1 3 0), (21, AVal.imm (IVal.v (Value.bool false))), (20, AVal.imm (IVal.v (Value.int IntKind.i64 (3 : Int)))),
  (32, AVal.imm (IVal.v (Value.int IntKind.i64 (3 : Int)))), (27, AVal.imm (IVal.v (Value.bool (decide ((0 : Int) < p.version))))), (26, AVal.imm (u8 p.version)),
  (25, AVal.ptr 1 0), (24, AVal.ptr 1 0), (5, AVal.imm (u32 p.expire)), (23, AVal.imm (u32 p.expire)),
  (19, AVal.imm (IVal.v (Value.int IntKind.i64 (3 : Int)))), (18, AVal.own 15 3), (17, AVal.imm (u32 p.expire)), (16, AVal.ptr 1 33),
  (15, AVal.ptr 1 0), (14, AVal.imm (u32 p.retry)), (13, AVal.ptr 1 32), (12, AVal.ptr 1 0), (11, AVal.imm (u32 p.refresh)),
  (10, AVal.ptr 1 31), (9, AVal.ptr 1 0), (8, AVal.tup []), (7, AVal.ptr 0 0), (6, AVal.imm (encD p)),
  (2, AVal.ptr 1 0), (0, AVal.imm (encD p)), (1, AVal.ptr 0 0)]
  [(15, Entry.row 23 1 [u32 p.refresh, u32 p.retry, u32 p.expire]), (4, Entry.row 5 1 (List.map u8 (rs49 p))),
  (0, Entry.bbox (ls 0) 92 (AVal.agg [AVal.own 4 (List.length (rs49 p))])), (1, Entry.box 85 (AVal.imm (encD p)))]
  33 49 [])
  4 1 (Op.load 23 (Operand.tmp 22))))
  (Tree.need
  ([(ls 0, 92, AVal.agg [AVal.own 1 (List.length (rs49 p))])] = [(ls 0, 92, AVal.agg [AVal.own 1 (List.length (rs60 p))])] ∧
  ELeL [Entry.row 5 1 (List.map u8 (rs49 p))] [Entry.row 5 1 (List.map u8 (rs60 p))] ∧ ALe (AVal.tup []) (AVal.tup []))
  (Tree.done Exit.ret lnil)))))
  (Tree.need
  ([(ls 0, 92, AVal.agg [AVal.own 1 (List.length (rs49 p))])] = [(ls 0, 92, AVal.agg [AVal.own 1 (List.length (rs60 p))])] ∧
  ELeL [Entry.row 5 1 (List.map u8 (rs49 p))] [Entry.row 5 1 (List.map u8 (rs60 p))] ∧ ALe (AVal.tup []) (AVal.tup []))
  (Tree.done Exit.ret lnil)))))
  (Tree.need
  ([(ls 0, 92, AVal.agg [AVal.own 1 (List.length (rs49 p))])] = [(ls 0, 92, AVal.agg [AVal.own 1 (List.length (rs60 p))])] ∧
  ELeL [Entry.row 5 1 (List.map u8 (rs49 p))] [Entry.row 5 1 (List.map u8 (rs60 p))] ∧ ALe (AVal.tup []) (AVal.tup []))
  (Tree.done Exit.ret lnil)))))
  (Tree.need
  ([(ls 0, 92, AVal.agg [AVal.own 1 (List.length (rs49 p))])] = [(ls 0, 92, AVal.agg [AVal.own 1 (List.length (rs60 p))])] ∧
  ELeL [Entry.row 5 1 (List.map u8 (rs49 p))] [Entry.row 5 1 (List.map u8 (rs60 p))] ∧ ALe (AVal.tup []) (AVal.tup []))
  (Tree.done Exit.ret lnil))) := by kernel_rfl
theorem g60 (p : Pdu) : GSpec prog 60 [(92, .agg [.imm (.v (.slice none 0 0))])] [] [.imm (encD p), .ptr 0 0] [(92, .agg [.own 1 (rs60 p).length])] [.row 5 1 ((rs60 p).map u8)] (.tup []) := by
  refine GSpec.tree Proofs.Try.f60 (fun ls => T60 ls p) (by kernel_rfl) (by kernel_rfl) rfl fun ls => ?_
  rw [t60]
  refine need_sat ⟨ALeL.refl _, g49 _⟩ ⟨fun _ => need_sat ?_ ⟨fun h1 => need_sat ⟨ALeL.refl _, g77 _ _ _ _ ?_ ?_ ?_ ?_⟩ ⟨fun _ => need_sat ?_ ⟨fun h2 => need_sat ⟨ALeL.refl _, g77 _ _ _ _ ?_ ?_ ?_ ?_⟩ ⟨fun _ => need_sat ?_ ⟨fun h3 => need_sat ⟨ALeL.refl _, g77 _ _ _ _ ?_ ?_ ?_ ?_⟩ ⟨fun h => (by cases h), fun _ => need_sat ?_ (trivial)⟩, fun h3 => ⟨fun h => (by cases h), fun _ => need_sat ?_ (trivial)⟩⟩, fun h => (by cases h)⟩, fun h2 => ⟨fun _ => need_sat ?_ ⟨fun h3 => need_sat ⟨ALeL.refl _, g77 _ _ _ _ ?_ ?_ ?_ ?_⟩ ⟨fun h => (by cases h), fun _ => need_sat ?_ (trivial)⟩, fun h3 => ⟨fun h => (by cases h), fun _ => need_sat ?_ (trivial)⟩⟩, fun h => (by cases h)⟩⟩, fun h => (by cases h)⟩, fun h1 => ⟨fun _ => need_sat ?_ ⟨fun h2 => need_sat ⟨ALeL.refl _, g77 _ _ _ _ ?_ ?_ ?_ ?_⟩ ⟨fun _ => need_sat ?_ ⟨fun h3 => ?_, fun h3 => ⟨fun h => (by cases h), fun _ => need_sat ?_ (trivial)⟩⟩, fun h => (by cases h)⟩, fun h2 => ⟨fun _ => need_sat ?_ ⟨fun h3 => need_sat ⟨ALeL.refl _, g77 _ _ _ _ ?_ ?_ ?_ ?_⟩ ⟨fun h => (by cases h), fun _ => need_sat ?_ (trivial)⟩, fun h3 => ⟨fun h => (by cases h), fun _ => need_sat ?_ (trivial)⟩⟩, fun h => (by cases h)⟩⟩, fun h => (by cases h)⟩⟩, fun h => (by cases h)⟩
  all_goals try first
    | omega
    | rfl
    | (simp [flI_len, num_len, rs49]; done)
    | (simp [flI_len, num_len, rs49]; omega)
    | (simp only [decide_eq_true_eq, decide_eq_false_iff_not] at *; exfalso; omega)
    | exact ⟨rfl, .refl _, .refl _⟩
  · simp only [decide_eq_true_eq] at h1
    exact fin5 (by simp [rs60, h1])
  · simp only [decide_eq_false_iff_not] at h1
    exact fin5 (by simp only [rs60, if_neg h1, List.append_nil])
def rs64 (p : Pdu) : List Int := num (w64 p.key.asn) 4 ++ num (w64 p.key.height) 1 ++ rootL p.key
def T64 (ls : Nat → Abs.Loc) (p : Pdu) : Tell :=
  Tell.mk
  (fun r i =>
  (Tell.mk (fun x x_1 => false) (fun x x_1 => Orc.no) (fun x => Tree.fail 1000003 0) (fun x => 0) (fun x => ([], [])) (fun x x_1 x_2 => Orc.no) fun x x_1 => Tree.fail 1000003 0).fz r i ||
  fget [(3, 9)] r i)
  (fun x x_1 => Orc.no) (fun x => Tree.fail 1000003 0) (fun x => 0) (fun x => ([], []))
  (oget
  [(2, 1, 6,
  Orc.callg [0] 1 [AVal.ptr 0 0, AVal.imm (u64 (IntKind.wrap IntKind.u64 p.key.asn)), AVal.imm (i64 (4 : Int))]
  [(92, AVal.agg [AVal.own 1 (List.length (num (IntKind.wrap IntKind.u64 p.key.asn) (4 : Int)))])] [Entry.row 5 1 (List.map u8 (num (IntKind.wrap IntKind.u64 p.key.asn) (4 : Int)))] (AVal.tup [])),
  (10, 2, 7,
  Orc.callg [0, 8] 1 [AVal.ptr 0 0, AVal.imm (u64 (IntKind.wrap IntKind.u64 p.key.height)), AVal.imm (i64 (1 : Int))]
  [(92, AVal.agg [AVal.own 1 (List.length (num (IntKind.wrap IntKind.u64 p.key.asn) (4 : Int) ++ num (IntKind.wrap IntKind.u64 p.key.height) (1 : Int)))])]
  [Entry.row 5 1 (List.map u8 (num (IntKind.wrap IntKind.u64 p.key.asn) (4 : Int) ++ num (IntKind.wrap IntKind.u64 p.key.height) (1 : Int)))] (AVal.tup []))])
  fun x x_1 => Tree.fail 1000003 0
theorem t64 (ls : Nat → Abs.Loc) (p : Pdu) : levG prog Proofs.Try.f64 ls [(92, .agg [.imm (.v (.slice none 0 0))])] [] [.imm (encD p), .ptr 0 0] [(92, .agg [.own 1 (rs64 p).length])] [.row 5 1 ((rs64 p).map u8)] (.tup []) (T64 ls p) =
  Tree.need
  (ALeL [AVal.ptr 0 0, AVal.imm (IVal.v (Value.int IntKind.u64 (IntKind.wrap IntKind.u64 p.key.asn))), AVal.imm (IVal.v (Value.int IntKind.i64 (4 : Int)))]
  [AVal.ptr 0 0, AVal.imm (u64 (IntKind.wrap IntKind.u64 p.key.asn)), AVal.imm (i64 (4 : Int))] ∧
  GSpec prog 77 [(92, AVal.agg [AVal.imm (IVal.v (Value.slice none 0 0))])] [] [AVal.ptr 0 0, AVal.imm (u64 (IntKind.wrap IntKind.u64 p.key.asn)), AVal.imm (i64 (4 : Int))]
  [(92, AVal.agg [AVal.own 1 (List.length (num (IntKind.wrap IntKind.u64 p.key.asn) (4 : Int)))])] [Entry.row 5 1 (List.map u8 (num (IntKind.wrap IntKind.u64 p.key.asn) (4 : Int)))] (AVal.tup []))
  (Tree.need
  (ALeL [AVal.ptr 0 0, AVal.imm (IVal.v (Value.int IntKind.u64 (IntKind.wrap IntKind.u64 p.key.height))), AVal.imm (IVal.v (Value.int IntKind.i64 (1 : Int)))]
  [AVal.ptr 0 0, AVal.imm (u64 (IntKind.wrap IntKind.u64 p.key.height)), AVal.imm (i64 (1 : Int))] ∧
  GSpec prog 77 [(92, AVal.agg [AVal.own 1 (List.length (num (IntKind.wrap IntKind.u64 p.key.asn) (4 : Int)))])] [(5, 1, List.map u8 (num (IntKind.wrap IntKind.u64 p.key.asn) (4 : Int)))]
  [AVal.ptr 0 0, AVal.imm (u64 (IntKind.wrap IntKind.u64 p.key.height)), AVal.imm (i64 (1 : Int))]
  [(92, AVal.agg [AVal.own 1 (List.length (num (IntKind.wrap IntKind.u64 p.key.asn) (4 : Int) ++ num (IntKind.wrap IntKind.u64 p.key.height) (1 : Int)))])]
  [Entry.row 5 1 (List.map u8 (num (IntKind.wrap IntKind.u64 p.key.asn) (4 : Int) ++ num (IntKind.wrap IntKind.u64 p.key.height) (1 : Int)))] (AVal.tup []))
  (Tree.need
  (askA none
  (List.length (List.map u8 (num (IntKind.wrap IntKind.u64 p.key.asn) (4 : Int) ++ num (IntKind.wrap IntKind.u64 p.key.height) (1 : Int))) =
  List.length (num (IntKind.wrap IntKind.u64 p.key.asn) (4 : Int) ++ num (IntKind.wrap IntKind.u64 p.key.height) (1 : Int)) ∧
  cellsOk (List.map u8 (num (IntKind.wrap IntKind.u64 p.key.asn) (4 : Int) ++ num (IntKind.wrap IntKind.u64 p.key.height) (1 : Int))) = true ∧
  true = true ∧ List.length (num (IntKind.wrap IntKind.u64 p.key.asn) (4 : Int) ++ num (IntKind.wrap IntKind.u64 p.key.height) (1 : Int)) + 16 ≤ 1000000))
  (Tree.need
  ([(ls 0, 92, AVal.agg [AVal.own 1 (List.length (num (IntKind.wrap IntKind.u64 p.key.asn) (4 : Int) ++ num (IntKind.wrap IntKind.u64 p.key.height) (1 : Int)) + 16)])] =
  [(ls 0, 92, AVal.agg [AVal.own 1 (List.length (rs64 p))])] ∧
  ELeL
  [Entry.row 5 1
  (List.map u8 (num (IntKind.wrap IntKind.u64 p.key.asn) (4 : Int) ++ num (IntKind.wrap IntKind.u64 p.key.height) (1 : Int)) ++
  [u8 p.key.root[0], u8 p.key.root[1], u8 p.key.root[2], u8 p.key.root[3], u8 p.key.root[4], u8 p.key.root[5], u8 p.key.root[6], u8 p.key.root[7],
  u8 p.key.root[8], u8 p.key.root[9], u8 p.key.root[10], u8 p.key.root[11], u8 p.key.root[12], u8 p.key.root[13], u8 p.key.root[14], u8 p.key.root[15]])]
  [Entry.row 5 1 (List.map u8 (rs64 p))] ∧
  ALe (AVal.tup []) (AVal.tup []))
  (Tree.done Exit.ret lnil)))) := by kernel_rfl
theorem g64 (p : Pdu) : GSpec prog 64 [(92, .agg [.imm (.v (.slice none 0 0))])] [] [.imm (encD p), .ptr 0 0] [(92, .agg [.own 1 (rs64 p).length])] [.row 5 1 ((rs64 p).map u8)] (.tup []) := by
  refine GSpec.tree Proofs.Try.f64 (fun ls => T64 ls p) (by kernel_rfl) (by kernel_rfl) rfl fun ls => ?_
  rw [t64]
  refine need_sat ⟨ALeL.refl _, g77' _ _ ?_ ?_⟩ (need_sat ⟨ALeL.refl _, g77 _ _ _ _ ?_ ?_ ?_ ?_⟩ (need_sat ?_ (need_sat ?_ (trivial))))
  all_goals try first
    | omega
    | rfl
    | (simp [flI_len, num_len, rs49]; done)
    | (simp [flI_len, num_len, rs49]; omega)
    | (simp only [decide_eq_true_eq, decide_eq_false_iff_not] at *; exfalso; omega)
    | exact ⟨rfl, .refl _, .refl _⟩
  · exact ⟨by simp [num_len], cellsOk_map u8 (fun _ => rfl) _, rfl, by simp [num_len]⟩
  · refine fin5' (b := num (w64 p.key.asn) 4 ++ num (w64 p.key.height) 1 ++ rootL p.key) (by simp [rootL, num_len]) (by simp [rootL]) (by simp [rs64])
def rs69 (p : Pdu) : List Int := num (w64 p.copy.length) 4 ++ p.copy ++ num (w64 p.text.size) 4 ++ bytesL p.text
def T69 (ls : Nat → Abs.Loc) (p : Pdu) : Tell :=
  Tell.mk (fun x x_1 => false) (fun x x_1 => Orc.no) (fun x => Tree.fail 1000003 0) (fun x => 0) (fun x => ([], []))
  (oget
  [(2, 1, 6,
  Orc.callg [0] 1 [AVal.ptr 0 0, AVal.imm (u64 (IntKind.wrap IntKind.u64 (↑(List.length (List.map u8 p.copy)) : Int))), AVal.imm (i64 (4 : Int))]
  [(92, AVal.agg [AVal.own 1 (List.length (num (IntKind.wrap IntKind.u64 (↑(List.length (List.map u8 p.copy)) : Int)) (4 : Int)))])]
  [Entry.row 5 1 (List.map u8 (num (IntKind.wrap IntKind.u64 (↑(List.length (List.map u8 p.copy)) : Int)) (4 : Int)))] (AVal.tup [])),
  (22, 3, 6,
  Orc.callg [0, 18] 1 [AVal.ptr 0 0, AVal.imm (u64 (IntKind.wrap IntKind.u64 (↑(ByteArray.size p.text) : Int))), AVal.imm (i64 (4 : Int))]
  [(92,
  AVal.agg [AVal.own 1 (List.length (num (IntKind.wrap IntKind.u64 (↑(List.length (List.map u8 p.copy)) : Int)) (4 : Int) ++ p.copy ++ num (IntKind.wrap IntKind.u64 (↑(ByteArray.size p.text) : Int)) (4 : Int)))])]
  [Entry.row 5 1 (List.map u8 (num (IntKind.wrap IntKind.u64 (↑(List.length (List.map u8 p.copy)) : Int)) (4 : Int) ++ p.copy ++ num (IntKind.wrap IntKind.u64 (↑(ByteArray.size p.text) : Int)) (4 : Int)))]
  (AVal.tup []))])
  fun x x_1 => Tree.fail 1000003 0
theorem t69 (ls : Nat → Abs.Loc) (p : Pdu) : levG prog Proofs.Try.f69 ls [(92, .agg [.imm (.v (.slice none 0 0))])] [] [.imm (encD p), .ptr 0 0] [(92, .agg [.own 1 (rs69 p).length])] [.row 5 1 ((rs69 p).map u8)] (.tup []) (T69 ls p) =
  Tree.need
  (ALeL [AVal.ptr 0 0, AVal.imm (IVal.v (Value.int IntKind.u64 (IntKind.wrap IntKind.u64 (↑(List.length (List.map u8 p.copy)) : Int)))), AVal.imm (IVal.v (Value.int IntKind.i64 (4 : Int)))]
  [AVal.ptr 0 0, AVal.imm (u64 (IntKind.wrap IntKind.u64 (↑(List.length (List.map u8 p.copy)) : Int))), AVal.imm (i64 (4 : Int))] ∧
  GSpec prog 77 [(92, AVal.agg [AVal.imm (IVal.v (Value.slice none 0 0))])] []
  [AVal.ptr 0 0, AVal.imm (u64 (IntKind.wrap IntKind.u64 (↑(List.length (List.map u8 p.copy)) : Int))), AVal.imm (i64 (4 : Int))]
  [(92, AVal.agg [AVal.own 1 (List.length (num (IntKind.wrap IntKind.u64 (↑(List.length (List.map u8 p.copy)) : Int)) (4 : Int)))])]
  [Entry.row 5 1 (List.map u8 (num (IntKind.wrap IntKind.u64 (↑(List.length (List.map u8 p.copy)) : Int)) (4 : Int)))] (AVal.tup []))
  (Tree.need
  (askA none
  (List.length (List.map u8 (num (IntKind.wrap IntKind.u64 (↑(List.length (List.map u8 p.copy)) : Int)) (4 : Int))) = List.length (num (IntKind.wrap IntKind.u64 (↑(List.length (List.map u8 p.copy)) : Int)) (4 : Int)) ∧
  cellsOk (List.map u8 (num (IntKind.wrap IntKind.u64 (↑(List.length (List.map u8 p.copy)) : Int)) (4 : Int))) = true ∧
  cellsOk (List.map u8 p.copy) = true ∧ List.length (num (IntKind.wrap IntKind.u64 (↑(List.length (List.map u8 p.copy)) : Int)) (4 : Int)) + List.length (List.map u8 p.copy) ≤ 1000000))
  (Tree.need
  (ALeL [AVal.ptr 0 0, AVal.imm (IVal.v (Value.int IntKind.u64 (IntKind.wrap IntKind.u64 (↑(ByteArray.size p.text) : Int)))), AVal.imm (IVal.v (Value.int IntKind.i64 (4 : Int)))]
  [AVal.ptr 0 0, AVal.imm (u64 (IntKind.wrap IntKind.u64 (↑(ByteArray.size p.text) : Int))), AVal.imm (i64 (4 : Int))] ∧
  GSpec prog 77 [(92, AVal.agg [AVal.own 1 (List.length (num (IntKind.wrap IntKind.u64 (↑(List.length (List.map u8 p.copy)) : Int)) (4 : Int)) + List.length (List.map u8 p.copy))])]
  [(5, 1, List.map u8 (num (IntKind.wrap IntKind.u64 (↑(List.length (List.map u8 p.copy)) : Int)) (4 : Int)) ++ List.map u8 p.copy)]
  [AVal.ptr 0 0, AVal.imm (u64 (IntKind.wrap IntKind.u64 (↑(ByteArray.size p.text) : Int))), AVal.imm (i64 (4 : Int))]
  [(92,
  AVal.agg [AVal.own 1 (List.length (num (IntKind.wrap IntKind.u64 (↑(List.length (List.map u8 p.copy)) : Int)) (4 : Int) ++ p.copy ++ num (IntKind.wrap IntKind.u64 (↑(ByteArray.size p.text) : Int)) (4 : Int)))])]
  [Entry.row 5 1 (List.map u8 (num (IntKind.wrap IntKind.u64 (↑(List.length (List.map u8 p.copy)) : Int)) (4 : Int) ++ p.copy ++ num (IntKind.wrap IntKind.u64 (↑(ByteArray.size p.text) : Int)) (4 : Int)))]
  (AVal.tup []))
  (Tree.need
  (askA none
  (List.length (List.map u8 (num (IntKind.wrap IntKind.u64 (↑(List.length (List.map u8 p.copy)) : Int)) (4 : Int) ++ p.copy ++ num (IntKind.wrap IntKind.u64 (↑(ByteArray.size p.text) : Int)) (4 : Int))) =
  List.length (num (IntKind.wrap IntKind.u64 (↑(List.length (List.map u8 p.copy)) : Int)) (4 : Int) ++ p.copy ++ num (IntKind.wrap IntKind.u64 (↑(ByteArray.size p.text) : Int)) (4 : Int)) ∧
  cellsOk (List.map u8 (num (IntKind.wrap IntKind.u64 (↑(List.length (List.map u8 p.copy)) : Int)) (4 : Int) ++ p.copy ++ num (IntKind.wrap IntKind.u64 (↑(ByteArray.size p.text) : Int)) (4 : Int))) = true ∧
  cellsOk (List.map (fun b => IVal.v (Value.int IntKind.u8 (↑(UInt8.toNat b) : Int))) p.text.data.toList) = true ∧
  List.length (num (IntKind.wrap IntKind.u64 (↑(List.length (List.map u8 p.copy)) : Int)) (4 : Int) ++ p.copy ++ num (IntKind.wrap IntKind.u64 (↑(ByteArray.size p.text) : Int)) (4 : Int)) +
  List.length (List.map (fun b => IVal.v (Value.int IntKind.u8 (↑(UInt8.toNat b) : Int))) p.text.data.toList) ≤
  1000000))
  (Tree.need
  ([(ls 0, 92,
  AVal.agg
  [AVal.own 1
  (List.length (num (IntKind.wrap IntKind.u64 (↑(List.length (List.map u8 p.copy)) : Int)) (4 : Int) ++ p.copy ++ num (IntKind.wrap IntKind.u64 (↑(ByteArray.size p.text) : Int)) (4 : Int)) +
  List.length (List.map (fun b => IVal.v (Value.int IntKind.u8 (↑(UInt8.toNat b) : Int))) p.text.data.toList))])] =
  [(ls 0, 92, AVal.agg [AVal.own 1 (List.length (rs69 p))])] ∧
  ELeL
  [Entry.row 5 1
  (List.map u8 (num (IntKind.wrap IntKind.u64 (↑(List.length (List.map u8 p.copy)) : Int)) (4 : Int) ++ p.copy ++ num (IntKind.wrap IntKind.u64 (↑(ByteArray.size p.text) : Int)) (4 : Int)) ++
  List.map (fun b => IVal.v (Value.int IntKind.u8 (↑(UInt8.toNat b) : Int))) p.text.data.toList)]
  [Entry.row 5 1 (List.map u8 (rs69 p))] ∧
  ALe (AVal.tup []) (AVal.tup []))
  (Tree.done Exit.ret lnil))))) := by kernel_rfl
theorem g69 (p : Pdu) (hc : p.copy.length ≤ 100000) (ht : p.text.size ≤ 100000) : GSpec prog 69 [(92, .agg [.imm (.v (.slice none 0 0))])] [] [.imm (encD p), .ptr 0 0] [(92, .agg [.own 1 (rs69 p).length])] [.row 5 1 ((rs69 p).map u8)] (.tup []) := by
  refine GSpec.tree Proofs.Try.f69 (fun ls => T69 ls p) (by kernel_rfl) (by kernel_rfl) rfl fun ls => ?_
  rw [t69]
  refine need_sat ⟨ALeL.refl _, g77' _ _ ?_ ?_⟩ (need_sat ?_ (need_sat ⟨ALeL.refl _, ?_⟩ (need_sat ?_ (need_sat ?_ (trivial)))))
  all_goals try first
    | omega
    | rfl
    | (simp [flI_len, num_len, rs49]; done)
    | (simp [flI_len, num_len, rs49]; omega)
    | (simp only [decide_eq_true_eq, decide_eq_false_iff_not] at *; exfalso; omega)
    | exact ⟨rfl, .refl _, .refl _⟩
  · exact ⟨by simp, cellsOk_map u8 (fun _ => rfl) _, cellsOk_map u8 (fun _ => rfl) _, by simp [num_len]; omega⟩
  · exact (g77 (num (w64 ((List.map u8 p.copy).length : Int)) 4 ++ p.copy) _ 4 _ (by omega) (by omega) (by simp) (by simp [num_len]; omega)).rw1 (by simp)
  · exact ⟨by simp, cellsOk_map u8 (fun _ => rfl) _, cellsOk_map _ (fun _ => rfl) _, by have : p.text.data.size = p.text.size := rfl; simp [num_len]; omega⟩
  · refine fin5' (b := num (w64 p.copy.length) 4 ++ p.copy ++ num (w64 p.text.size) 4 ++ bytesL p.text) (by simp [bytesL, num_len]; omega) (by simp [bytesL, Function.comp_def, u8]) rfl
end Gp
namespace Gp
def pvL (l : List Int) : List Int := l.flatMap fun x => num (w64 x) 4
theorem pvL_len (l : List Int) : (pvL l).length = 4 * l.length := by
  induction l with
  | nil => rfl
  | cons x l ih => simp only [pvL, List.flatMap_cons, List.length_append, num_len] at *; simp only [ih, List.length_cons]; show 4 + _ = _; omega
theorem pvL_take (l : List Int) (i : Nat) (h : i < l.length) : pvL (l.take (i + 1)) = pvL (l.take i) ++ num (w64 (l.getD i 0)) 4 := by
  rw [List.take_succ_eq_append_getElem h, pvL, List.flatMap_append]
  simp [pvL, List.getD_eq_getElem?_getD, List.getElem?_eq_getElem h]
def rs73 (p : Pdu) : List Int := num (w64 p.path.cust) 4 ++ pvL p.path.provs
def b73 (p : Pdu) (i : Nat) : List Int := num (w64 p.path.cust) 4 ++ pvL (p.path.provs.take i)
def I73 (ls : Nat → Abs.Loc) (p : Pdu) (i : Nat) : LState := { t := [(18, .imm (i64 i)), (17, .imm (i64 p.path.provs.length)), (16, .imm (lu32 p.path.provs)), (1, .ptr 0 0)], s := [(0, .bbox (ls 0) 92 (.agg [.own 50 (b73 p i).length])), (50, .row 5 1 ((b73 p i).map u8))], m := 27, n := 60 }
def E73 (ls : Nat → Abs.Loc) (p : Pdu) : LState := { t := [], s := [(0, .bbox (ls 0) 92 (.agg [.own 50 (rs73 p).length])), (50, .row 5 1 ((rs73 p).map u8))], m := 27, n := 60 }
def fin73 : Exit → Nat → Fin
  | .normal, n => ⟨[(50, 59), (n - 4, 50)], [18, 17, 16, 1], [0, 50]⟩
  | _, _ => ⟨[], [], [0, 50]⟩
def T73r (ls : Nat → Abs.Loc) (p : Pdu) (i : Nat) : Tell :=
  Tell.mk (fun x x_1 => false) (fun x x_1 => Orc.no) (fun x => Tree.fail 1000003 0) (fun x => 0) (fun x => ([], []))
  (oget
  [(61, 4, 0, Orc.elem (u32 (List.getD p.path.provs i default))),
  (64, 5, 3,
  Orc.callg [0, 50] 1 [AVal.ptr 0 0, AVal.imm (u64 (IntKind.wrap IntKind.u64 (List.getD p.path.provs i (0 : Int)))), AVal.imm (i64 (4 : Int))]
  [(92, AVal.agg [AVal.own 1 (List.length (b73 p i ++ num (IntKind.wrap IntKind.u64 (List.getD p.path.provs i (0 : Int))) (4 : Int)))])]
  [Entry.row 5 1 (List.map u8 (b73 p i ++ num (IntKind.wrap IntKind.u64 (List.getD p.path.provs i (0 : Int))) (4 : Int)))] (AVal.tup []))])
  fun x x_1 => Tree.fail 1000003 0
theorem t73r (ls : Nat → Abs.Loc) (p : Pdu) (i : Nat) : levLN prog Proofs.Try.f73 3 (I73 ls p i) (T73r ls p i) fin73 =
  Tree.br (decide ((↑i : Int) < (↑(List.length p.path.provs) : Int)))
  (Tree.need ((0 : Int) ≤ (↑i : Int) ∧ (List.map u32 p.path.provs)[i]? = some (u32 (List.getD p.path.provs i (0 : Int))))
  (Tree.need
  (ALeL [AVal.ptr 0 0, AVal.imm (IVal.v (Value.int IntKind.u64 (IntKind.wrap IntKind.u64 (List.getD p.path.provs i (0 : Int))))), AVal.imm (IVal.v (Value.int IntKind.i64 (4 : Int)))]
  [AVal.ptr 0 0, AVal.imm (u64 (IntKind.wrap IntKind.u64 (List.getD p.path.provs i (0 : Int)))), AVal.imm (i64 (4 : Int))] ∧
  GSpec prog 77 [(92, AVal.agg [AVal.own 1 (List.length (b73 p i))])] [(5, 1, List.map u8 (b73 p i))]
  [AVal.ptr 0 0, AVal.imm (u64 (IntKind.wrap IntKind.u64 (List.getD p.path.provs i (0 : Int)))), AVal.imm (i64 (4 : Int))]
  [(92, AVal.agg [AVal.own 1 (List.length (b73 p i ++ num (IntKind.wrap IntKind.u64 (List.getD p.path.provs i (0 : Int))) (4 : Int)))])]
  [Entry.row 5 1 (List.map u8 (b73 p i ++ num (IntKind.wrap IntKind.u64 (List.getD p.path.provs i (0 : Int))) (4 : Int)))] (AVal.tup []))
  (Tree.done Exit.normal
  (LState.mk
  [(18, AVal.imm (IVal.v (Value.int IntKind.i64 (IntKind.wrap IntKind.i64 ((↑i : Int) + (1 : Int)))))), (17, AVal.imm (i64 (↑(List.length p.path.provs) : Int))), (16, AVal.imm (lu32 p.path.provs)),
  (1, AVal.ptr 0 0)]
  [(0, Entry.bbox (ls 0) 92 (AVal.agg [AVal.own 50 (List.length (b73 p i ++ num (IntKind.wrap IntKind.u64 (List.getD p.path.provs i (0 : Int))) (4 : Int)))])),
  (50, Entry.row 5 1 (List.map u8 (b73 p i ++ num (IntKind.wrap IntKind.u64 (List.getD p.path.provs i (0 : Int))) (4 : Int))))]
  27 71 []))))
  (Tree.done (Exit.exit 0)
  (LState.mk [] [(0, Entry.bbox (ls 0) 92 (AVal.agg [AVal.own 50 (List.length (b73 p i))])), (50, Entry.row 5 1 (List.map u8 (b73 p i)))] 27 61 [])) := by kernel_rfl
def T73 (ls : Nat → Abs.Loc) (p : Pdu) : Tell :=
  Tell.mk (fun x x_1 => false) (fun x x_1 => Orc.no) (fun x => Tree.done (Exit.exit 0) (E73 ls p)) (fun x => 0)
  (fun x => ([18, 17, 16, 1], [0, 1, 2, 3, 4, 5, 6, 7, 8]))
  (oget
  [(2, 1, 6,
  Orc.callg [0] 1 [AVal.ptr 0 0, AVal.imm (u64 (IntKind.wrap IntKind.u64 p.path.cust)), AVal.imm (i64 (4 : Int))]
  [(92, AVal.agg [AVal.own 1 (List.length (num (IntKind.wrap IntKind.u64 p.path.cust) (4 : Int)))])] [Entry.row 5 1 (List.map u8 (num (IntKind.wrap IntKind.u64 p.path.cust) (4 : Int)))]
  (AVal.tup []))])
  fun x x_1 => Tree.done (Exit.exit 0) (E73 ls p)
theorem t73 (ls : Nat → Abs.Loc) (p : Pdu) : levG prog Proofs.Try.f73 ls [(92, .agg [.imm (.v (.slice none 0 0))])] [] [.imm (encD p), .ptr 0 0] [(92, .agg [.own 1 (rs73 p).length])] [.row 5 1 ((rs73 p).map u8)] (.tup []) (T73 ls p) =
  Tree.need
  (ALeL [AVal.ptr 0 0, AVal.imm (IVal.v (Value.int IntKind.u64 (IntKind.wrap IntKind.u64 p.path.cust))), AVal.imm (IVal.v (Value.int IntKind.i64 (4 : Int)))]
  [AVal.ptr 0 0, AVal.imm (u64 (IntKind.wrap IntKind.u64 p.path.cust)), AVal.imm (i64 (4 : Int))] ∧
  GSpec prog 77 [(92, AVal.agg [AVal.imm (IVal.v (Value.slice none 0 0))])] [] [AVal.ptr 0 0, AVal.imm (u64 (IntKind.wrap IntKind.u64 p.path.cust)), AVal.imm (i64 (4 : Int))]
  [(92, AVal.agg [AVal.own 1 (List.length (num (IntKind.wrap IntKind.u64 p.path.cust) (4 : Int)))])] [Entry.row 5 1 (List.map u8 (num (IntKind.wrap IntKind.u64 p.path.cust) (4 : Int)))] (AVal.tup []))
  (Tree.loop 3
  (LState.mk
  [(18, AVal.imm (IVal.v (Value.int IntKind.i64 (0 : Int)))), (17, AVal.imm (IVal.v (Value.int IntKind.i64 (↑(List.length (List.map u32 p.path.provs)) : Int)))), (16, AVal.imm (lu32 p.path.provs)),
  (1, AVal.ptr 0 0)]
  [(0, Entry.bbox (ls 0) 92 (AVal.agg [AVal.own 8 (List.length (num (IntKind.wrap IntKind.u64 p.path.cust) (4 : Int)))])), (1, Entry.box 85 (AVal.imm (encD p))),
  (8, Entry.row 5 1 (List.map u8 (num (IntKind.wrap IntKind.u64 p.path.cust) (4 : Int))))]
  27 16 [])
  (Tree.done (Exit.exit 0) (E73 ls p))
  (Tree.need
  ([(ls 0, 92, AVal.agg [AVal.own 1 (List.length (rs73 p))])] = [(ls 0, 92, AVal.agg [AVal.own 1 (List.length (rs73 p))])] ∧
  ELeL [Entry.row 5 1 (List.map u8 (rs73 p))] [Entry.row 5 1 (List.map u8 (rs73 p))] ∧ ALe (AVal.tup []) (AVal.tup []))
  (Tree.done Exit.ret lnil))) := by kernel_rfl
theorem l73 (ls : Nat → Abs.Loc) (p : Pdu) (hp : p.path.provs.length ≤ 100000) (σ : LState) (h : LSub σ (I73 ls p 0)) : LoopOk prog [] (bodyOf Proofs.Try.f73) 3 σ (.done (.exit 0) (E73 ls p)) := by
  refine LoopOk.countN p.path.provs.length 0 (I73 ls p) (E73 ls p) (T73r ls p) fin73 (by kernel_rfl) h fun i hi => ?_
  rw [t73r]
  have hb : (b73 p i).length = 4 + 4 * i := by simp [b73, num_len, pvL_len]; omega
  refine ⟨fun h1 => need_sat (elem_need ?_) (need_sat ⟨ALeL.refl _, g77 _ _ _ _ ?_ ?_ ?_ ?_⟩ ?_), fun h1 => ?_⟩
  · (refine ⟨by omega, ?_, ?_⟩ <;> (simp only [List.length_map, decide_eq_true_eq, decide_eq_false_iff_not, Int.toNat_natCast] at * <;> omega))
  · omega
  · omega
  · rfl
  · omega
  · have hlt : i < p.path.provs.length := by (simp only [List.length_map, decide_eq_true_eq, decide_eq_false_iff_not, Int.toNat_natCast] at * <;> omega)
    have e : b73 p i ++ num (IntKind.u64.wrap (p.path.provs.getD i 0)) 4 = b73 p (i + 1) := by rw [b73, b73, pvL_take _ _ hlt, List.append_assoc]
    rw [e]
    refine ⟨hlt, ⟨?_, rfl, rfl, rfl, trivial⟩, ⟨rfl, rfl, trivial⟩, rfl, rfl, rfl⟩
    exact congrArg (fun n => AVal.imm (i64 n)) (i64_small hlt (by omega))
  · have : i = p.path.provs.length := by (simp only [List.length_map, decide_eq_true_eq, decide_eq_false_iff_not, Int.toNat_natCast] at * <;> omega)
    subst this
    have e : b73 p p.path.provs.length = rs73 p := by rw [b73, rs73, List.take_length]
    rw [e]
    exact ⟨rfl, by omega, trivial, ⟨rfl, rfl, trivial⟩, rfl, rfl, rfl⟩
theorem g73 (p : Pdu) (hp : p.path.provs.length ≤ 100000) : GSpec prog 73 [(92, .agg [.imm (.v (.slice none 0 0))])] [] [.imm (encD p), .ptr 0 0] [(92, .agg [.own 1 (rs73 p).length])] [.row 5 1 ((rs73 p).map u8)] (.tup []) := by
  refine GSpec.tree Proofs.Try.f73 (fun ls => T73 ls p) (by kernel_rfl) (by kernel_rfl) rfl fun ls => ?_
  rw [t73]
  refine need_sat ⟨ALeL.refl _, g77' _ _ ?_ ?_⟩ ⟨?_, need_sat ?_ (trivial)⟩
  · omega
  · omega
  · have e : b73 p 0 = num (w64 p.path.cust) 4 := by simp [b73, pvL]
    refine .nam (τ := I73 ls p 0) (.more 60 (show 16 ≤ 60 by decide) (.sw 8 50 (show 8 < 60 by decide) (show 50 < 60 by decide) (.sub ?_))) (l73 ls p hp _ ?_)
    · refine ⟨⟨rfl, ?_, rfl, rfl, trivial⟩, ⟨?_, ?_, trivial⟩, rfl, rfl, rfl⟩
      · simp [tl, LState.swap, lrenT]; rfl
      · rw [e]; rfl
      · rw [e]; rfl
    · exact ⟨⟨rfl, rfl, rfl, rfl, trivial⟩, ⟨rfl, rfl, trivial⟩, rfl, rfl, rfl⟩
  · exact ⟨rfl, .refl _, .refl _⟩
end Gp
