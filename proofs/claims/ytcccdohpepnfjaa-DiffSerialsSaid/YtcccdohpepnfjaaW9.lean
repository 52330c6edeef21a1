/- PROVED HERE: the statement DiffSerialsSaid: whatever comes in, the law returns true and each argument reads as before. No condition. -/
import Derived.Test.YtcccdohpepnfjaaW8
import Derived.Test.YtcccdohpepnfjaaRows
import Derived.WalkKit
import Derived.ProofKit
import Derived.OpenShut
import Derived.ShutString
import Derived.ChangeOld
import Derived.Below
import Derived.Carry
set_option maxRecDepth 100000
set_option maxHeartbeats 0
set_option linter.unusedVariables false
set_option linter.unusedSimpArgs false
open Go Go.Abs
namespace Gp
def netP (a n : Int) : Pfx := ⟨4, ⟨0, IntKind.u64.wrap (a * 16777216)⟩, n⟩
def T58 (a n : Int) : Tell :=
  Tell.mk (fun x x_1 => false) (fun x x_1 => Orc.no) (fun x => Tree.fail 1000003 0) (fun x => 0) (fun x => ([], [])) (fun x x_1 x_2 => Orc.no) fun x x_1 => Tree.fail 1000003 0
theorem t58 (a n : Int) : levF prog Proofs.Try.f58 [u64 a, i64 n] (T58 a n) =
  Tree.need ((0 : Int) ≤ (24 : Int))
  (Tree.done Exit.ret (lret (IVal.agg [IVal.v (Value.int IntKind.u8 (4 : Int)), IVal.v (Value.int IntKind.u64 (0 : Int)), IVal.v (Value.int IntKind.u64 (IntKind.wrap IntKind.u64 (a * (16777216 : Int)))), i64 n]))) := by kernel_rfl
theorem c58 (a n : Int) : ASpec prog 58 [u64 a, i64 n] (encP (netP a n)) := by
  refine ASpec.treeW Proofs.Try.f58 (T58 a n) (by kernel_rfl) (by kernel_rfl) (t58 a n) ?_
  refine need_sat ?_ ⟨_, rfl, ?_⟩
  · decide
  · exact .refl _
def oneP (l : List Int) : Payload := ⟨[⟨10, netP 10 8, 8⟩], [⟨1, l⟩], []⟩
def T23 (l : List Int) : Tell :=
  Tell.mk (fun x x_1 => false) (fun x x_1 => Orc.no) (fun x => Tree.fail 1000003 0) (fun x => 0) (fun x => ([], []))
  (oget [(1, 1, 0, Orc.call [u64 (10 : Int), i64 (8 : Int)] (encP (netP (10 : Int) (8 : Int))))]) fun x x_1 => Tree.fail 1000003 0
theorem t23 (l : List Int) : levF prog Proofs.Try.f23 [lu32 l] (T23 l) =
  Tree.need (ILeL [IVal.v (Value.int IntKind.u64 (10 : Int)), IVal.v (Value.int IntKind.i64 (8 : Int))] [u64 (10 : Int), i64 (8 : Int)] ∧ ASpec prog 58 [u64 (10 : Int), i64 (8 : Int)] (encP (netP (10 : Int) (8 : Int))))
  (Tree.need (eqs [(1, 1), (1, 1)])
  (Tree.done Exit.ret
  (lret
  (IVal.agg
  [IVal.sl true false 6
  [IVal.agg
  [IVal.v (Value.int IntKind.u32 (10 : Int)), u8 (netP (10 : Int) (8 : Int)).fam, u64 (netP (10 : Int) (8 : Int)).addr.hi, u64 (netP (10 : Int) (8 : Int)).addr.lo, i64 (netP (10 : Int) (8 : Int)).len,
  IVal.v (Value.int IntKind.i64 (8 : Int))]],
  IVal.sl true false 2 [IVal.agg [IVal.v (Value.int IntKind.u32 (1 : Int)), lu32 l]], IVal.v (Value.slice none 0 0)])))) := by kernel_rfl
theorem c23 (l : List Int) : ASpec prog 23 [lu32 l] (encL (oneP l)) := by
  refine ASpec.treeW Proofs.Try.f23 (T23 l) (by kernel_rfl) (by kernel_rfl) (t23 l) ?_
  refine need_sat ⟨ILeL.refl _, c58 _ _⟩ (need_sat ?_ ⟨_, rfl, ?_⟩)
  · exact ⟨rfl, rfl, trivial⟩
  · exact .agg (.cons (ile_sl (.refl _)) (.cons (ile_sl (.refl _)) (.cons (.nil _ _ _) (.refl _))))
def B17 : Tell := { fz := fun r i => (r == 1 && i == 0) || (r == 1 && i == 2) || (r == 2 && i == 0) || (r == 2 && i == 4) || (r == 3 && i == 0) || (r == 6 && i == 13) }
def T17 : Tell :=
  Tell.mk (fun r i => r == 1 && i == 0 || r == 1 && i == 2 || r == 2 && i == 0 || r == 2 && i == 4 || r == 3 && i == 0 || r == 6 && i == 13)
  (fun x x_1 => Orc.no) (fun x => Tree.fail 1000003 0) (fun x => 0) (fun x => ([], []))
  (oget
  [(1, 1, 1, Orc.call [lu32 [(2 : Int)]] (encL (oneP [(2 : Int)]))), (1, 1, 3, Orc.call [lu32 [(2 : Int), (3 : Int)]] (encL (oneP [(2 : Int), (3 : Int)]))),
  (1, 1, 4,
  Orc.call [encL (oneP [(2 : Int)]), encL (oneP [(2 : Int), (3 : Int)])] (IVal.tup [encD (betweenS (oneP [(2 : Int)]) (oneP [(2 : Int), (3 : Int)])).fst, i64 (betweenS (oneP [(2 : Int)]) (oneP [(2 : Int), (3 : Int)])).snd])),
  (12, 2, 1, Orc.call [lu32 [(2 : Int)]] (encL (oneP [(2 : Int)]))), (12, 2, 5, Orc.call [lu32 [(2 : Int), (3 : Int)]] (encL (oneP [(2 : Int), (3 : Int)]))),
  (23, 3, 1, Orc.call [lu32 [(2 : Int)]] (encL (oneP [(2 : Int)]))),
  (23, 3, 3,
  Orc.call [encL (oneP [(2 : Int)]), encD (betweenS (oneP [(2 : Int)]) (oneP [(2 : Int), (3 : Int)])).fst]
  (IVal.tup [encL (applyS (oneP [(2 : Int)]) (betweenS (oneP [(2 : Int)]) (oneP [(2 : Int), (3 : Int)])).fst).fst, i64 (applyS (oneP [(2 : Int)]) (betweenS (oneP [(2 : Int)]) (oneP [(2 : Int), (3 : Int)])).fst).snd])),
  (33, 4, 0, Orc.call [u32 (4294967295 : Int), u32 (0 : Int)] (IVal.tup [bo (beforeS (4294967295 : Int) (0 : Int)).fst, i64 (beforeS (4294967295 : Int) (0 : Int)).snd])),
  (39, 5, 0, Orc.call [u32 (0 : Int), u32 (2147483648 : Int)] (IVal.tup [bo (beforeS (0 : Int) (2147483648 : Int)).fst, i64 (beforeS (0 : Int) (2147483648 : Int)).snd])),
  (45, 6, 5,
  Orc.call [encD (betweenS (oneP [(2 : Int)]) (oneP [(2 : Int), (3 : Int)])).fst, encD (Diff.mk (Payload.mk [] (oneP [(2 : Int)]).paths []) (Payload.mk [] (oneP [(2 : Int), (3 : Int)]).paths []))]
  (bo (decide ((betweenS (oneP [(2 : Int)]) (oneP [(2 : Int), (3 : Int)])).fst = Diff.mk (Payload.mk [] (oneP [(2 : Int)]).paths []) (Payload.mk [] (oneP [(2 : Int), (3 : Int)]).paths []))))),
  (45, 6, 14, Orc.call [lu32 [(2 : Int), (3 : Int)]] (encL (oneP [(2 : Int), (3 : Int)]))),
  (45, 6, 15,
  Orc.call [encL (applyS (oneP [(2 : Int)]) (betweenS (oneP [(2 : Int)]) (oneP [(2 : Int), (3 : Int)])).fst).fst, encL (oneP [(2 : Int), (3 : Int)])]
  (bo (decide ((applyS (oneP [(2 : Int)]) (betweenS (oneP [(2 : Int)]) (oneP [(2 : Int), (3 : Int)])).fst).fst = oneP [(2 : Int), (3 : Int)]))))])
  fun x x_1 => Tree.fail 1000003 0
theorem t17 : levF prog Proofs.Try.f17 [] T17 =
  Tree.need (ILeL [IVal.sl true false 1 [IVal.v (Value.int IntKind.u32 (2 : Int))]] [lu32 [(2 : Int)]] ∧ ASpec prog 23 [lu32 [(2 : Int)]] (encL (oneP [(2 : Int)])))
  (Tree.need
  (ILeL [IVal.sl true false 1 [IVal.v (Value.int IntKind.u32 (2 : Int)), IVal.v (Value.int IntKind.u32 (3 : Int))]] [lu32 [(2 : Int), (3 : Int)]] ∧
  ASpec prog 23 [lu32 [(2 : Int), (3 : Int)]] (encL (oneP [(2 : Int), (3 : Int)])))
  (Tree.need
  (ILeL [encL (oneP [(2 : Int)]), encL (oneP [(2 : Int), (3 : Int)])] [encL (oneP [(2 : Int)]), encL (oneP [(2 : Int), (3 : Int)])] ∧
  ASpec prog 24 [encL (oneP [(2 : Int)]), encL (oneP [(2 : Int), (3 : Int)])] (IVal.tup [encD (betweenS (oneP [(2 : Int)]) (oneP [(2 : Int), (3 : Int)])).fst, i64 (0 : Int)]))
  (Tree.need (ILeL [IVal.sl true false 1 [IVal.v (Value.int IntKind.u32 (2 : Int))]] [lu32 [(2 : Int)]] ∧ ASpec prog 23 [lu32 [(2 : Int)]] (encL (oneP [(2 : Int)])))
  (Tree.need
  (ILeL [IVal.sl true false 1 [IVal.v (Value.int IntKind.u32 (2 : Int)), IVal.v (Value.int IntKind.u32 (3 : Int))]] [lu32 [(2 : Int), (3 : Int)]] ∧
  ASpec prog 23 [lu32 [(2 : Int), (3 : Int)]] (encL (oneP [(2 : Int), (3 : Int)])))
  (Tree.need (ILeL [IVal.sl true false 1 [IVal.v (Value.int IntKind.u32 (2 : Int))]] [lu32 [(2 : Int)]] ∧ ASpec prog 23 [lu32 [(2 : Int)]] (encL (oneP [(2 : Int)])))
  (Tree.need
  (ILeL [encL (oneP [(2 : Int)]), encD (betweenS (oneP [(2 : Int)]) (oneP [(2 : Int), (3 : Int)])).fst] [encL (oneP [(2 : Int)]), encD (betweenS (oneP [(2 : Int)]) (oneP [(2 : Int), (3 : Int)])).fst] ∧
  ASpec prog 19 [encL (oneP [(2 : Int)]), encD (betweenS (oneP [(2 : Int)]) (oneP [(2 : Int), (3 : Int)])).fst]
  (IVal.tup [encL (applyS (oneP [(2 : Int)]) (betweenS (oneP [(2 : Int)]) (oneP [(2 : Int), (3 : Int)])).fst).fst, i64 (0 : Int)]))
  (Tree.need
  (ILeL [IVal.v (Value.int IntKind.u32 (4294967295 : Int)), IVal.v (Value.int IntKind.u32 (0 : Int))] [u32 (4294967295 : Int), u32 (0 : Int)] ∧
  ASpec prog 11 [u32 (4294967295 : Int), u32 (0 : Int)] (IVal.tup [bo true, i64 (0 : Int)]))
  (Tree.need
  (ILeL [IVal.v (Value.int IntKind.u32 (0 : Int)), IVal.v (Value.int IntKind.u32 (2147483648 : Int))] [u32 (0 : Int), u32 (2147483648 : Int)] ∧
  ASpec prog 11 [u32 (0 : Int), u32 (2147483648 : Int)] (IVal.tup [bo false, i64 (2 : Int)]))
  (Tree.br true
  (Tree.need
  (ILeL
  [encD (betweenS (oneP [(2 : Int)]) (oneP [(2 : Int), (3 : Int)])).fst,
  IVal.agg
  [IVal.v (Value.slice none 0 0), slE 2 encT (oneP [(2 : Int)]).paths, IVal.v (Value.slice none 0 0), IVal.v (Value.slice none 0 0),
  slE 2 encT (oneP [(2 : Int), (3 : Int)]).paths, IVal.v (Value.slice none 0 0)]]
  [encD (betweenS (oneP [(2 : Int)]) (oneP [(2 : Int), (3 : Int)])).fst, encD (Diff.mk (Payload.mk [] (oneP [(2 : Int)]).paths []) (Payload.mk [] (oneP [(2 : Int), (3 : Int)]).paths []))] ∧
  ASpec prog 21 [encD (betweenS (oneP [(2 : Int)]) (oneP [(2 : Int), (3 : Int)])).fst, encD (Diff.mk (Payload.mk [] (oneP [(2 : Int)]).paths []) (Payload.mk [] (oneP [(2 : Int), (3 : Int)]).paths []))]
  (bo true))
  (Tree.br true
  (Tree.br true
  (Tree.need
  (ILeL [IVal.sl true false 1 [IVal.v (Value.int IntKind.u32 (2 : Int)), IVal.v (Value.int IntKind.u32 (3 : Int))]] [lu32 [(2 : Int), (3 : Int)]] ∧
  ASpec prog 23 [lu32 [(2 : Int), (3 : Int)]] (encL (oneP [(2 : Int), (3 : Int)])))
  (Tree.need
  (ILeL [encL (applyS (oneP [(2 : Int)]) (betweenS (oneP [(2 : Int)]) (oneP [(2 : Int), (3 : Int)])).fst).fst, encL (oneP [(2 : Int), (3 : Int)])]
  [encL (applyS (oneP [(2 : Int)]) (betweenS (oneP [(2 : Int)]) (oneP [(2 : Int), (3 : Int)])).fst).fst, encL (oneP [(2 : Int), (3 : Int)])] ∧
  ASpec prog 16 [encL (applyS (oneP [(2 : Int)]) (betweenS (oneP [(2 : Int)]) (oneP [(2 : Int), (3 : Int)])).fst).fst, encL (oneP [(2 : Int), (3 : Int)])] (bo true))
  (Tree.br true (Tree.br true (Tree.br true (Tree.done Exit.ret (lret (IVal.v (Value.bool true)))) (Tree.done Exit.ret (lret (IVal.v (Value.bool false))))) (Tree.done Exit.ret (lret (IVal.v (Value.bool false)))))
  (Tree.done Exit.ret (lret (IVal.v (Value.bool false)))))))
  (Tree.done Exit.ret (lret (IVal.v (Value.bool false)))))
  (Tree.done Exit.ret (lret (IVal.v (Value.bool false))))))
  (Tree.done Exit.ret (lret (IVal.v (Value.bool false))))))))))))) := by kernel_rfl
theorem sm_of {p : Payload} (h : (decide (p.origins.length ≤ 3000) && decide (p.paths.length ≤ 3000) && decide (p.keys.length ≤ 3000) && p.paths.all fun a => decide (a.provs.length ≤ 1000000)) = true) : p.sm := by
  simp only [Bool.and_eq_true, decide_eq_true_eq, List.all_eq_true] at h
  exact ⟨h.1.1.1, h.1.1.2, h.1.2, h.2⟩
theorem c17 : ASpec prog 17 [] (bo true) := by
  refine ASpec.treeW Proofs.Try.f17 T17 (by kernel_rfl) (by kernel_rfl) t17 ?_
  refine need_sat ⟨(by repeat' first | exact ILeL.refl _ | exact ILe.refl _ | exact ILe.nil _ _ _ | exact ILe.sl (fun h => by cases h) (fun h => h) (ILeL.refl _) | apply ILeL.cons | apply ILe.agg | apply ILe.tup), c23 _⟩ (need_sat ⟨(by repeat' first | exact ILeL.refl _ | exact ILe.refl _ | exact ILe.nil _ _ _ | exact ILe.sl (fun h => by cases h) (fun h => h) (ILeL.refl _) | apply ILeL.cons | apply ILe.agg | apply ILe.tup), c23 _⟩ (need_sat ⟨ILeL.refl _, c24 _ _ ?_ ?_⟩ (need_sat ⟨(by repeat' first | exact ILeL.refl _ | exact ILe.refl _ | exact ILe.nil _ _ _ | exact ILe.sl (fun h => by cases h) (fun h => h) (ILeL.refl _) | apply ILeL.cons | apply ILe.agg | apply ILe.tup), c23 _⟩ (need_sat ⟨(by repeat' first | exact ILeL.refl _ | exact ILe.refl _ | exact ILe.nil _ _ _ | exact ILe.sl (fun h => by cases h) (fun h => h) (ILeL.refl _) | apply ILeL.cons | apply ILe.agg | apply ILe.tup), c23 _⟩ (need_sat ⟨(by repeat' first | exact ILeL.refl _ | exact ILe.refl _ | exact ILe.nil _ _ _ | exact ILe.sl (fun h => by cases h) (fun h => h) (ILeL.refl _) | apply ILeL.cons | apply ILe.agg | apply ILe.tup), c23 _⟩ (need_sat ⟨ILeL.refl _, c19 _ _ ?_ ?_⟩ (need_sat ⟨ILeL.refl _, c11 _ _⟩ (need_sat ⟨ILeL.refl _, c11 _ _⟩ ⟨fun _ => need_sat ⟨(by repeat' first | exact ILeL.refl _ | exact ILe.refl _ | exact ILe.nil _ _ _ | exact ILe.sl (fun h => by cases h) (fun h => h) (ILeL.refl _) | apply ILeL.cons | apply ILe.agg | apply ILe.tup), c21 _ _ ?_⟩ ⟨fun _ => ⟨fun _ => need_sat ⟨(by repeat' first | exact ILeL.refl _ | exact ILe.refl _ | exact ILe.nil _ _ _ | exact ILe.sl (fun h => by cases h) (fun h => h) (ILeL.refl _) | apply ILeL.cons | apply ILe.agg | apply ILe.tup), c23 _⟩ (need_sat ⟨ILeL.refl _, c16 _ _ ?_⟩ ⟨fun _ => ⟨fun _ => ⟨fun _ => ⟨_, rfl, ?_⟩, fun h => (by cases h)⟩, fun h => (by cases h)⟩, fun h => (by cases h)⟩), fun h => (by cases h)⟩, fun h => (by cases h)⟩, fun h => (by cases h)⟩))))))))
  all_goals first
    | exact .refl _
    | exact sm_of (by kernel_rfl)
    | exact ⟨sm_of (by kernel_rfl), sm_of (by kernel_rfl)⟩
    | exact (sm_of (by kernel_rfl)).ok
def T4 (a b c : Int) : Tell :=
  Tell.mk (fun x x_1 => false) (fun x x_1 => Orc.no) (fun x => Tree.fail 1000003 0) (fun x => 0) (fun x => ([], []))
  (oget
  [(1, 1, 0, Orc.call [] (bo true)), (3, 2, 2, Orc.call [u32 a, u32 b] (IVal.tup [bo (beforeS a b).fst, i64 (beforeS a b).snd])),
  (11, 3, 2, Orc.call [u32 b, u32 a] (IVal.tup [bo (beforeS b a).fst, i64 (beforeS b a).snd])),
  (19, 4, 6,
  Orc.call [u32 (IntKind.wrap IntKind.u32 (a + c)), u32 (IntKind.wrap IntKind.u32 (b + c))]
  (IVal.tup [bo (beforeS (IntKind.wrap IntKind.u32 (a + c)) (IntKind.wrap IntKind.u32 (b + c))).fst, i64 (beforeS (IntKind.wrap IntKind.u32 (a + c)) (IntKind.wrap IntKind.u32 (b + c))).snd])),
  (74, 12, 4,
  Orc.call [u32 a, u32 (IntKind.wrap IntKind.u32 (a + Int.tmod c (2147483648 : Int)))]
  (IVal.tup [bo (beforeS a (IntKind.wrap IntKind.u32 (a + Int.tmod c (2147483648 : Int)))).fst, i64 (beforeS a (IntKind.wrap IntKind.u32 (a + Int.tmod c (2147483648 : Int)))).snd]))])
  fun x x_1 => Tree.fail 1000003 0
theorem t4 (a b c : Int) : levF prog Proofs.Try.f4 [u32 a, u32 b, u32 c] (T4 a b c) =
  Tree.need (ILeL [] [] ∧ ASpec prog 17 [] (bo true))
  (Tree.need (ILeL [u32 a, u32 b] [u32 a, u32 b] ∧ ASpec prog 11 [u32 a, u32 b] (IVal.tup [bo (beforeS a b).fst, i64 (beforeS a b).snd]))
  (Tree.need (ILeL [u32 b, u32 a] [u32 b, u32 a] ∧ ASpec prog 11 [u32 b, u32 a] (IVal.tup [bo (beforeS b a).fst, i64 (beforeS b a).snd]))
  (Tree.need
  (ILeL [IVal.v (Value.int IntKind.u32 (IntKind.wrap IntKind.u32 (a + c))), IVal.v (Value.int IntKind.u32 (IntKind.wrap IntKind.u32 (b + c)))] [u32 (IntKind.wrap IntKind.u32 (a + c)), u32 (IntKind.wrap IntKind.u32 (b + c))] ∧
  ASpec prog 11 [u32 (IntKind.wrap IntKind.u32 (a + c)), u32 (IntKind.wrap IntKind.u32 (b + c))]
  (IVal.tup [bo (beforeS (IntKind.wrap IntKind.u32 (a + c)) (IntKind.wrap IntKind.u32 (b + c))).fst, i64 (beforeS (IntKind.wrap IntKind.u32 (a + c)) (IntKind.wrap IntKind.u32 (b + c))).snd]))
  (Tree.br (!decide ((beforeS a b).snd = (beforeS b a).snd)) (Tree.done Exit.ret (lret (IVal.v (Value.bool false))))
  (Tree.br (!decide ((beforeS a b).snd = (beforeS (IntKind.wrap IntKind.u32 (a + c)) (IntKind.wrap IntKind.u32 (b + c))).snd)) (Tree.done Exit.ret (lret (IVal.v (Value.bool false))))
  (Tree.br (!(beforeS a b).fst == (beforeS (IntKind.wrap IntKind.u32 (a + c)) (IntKind.wrap IntKind.u32 (b + c))).fst) (Tree.done Exit.ret (lret (IVal.v (Value.bool false))))
  (Tree.br (decide (IntKind.wrap IntKind.u32 (a - b) = (2147483648 : Int)))
  (Tree.br true
  (Tree.br (decide ((beforeS a b).snd = (2 : Int))) (Tree.br (!(beforeS a b).fst) (Tree.done Exit.ret (lret (IVal.v (Value.bool !(beforeS b a).fst)))) (Tree.done Exit.ret (lret (IVal.v (Value.bool false)))))
  (Tree.done Exit.ret (lret (IVal.v (Value.bool false)))))
  (Tree.done Exit.ret (lret (IVal.v (Value.bool false)))))
  (Tree.br (!decide ((beforeS a b).snd = (0 : Int))) (Tree.done Exit.ret (lret (IVal.v (Value.bool false))))
  (Tree.br (decide (a = b))
  (Tree.br (beforeS a b).fst (Tree.done Exit.ret (lret (IVal.v (Value.bool false))))
  (Tree.br (beforeS b a).fst (Tree.done Exit.ret (lret (IVal.v (Value.bool false))))
  (Tree.br (!decide (a = b))
  (Tree.br ((beforeS a b).fst == (beforeS b a).fst) (Tree.done Exit.ret (lret (IVal.v (Value.bool false))))
  (Tree.need ((2147483648 : Int) ≠ (0 : Int))
  (Tree.need
  (ILeL [u32 a, IVal.v (Value.int IntKind.u32 (IntKind.wrap IntKind.u32 (a + Int.tmod c (2147483648 : Int))))] [u32 a, u32 (IntKind.wrap IntKind.u32 (a + Int.tmod c (2147483648 : Int)))] ∧
  ASpec prog 11 [u32 a, u32 (IntKind.wrap IntKind.u32 (a + Int.tmod c (2147483648 : Int)))]
  (IVal.tup [bo (beforeS a (IntKind.wrap IntKind.u32 (a + Int.tmod c (2147483648 : Int)))).fst, i64 (beforeS a (IntKind.wrap IntKind.u32 (a + Int.tmod c (2147483648 : Int)))).snd]))
  (Tree.br true
  (Tree.br (decide ((beforeS a (IntKind.wrap IntKind.u32 (a + Int.tmod c (2147483648 : Int)))).snd = (0 : Int)))
  (Tree.done Exit.ret (lret (IVal.v (Value.bool ((beforeS a (IntKind.wrap IntKind.u32 (a + Int.tmod c (2147483648 : Int)))).fst == decide ((0 : Int) < Int.tmod c (2147483648 : Int)))))))
  (Tree.done Exit.ret (lret (IVal.v (Value.bool false)))))
  (Tree.done Exit.ret (lret (IVal.v (Value.bool false))))))))
  (Tree.need ((2147483648 : Int) ≠ (0 : Int))
  (Tree.need
  (ILeL [u32 a, IVal.v (Value.int IntKind.u32 (IntKind.wrap IntKind.u32 (a + Int.tmod c (2147483648 : Int))))] [u32 a, u32 (IntKind.wrap IntKind.u32 (a + Int.tmod c (2147483648 : Int)))] ∧
  ASpec prog 11 [u32 a, u32 (IntKind.wrap IntKind.u32 (a + Int.tmod c (2147483648 : Int)))]
  (IVal.tup [bo (beforeS a (IntKind.wrap IntKind.u32 (a + Int.tmod c (2147483648 : Int)))).fst, i64 (beforeS a (IntKind.wrap IntKind.u32 (a + Int.tmod c (2147483648 : Int)))).snd]))
  (Tree.br true
  (Tree.br (decide ((beforeS a (IntKind.wrap IntKind.u32 (a + Int.tmod c (2147483648 : Int)))).snd = (0 : Int)))
  (Tree.done Exit.ret (lret (IVal.v (Value.bool ((beforeS a (IntKind.wrap IntKind.u32 (a + Int.tmod c (2147483648 : Int)))).fst == decide ((0 : Int) < Int.tmod c (2147483648 : Int)))))))
  (Tree.done Exit.ret (lret (IVal.v (Value.bool false)))))
  (Tree.done Exit.ret (lret (IVal.v (Value.bool false))))))))))
  (Tree.br (!decide (a = b))
  (Tree.br ((beforeS a b).fst == (beforeS b a).fst) (Tree.done Exit.ret (lret (IVal.v (Value.bool false))))
  (Tree.need ((2147483648 : Int) ≠ (0 : Int))
  (Tree.need
  (ILeL [u32 a, IVal.v (Value.int IntKind.u32 (IntKind.wrap IntKind.u32 (a + Int.tmod c (2147483648 : Int))))] [u32 a, u32 (IntKind.wrap IntKind.u32 (a + Int.tmod c (2147483648 : Int)))] ∧
  ASpec prog 11 [u32 a, u32 (IntKind.wrap IntKind.u32 (a + Int.tmod c (2147483648 : Int)))]
  (IVal.tup [bo (beforeS a (IntKind.wrap IntKind.u32 (a + Int.tmod c (2147483648 : Int)))).fst, i64 (beforeS a (IntKind.wrap IntKind.u32 (a + Int.tmod c (2147483648 : Int)))).snd]))
  (Tree.br true
  (Tree.br (decide ((beforeS a (IntKind.wrap IntKind.u32 (a + Int.tmod c (2147483648 : Int)))).snd = (0 : Int)))
  (Tree.done Exit.ret (lret (IVal.v (Value.bool ((beforeS a (IntKind.wrap IntKind.u32 (a + Int.tmod c (2147483648 : Int)))).fst == decide ((0 : Int) < Int.tmod c (2147483648 : Int)))))))
  (Tree.done Exit.ret (lret (IVal.v (Value.bool false)))))
  (Tree.done Exit.ret (lret (IVal.v (Value.bool false))))))))
  (Tree.need ((2147483648 : Int) ≠ (0 : Int))
  (Tree.need
  (ILeL [u32 a, IVal.v (Value.int IntKind.u32 (IntKind.wrap IntKind.u32 (a + Int.tmod c (2147483648 : Int))))] [u32 a, u32 (IntKind.wrap IntKind.u32 (a + Int.tmod c (2147483648 : Int)))] ∧
  ASpec prog 11 [u32 a, u32 (IntKind.wrap IntKind.u32 (a + Int.tmod c (2147483648 : Int)))]
  (IVal.tup [bo (beforeS a (IntKind.wrap IntKind.u32 (a + Int.tmod c (2147483648 : Int)))).fst, i64 (beforeS a (IntKind.wrap IntKind.u32 (a + Int.tmod c (2147483648 : Int)))).snd]))
  (Tree.br true
  (Tree.br (decide ((beforeS a (IntKind.wrap IntKind.u32 (a + Int.tmod c (2147483648 : Int)))).snd = (0 : Int)))
  (Tree.done Exit.ret (lret (IVal.v (Value.bool ((beforeS a (IntKind.wrap IntKind.u32 (a + Int.tmod c (2147483648 : Int)))).fst == decide ((0 : Int) < Int.tmod c (2147483648 : Int)))))))
  (Tree.done Exit.ret (lret (IVal.v (Value.bool false)))))
  (Tree.done Exit.ret (lret (IVal.v (Value.bool false))))))))))))))))) := by kernel_rfl
theorem w32 (n : Int) : IntKind.u32.wrap n = n % 4294967296 := rfl
theorem bef_no {a b : Int} (h : (b - a) % 4294967296 = 2147483648) : beforeS a b = (false, 2) := by rw [beforeS, w32, if_pos h]
theorem bef_yes {a b : Int} (h : (b - a) % 4294967296 ≠ 2147483648) : beforeS a b = (decide (0 < (b - a) % 4294967296 ∧ (b - a) % 4294967296 < 2147483648), 0) := by
  rw [beforeS, w32, if_neg h]
  congr 1
  rw [Bool.eq_iff_iff]; simp only [Bool.and_eq_true, decide_eq_true_eq]; omega
theorem c4 (a b c : Int) (ha : 0 ≤ a ∧ a ≤ 4294967295) (hb : 0 ≤ b ∧ b ≤ 4294967295) (hc : 0 ≤ c ∧ c ≤ 4294967295) : ASpec prog 4 [u32 a, u32 b, u32 c] (bo true) := by
  have hs : beforeS (IntKind.u32.wrap (a + c)) (IntKind.u32.wrap (b + c)) = beforeS a b := by
    rw [beforeS, beforeS]
    have : IntKind.u32.wrap (IntKind.u32.wrap (b + c) - IntKind.u32.wrap (a + c)) = IntKind.u32.wrap (b - a) := by simp only [w32]; omega
    rw [this]
  have hn : Int.tmod c 2147483648 = c % 2147483648 := Int.tmod_eq_emod_of_nonneg hc.1
  have hk : beforeS a (IntKind.u32.wrap (a + Int.tmod c 2147483648)) = (decide (0 < Int.tmod c 2147483648), 0) := by
    rw [hn, w32, bef_yes (by omega)]
    congr 1
    rw [Bool.eq_iff_iff]; simp only [decide_eq_true_eq]; omega
  have hab : (IntKind.u32.wrap (a - b) = 2147483648 ∧ beforeS a b = (false, 2) ∧ beforeS b a = (false, 2)) ∨ (IntKind.u32.wrap (a - b) ≠ 2147483648 ∧ a = b ∧ beforeS a b = (false, 0) ∧ beforeS b a = (false, 0)) ∨
      (IntKind.u32.wrap (a - b) ≠ 2147483648 ∧ a ≠ b ∧ ∃ v, beforeS a b = (v, 0) ∧ beforeS b a = (!v, 0)) := by
    by_cases h1 : (a - b) % 4294967296 = 2147483648
    · exact .inl ⟨h1, bef_no (by omega), bef_no h1⟩
    · by_cases h2 : a = b
      · subst h2
        refine .inr (.inl ⟨h1, rfl, ?_, ?_⟩) <;> (rw [bef_yes (by omega), decide_eq_false (by omega)])
      · refine .inr (.inr ⟨h1, h2, _, bef_yes (by omega), ?_⟩)
        rw [bef_yes h1]
        congr 1
        rw [Bool.eq_iff_iff]; simp only [decide_eq_true_eq, Bool.not_eq_true', decide_eq_false_iff_not]; omega
  refine ASpec.treeW Proofs.Try.f4 (T4 a b c) (by kernel_rfl) (by kernel_rfl) (t4 a b c) ?_
  refine need_sat ⟨ILeL.refl _, c17⟩ (need_sat ⟨ILeL.refl _, c11 _ _⟩ (need_sat ⟨ILeL.refl _, c11 _ _⟩ (need_sat ⟨ILeL.refl _, c11 _ _⟩ ⟨fun h1 => ⟨_, rfl, ?_⟩, fun h1 => ⟨fun h2 => ⟨_, rfl, ?_⟩, fun h2 => ⟨fun h3 => ⟨_, rfl, ?_⟩, fun h3 => ⟨fun h4 => ⟨fun _ => ⟨fun h5 => ⟨fun h6 => ⟨_, rfl, ?_⟩, fun h6 => ⟨_, rfl, ?_⟩⟩, fun h5 => ⟨_, rfl, ?_⟩⟩, fun h => (by cases h)⟩, fun h4 => ⟨fun h5 => ⟨_, rfl, ?_⟩, fun h5 => ⟨fun h6 => ⟨fun h7 => ⟨_, rfl, ?_⟩, fun h7 => ⟨fun h8 => ⟨_, rfl, ?_⟩, fun h8 => ⟨fun h9 => ⟨fun h10 => ⟨_, rfl, ?_⟩, fun h10 => need_sat ?_ (need_sat ⟨ILeL.refl _, c11 _ _⟩ ⟨fun _ => ⟨fun h11 => ⟨_, rfl, ?_⟩, fun h11 => ⟨_, rfl, ?_⟩⟩, fun h => (by cases h)⟩)⟩, fun h9 => need_sat ?_ (need_sat ⟨ILeL.refl _, c11 _ _⟩ ⟨fun _ => ⟨fun h10 => ⟨_, rfl, ?_⟩, fun h10 => ⟨_, rfl, ?_⟩⟩, fun h => (by cases h)⟩)⟩⟩⟩, fun h6 => ⟨fun h7 => ⟨fun h8 => ⟨_, rfl, ?_⟩, fun h8 => need_sat ?_ (need_sat ⟨ILeL.refl _, c11 _ _⟩ ⟨fun _ => ⟨fun h9 => ⟨_, rfl, ?_⟩, fun h9 => ⟨_, rfl, ?_⟩⟩, fun h => (by cases h)⟩)⟩, fun h7 => need_sat ?_ (need_sat ⟨ILeL.refl _, c11 _ _⟩ ⟨fun _ => ⟨fun h8 => ⟨_, rfl, ?_⟩, fun h8 => ⟨_, rfl, ?_⟩⟩, fun h => (by cases h)⟩)⟩⟩⟩⟩⟩⟩⟩)))
  all_goals try decide
  all_goals refine ile_bo ?_
  all_goals rcases hab with ⟨g1, g2, g3⟩ | ⟨g1, g2, g3, g4⟩ | ⟨g1, g2, v, g3, g4⟩
  all_goals simp_all
end Gp
namespace Gp
/-! ### What came in -/
section
variable {H : Type} {enc : TypeId × Value → H} {w : World} {base : Nat} {spare : Nat → Bool} {held : Bool}
theorem wf_in {k : IntKind} {n : Int} (h : (Lit.int k n).wf = true) : k.min ≤ n ∧ n ≤ k.max := by simpa [Lit.wf] using h
theorem iv {k : IntKind} {n : Int} : IRep w (allF w) (.v (.int k n)) (.int k n) := by rw [IRep]; exact ⟨rfl, rfl⟩
theorem ib {b : Bool} : IRep w (allF w) (bo b) (.bool b) := by rw [bo, IRep]; exact ⟨rfl, rfl⟩
theorem ic {d : IVal} {ds : List IVal} {u : Value} {us : List Value} (h : IRep w (allF w) d u) (h' : IRepL w (allF w) ds us) : IRepL w (allF w) (d :: ds) (u :: us) := by rw [IRepL]; exact ⟨u, us, rfl, h, h'⟩
theorem in0 : IRepL w (allF w) [] [] := by rw [IRepL]
theorem ia {ds : List IVal} {us : List Value} (h : IRepL w (allF w) ds us) (ho : ds.all ione = true) : IRep w (allF w) (.agg ds) (.agg us.toArray) := by rw [IRep]; exact ⟨us.toArray, rfl, by simpa using h, ho⟩
end
end Gp
namespace Gp
open Go.ChangeShapes Go.WideShapes Go.ChangeAt Go.RowKit
open Go.Proofs Go.Proofs.Ytcccdohpepnfjaa
theorem wf_u32' {n : Int} (h : (Lit.int .u32 n).wf = true) : 0 ≤ n ∧ n ≤ 4294967295 := by have := wf_in h; simp [IntKind.min, IntKind.max, IntKind.bits, IntKind.signed] at this; omega
theorem own : ownKnob prog.godebug = none := by kernel_rfl
theorem laidOut : laidOutB prog = true := by kernel_rfl
def isStruct : Option TypeDesc → Bool
  | some (.struct _) => true
  | _ => false
theorem isStruct_spec {x : Option TypeDesc} (h : isStruct x = true) : ∃ fs, x = some (.struct fs) := by
  unfold isStruct at h; split at h
  · exact ⟨_, rfl⟩
  · cases h
theorem ui27 : prog.underlying 27 = some (.int .u32) := by kernel_rfl
theorem ubool : prog.underlying 4 = some .bool := by kernel_rfl
theorem paramsL : Proofs.Try.f4.params.toList = [27, 27, 27] := by kernel_rfl
set_option maxRecDepth 100000 in
theorem walk (W : World) {n0 n1 n2 : Int} (w0 : (Lit.int .u32 n0).wf = true) (w1 : (Lit.int .u32 n1).wf = true) (w2 : (Lit.int .u32 n2).wf = true) :
    Calls prog 4 #[.int .u32 n0, .int .u32 n1, .int .u32 n2] W fun e W' => e = .returned (.bool true) ∧ Below W.heap.size W W' := by
  have hm : maxLen = 2 ^ 63 - 1 := rfl
  refine ((c4 n0 n1 n2 (wf_u32' w0) (wf_u32' w1) (wf_u32' w2)).2 W (allF W) #[.int .u32 n0, .int .u32 n1, .int .u32 n2] (fun c b h => h.2) (fun b h => by cases h.1) (ic iv (ic iv (ic iv in0)))).mono ?_
  rintro e W' ⟨v, F', rfl, hb, _, _, _, _, hv⟩
  rw [bo, IRep] at hv
  rw [hv.1]
  exact ⟨rfl, hb⟩
set_option maxRecDepth 100000 in
theorem lifted (os : Os) (started : os.Started) (H : Type) (enc : TypeId × Value → H) :
    ReturnsInHanded {} Proofs.Try.checked os 4 .any (Rows.diffSerialsSpec.pre6 enc prog Proofs.Try.f4 Rows.diffSerialsRow.domain false) (Rows.diffSerialsSpec.post enc prog Proofs.Try.f4 false true false false) := by
  refine returnsInHanded_of_change (C := Proofs.Try.checked) own started (by kernel_rfl) (show prog.funcs[4]? = some Proofs.Try.f4 by kernel_rfl)
    (ChangeSpec.witness6 (enc := enc) (C := Proofs.Try.checked) false ⟨#[], #[.int .u32 0, .int .u32 0, .int .u32 0], []⟩ 8 (by kernel_rfl) (by kernel_rfl) (by kernel_rfl) (by kernel_rfl)) ?_
  intro W base args ds gs before hval0 hW hcnd _
  have hval : ∀ (j : Nat) t v, Proofs.Try.f4.params[j]? = some t → args[j]? = some v → Value.okWide prog W .any base t v := hval0
  have hW' := hW
  obtain ⟨p, q, hA0, hV, rfl, hfz, hnd⟩ := hW
  have hA : DataW.TrodAll enc prog W 0 (fun _ => true) true Proofs.Try.f4.params.toList args.toList ds p := hA0
  rw [paramsL] at hA
  have hp0 : Proofs.Try.f4.params[0]? = some 27 := by kernel_rfl
  have hp1 : Proofs.Try.f4.params[1]? = some 27 := by kernel_rfl
  have hp2 : Proofs.Try.f4.params[2]? = some 27 := by kernel_rfl
  obtain ⟨u0, us0, d0, ds0, p0, q0, hargs, rfl, rfl, h0, r0⟩ := trodAll_cons hA
  obtain ⟨u1, us1, d1, ds1, p1, q1, rfl, rfl, rfl, h1, r1⟩ := trodAll_cons r0
  obtain ⟨u2, us2, d2, ds2, p2, q2, rfl, rfl, rfl, h2, r2⟩ := trodAll_cons r1
  obtain ⟨rfl, rfl, rfl⟩ := trodAll_nil r2
  obtain rfl : args = #[u0, u1, u2] := by cases args; simp_all
  obtain ⟨rfl, rfl⟩ := trodVars_none hV
  obtain ⟨n0, rfl, rfl, rfl, w0⟩ := open_int ui27 (hval 0 27 u0 hp0 rfl) h0
  obtain ⟨n1, rfl, rfl, rfl, w1⟩ := open_int ui27 (hval 1 27 u1 hp1 rfl) h1
  obtain ⟨n2, rfl, rfl, rfl, w2⟩ := open_int ui27 (hval 2 27 u2 hp2 rfl) h2
  clear hA0 hval0
  refine (walk W w0 w1 w2).mono fun e W' ⟨he, bel⟩ => ?_
  subst he
  exact ⟨_, rfl, _, _, _, [], _, [], hW', trodAll_mk1 (shut_bool ubool _),
    (trodAll_cons_mk (shut_int ui27 w0) (trodAll_cons_mk (shut_int ui27 w1) (trodAll_cons_mk (shut_int ui27 w2) trodAll_mk0))), rfl, bel.frame _, fun h => by cases h⟩
theorem over : Rows.diffSerialsRow.holds Ytcccdohpepnfjaa.Try.pinned (OpenSpec.ofChange Rows.diffSerialsSpec) :=
  OpenClaim.holds_of_wide 4 Proofs.Try.f4 rfl rfl rfl rfl rfl rfl rfl ⟨rfl, rfl, rfl, rfl, rfl⟩ rfl rfl rfl rfl rfl (by kernel_rfl) (show prog.funcs[4]? = some Proofs.Try.f4 by kernel_rfl) (by kernel_rfl)
    (of_decide_eq_true (by kernel_rfl)) (by unfold Func.isWrapper; first | (rw [if_pos (by decide +kernel)]; kernel_rfl) | (rw [if_neg (by decide +kernel)]; exact ⟨rfl, rfl⟩))
    (fun os started H enc _ => lifted os started H enc)
theorem proved : Rows.DiffSerialsSaid := over
end Gp
namespace Go.Proofs.Ytcccdohpepnfjaa
theorem diffSerials_holds : Rows.DiffSerialsSaid := Gp.proved
#print axioms diffSerials_holds
end Go.Proofs.Ytcccdohpepnfjaa
