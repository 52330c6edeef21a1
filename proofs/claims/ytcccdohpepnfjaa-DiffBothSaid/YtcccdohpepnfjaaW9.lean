/- PROVED HERE: the statement DiffBothSaid: whatever comes in, the law returns true and each argument reads as before. No condition. -/
import Derived.Test.YtcccdohpepnfjaaW8
import Derived.Test.YtcccdohpepnfjaaRows
import Derived.WalkKit
import Derived.ProofKit
import Derived.OpenShut
import Derived.ShutString
import Derived.ChangeOld
import Derived.Below
import Derived.Carry
set_option maxRecDepth 100000
set_option maxHeartbeats 0
set_option linter.unusedVariables false
set_option linter.unusedSimpArgs false
open Go Go.Abs
namespace Gp
def netP (a n : Int) : Pfx := ⟨4, ⟨0, IntKind.u64.wrap (a * 16777216)⟩, n⟩
def T58 (a n : Int) : Tell :=
  Tell.mk (fun x x_1 => false) (fun x x_1 => Orc.no) (fun x => Tree.fail 1000003 0) (fun x => 0) (fun x => ([], [])) (fun x x_1 x_2 => Orc.no) fun x x_1 => Tree.fail 1000003 0
theorem t58 (a n : Int) : levF prog Proofs.Try.f58 [u64 a, i64 n] (T58 a n) =
  Tree.need ((0 : Int) ≤ (24 : Int))
  (Tree.done Exit.ret (lret (IVal.agg [IVal.v (Value.int IntKind.u8 (4 : Int)), IVal.v (Value.int IntKind.u64 (0 : Int)), IVal.v (Value.int IntKind.u64 (IntKind.wrap IntKind.u64 (a * (16777216 : Int)))), i64 n]))) := by kernel_rfl
theorem c58 (a n : Int) : ASpec prog 58 [u64 a, i64 n] (encP (netP a n)) := by
  refine ASpec.treeW Proofs.Try.f58 (T58 a n) (by kernel_rfl) (by kernel_rfl) (t58 a n) ?_
  refine need_sat ?_ ⟨_, rfl, ?_⟩
  · decide
  · exact .refl _
def oneP (l : List Int) : Payload := ⟨[⟨10, netP 10 8, 8⟩], [⟨1, l⟩], []⟩
def T23 (l : List Int) : Tell :=
  Tell.mk (fun x x_1 => false) (fun x x_1 => Orc.no) (fun x => Tree.fail 1000003 0) (fun x => 0) (fun x => ([], []))
  (oget [(1, 1, 0, Orc.call [u64 (10 : Int), i64 (8 : Int)] (encP (netP (10 : Int) (8 : Int))))]) fun x x_1 => Tree.fail 1000003 0
theorem t23 (l : List Int) : levF prog Proofs.Try.f23 [lu32 l] (T23 l) =
  Tree.need (ILeL [IVal.v (Value.int IntKind.u64 (10 : Int)), IVal.v (Value.int IntKind.i64 (8 : Int))] [u64 (10 : Int), i64 (8 : Int)] ∧ ASpec prog 58 [u64 (10 : Int), i64 (8 : Int)] (encP (netP (10 : Int) (8 : Int))))
  (Tree.need (eqs [(1, 1), (1, 1)])
  (Tree.done Exit.ret
  (lret
  (IVal.agg
  [IVal.sl true false 6
  [IVal.agg
  [IVal.v (Value.int IntKind.u32 (10 : Int)), u8 (netP (10 : Int) (8 : Int)).fam, u64 (netP (10 : Int) (8 : Int)).addr.hi, u64 (netP (10 : Int) (8 : Int)).addr.lo, i64 (netP (10 : Int) (8 : Int)).len,
  IVal.v (Value.int IntKind.i64 (8 : Int))]],
  IVal.sl true false 2 [IVal.agg [IVal.v (Value.int IntKind.u32 (1 : Int)), lu32 l]], IVal.v (Value.slice none 0 0)])))) := by kernel_rfl
theorem c23 (l : List Int) : ASpec prog 23 [lu32 l] (encL (oneP l)) := by
  refine ASpec.treeW Proofs.Try.f23 (T23 l) (by kernel_rfl) (by kernel_rfl) (t23 l) ?_
  refine need_sat ⟨ILeL.refl _, c58 _ _⟩ (need_sat ?_ ⟨_, rfl, ?_⟩)
  · exact ⟨rfl, rfl, trivial⟩
  · exact .agg (.cons (ile_sl (.refl _)) (.cons (ile_sl (.refl _)) (.cons (.nil _ _ _) (.refl _))))
def B17 : Tell := { fz := fun r i => (r == 1 && i == 0) || (r == 1 && i == 2) || (r == 2 && i == 0) || (r == 2 && i == 4) || (r == 3 && i == 0) || (r == 6 && i == 13) }
def T17 : Tell :=
  Tell.mk (fun r i => r == 1 && i == 0 || r == 1 && i == 2 || r == 2 && i == 0 || r == 2 && i == 4 || r == 3 && i == 0 || r == 6 && i == 13)
  (fun x x_1 => Orc.no) (fun x => Tree.fail 1000003 0) (fun x => 0) (fun x => ([], []))
  (oget
  [(1, 1, 1, Orc.call [lu32 [(2 : Int)]] (encL (oneP [(2 : Int)]))), (1, 1, 3, Orc.call [lu32 [(2 : Int), (3 : Int)]] (encL (oneP [(2 : Int), (3 : Int)]))),
  (1, 1, 4,
  Orc.call [encL (oneP [(2 : Int)]), encL (oneP [(2 : Int), (3 : Int)])] (IVal.tup [encD (betweenS (oneP [(2 : Int)]) (oneP [(2 : Int), (3 : Int)])).fst, i64 (betweenS (oneP [(2 : Int)]) (oneP [(2 : Int), (3 : Int)])).snd])),
  (12, 2, 1, Orc.call [lu32 [(2 : Int)]] (encL (oneP [(2 : Int)]))), (12, 2, 5, Orc.call [lu32 [(2 : Int), (3 : Int)]] (encL (oneP [(2 : Int), (3 : Int)]))),
  (23, 3, 1, Orc.call [lu32 [(2 : Int)]] (encL (oneP [(2 : Int)]))),
  (23, 3, 3,
  Orc.call [encL (oneP [(2 : Int)]), encD (betweenS (oneP [(2 : Int)]) (oneP [(2 : Int), (3 : Int)])).fst]
  (IVal.tup [encL (applyS (oneP [(2 : Int)]) (betweenS (oneP [(2 : Int)]) (oneP [(2 : Int), (3 : Int)])).fst).fst, i64 (applyS (oneP [(2 : Int)]) (betweenS (oneP [(2 : Int)]) (oneP [(2 : Int), (3 : Int)])).fst).snd])),
  (33, 4, 0, Orc.call [u32 (4294967295 : Int), u32 (0 : Int)] (IVal.tup [bo (beforeS (4294967295 : Int) (0 : Int)).fst, i64 (beforeS (4294967295 : Int) (0 : Int)).snd])),
  (39, 5, 0, Orc.call [u32 (0 : Int), u32 (2147483648 : Int)] (IVal.tup [bo (beforeS (0 : Int) (2147483648 : Int)).fst, i64 (beforeS (0 : Int) (2147483648 : Int)).snd])),
  (45, 6, 5,
  Orc.call [encD (betweenS (oneP [(2 : Int)]) (oneP [(2 : Int), (3 : Int)])).fst, encD (Diff.mk (Payload.mk [] (oneP [(2 : Int)]).paths []) (Payload.mk [] (oneP [(2 : Int), (3 : Int)]).paths []))]
  (bo (decide ((betweenS (oneP [(2 : Int)]) (oneP [(2 : Int), (3 : Int)])).fst = Diff.mk (Payload.mk [] (oneP [(2 : Int)]).paths []) (Payload.mk [] (oneP [(2 : Int), (3 : Int)]).paths []))))),
  (45, 6, 14, Orc.call [lu32 [(2 : Int), (3 : Int)]] (encL (oneP [(2 : Int), (3 : Int)]))),
  (45, 6, 15,
  Orc.call [encL (applyS (oneP [(2 : Int)]) (betweenS (oneP [(2 : Int)]) (oneP [(2 : Int), (3 : Int)])).fst).fst, encL (oneP [(2 : Int), (3 : Int)])]
  (bo (decide ((applyS (oneP [(2 : Int)]) (betweenS (oneP [(2 : Int)]) (oneP [(2 : Int), (3 : Int)])).fst).fst = oneP [(2 : Int), (3 : Int)]))))])
  fun x x_1 => Tree.fail 1000003 0
theorem t17 : levF prog Proofs.Try.f17 [] T17 =
  Tree.need (ILeL [IVal.sl true false 1 [IVal.v (Value.int IntKind.u32 (2 : Int))]] [lu32 [(2 : Int)]] ∧ ASpec prog 23 [lu32 [(2 : Int)]] (encL (oneP [(2 : Int)])))
  (Tree.need
  (ILeL [IVal.sl true false 1 [IVal.v (Value.int IntKind.u32 (2 : Int)), IVal.v (Value.int IntKind.u32 (3 : Int))]] [lu32 [(2 : Int), (3 : Int)]] ∧
  ASpec prog 23 [lu32 [(2 : Int), (3 : Int)]] (encL (oneP [(2 : Int), (3 : Int)])))
  (Tree.need
  (ILeL [encL (oneP [(2 : Int)]), encL (oneP [(2 : Int), (3 : Int)])] [encL (oneP [(2 : Int)]), encL (oneP [(2 : Int), (3 : Int)])] ∧
  ASpec prog 24 [encL (oneP [(2 : Int)]), encL (oneP [(2 : Int), (3 : Int)])] (IVal.tup [encD (betweenS (oneP [(2 : Int)]) (oneP [(2 : Int), (3 : Int)])).fst, i64 (0 : Int)]))
  (Tree.need (ILeL [IVal.sl true false 1 [IVal.v (Value.int IntKind.u32 (2 : Int))]] [lu32 [(2 : Int)]] ∧ ASpec prog 23 [lu32 [(2 : Int)]] (encL (oneP [(2 : Int)])))
  (Tree.need
  (ILeL [IVal.sl true false 1 [IVal.v (Value.int IntKind.u32 (2 : Int)), IVal.v (Value.int IntKind.u32 (3 : Int))]] [lu32 [(2 : Int), (3 : Int)]] ∧
  ASpec prog 23 [lu32 [(2 : Int), (3 : Int)]] (encL (oneP [(2 : Int), (3 : Int)])))
  (Tree.need (ILeL [IVal.sl true false 1 [IVal.v (Value.int IntKind.u32 (2 : Int))]] [lu32 [(2 : Int)]] ∧ ASpec prog 23 [lu32 [(2 : Int)]] (encL (oneP [(2 : Int)])))
  (Tree.need
  (ILeL [encL (oneP [(2 : Int)]), encD (betweenS (oneP [(2 : Int)]) (oneP [(2 : Int), (3 : Int)])).fst] [encL (oneP [(2 : Int)]), encD (betweenS (oneP [(2 : Int)]) (oneP [(2 : Int), (3 : Int)])).fst] ∧
  ASpec prog 19 [encL (oneP [(2 : Int)]), encD (betweenS (oneP [(2 : Int)]) (oneP [(2 : Int), (3 : Int)])).fst]
  (IVal.tup [encL (applyS (oneP [(2 : Int)]) (betweenS (oneP [(2 : Int)]) (oneP [(2 : Int), (3 : Int)])).fst).fst, i64 (0 : Int)]))
  (Tree.need
  (ILeL [IVal.v (Value.int IntKind.u32 (4294967295 : Int)), IVal.v (Value.int IntKind.u32 (0 : Int))] [u32 (4294967295 : Int), u32 (0 : Int)] ∧
  ASpec prog 11 [u32 (4294967295 : Int), u32 (0 : Int)] (IVal.tup [bo true, i64 (0 : Int)]))
  (Tree.need
  (ILeL [IVal.v (Value.int IntKind.u32 (0 : Int)), IVal.v (Value.int IntKind.u32 (2147483648 : Int))] [u32 (0 : Int), u32 (2147483648 : Int)] ∧
  ASpec prog 11 [u32 (0 : Int), u32 (2147483648 : Int)] (IVal.tup [bo false, i64 (2 : Int)]))
  (Tree.br true
  (Tree.need
  (ILeL
  [encD (betweenS (oneP [(2 : Int)]) (oneP [(2 : Int), (3 : Int)])).fst,
  IVal.agg
  [IVal.v (Value.slice none 0 0), slE 2 encT (oneP [(2 : Int)]).paths, IVal.v (Value.slice none 0 0), IVal.v (Value.slice none 0 0),
  slE 2 encT (oneP [(2 : Int), (3 : Int)]).paths, IVal.v (Value.slice none 0 0)]]
  [encD (betweenS (oneP [(2 : Int)]) (oneP [(2 : Int), (3 : Int)])).fst, encD (Diff.mk (Payload.mk [] (oneP [(2 : Int)]).paths []) (Payload.mk [] (oneP [(2 : Int), (3 : Int)]).paths []))] ∧
  ASpec prog 21 [encD (betweenS (oneP [(2 : Int)]) (oneP [(2 : Int), (3 : Int)])).fst, encD (Diff.mk (Payload.mk [] (oneP [(2 : Int)]).paths []) (Payload.mk [] (oneP [(2 : Int), (3 : Int)]).paths []))]
  (bo true))
  (Tree.br true
  (Tree.br true
  (Tree.need
  (ILeL [IVal.sl true false 1 [IVal.v (Value.int IntKind.u32 (2 : Int)), IVal.v (Value.int IntKind.u32 (3 : Int))]] [lu32 [(2 : Int), (3 : Int)]] ∧
  ASpec prog 23 [lu32 [(2 : Int), (3 : Int)]] (encL (oneP [(2 : Int), (3 : Int)])))
  (Tree.need
  (ILeL [encL (applyS (oneP [(2 : Int)]) (betweenS (oneP [(2 : Int)]) (oneP [(2 : Int), (3 : Int)])).fst).fst, encL (oneP [(2 : Int), (3 : Int)])]
  [encL (applyS (oneP [(2 : Int)]) (betweenS (oneP [(2 : Int)]) (oneP [(2 : Int), (3 : Int)])).fst).fst, encL (oneP [(2 : Int), (3 : Int)])] ∧
  ASpec prog 16 [encL (applyS (oneP [(2 : Int)]) (betweenS (oneP [(2 : Int)]) (oneP [(2 : Int), (3 : Int)])).fst).fst, encL (oneP [(2 : Int), (3 : Int)])] (bo true))
  (Tree.br true (Tree.br true (Tree.br true (Tree.done Exit.ret (lret (IVal.v (Value.bool true)))) (Tree.done Exit.ret (lret (IVal.v (Value.bool false))))) (Tree.done Exit.ret (lret (IVal.v (Value.bool false)))))
  (Tree.done Exit.ret (lret (IVal.v (Value.bool false)))))))
  (Tree.done Exit.ret (lret (IVal.v (Value.bool false)))))
  (Tree.done Exit.ret (lret (IVal.v (Value.bool false))))))
  (Tree.done Exit.ret (lret (IVal.v (Value.bool false))))))))))))) := by kernel_rfl
theorem sm_of {p : Payload} (h : (decide (p.origins.length ≤ 3000) && decide (p.paths.length ≤ 3000) && decide (p.keys.length ≤ 3000) && p.paths.all fun a => decide (a.provs.length ≤ 1000000)) = true) : p.sm := by
  simp only [Bool.and_eq_true, decide_eq_true_eq, List.all_eq_true] at h
  exact ⟨h.1.1.1, h.1.1.2, h.1.2, h.2⟩
theorem c17 : ASpec prog 17 [] (bo true) := by
  refine ASpec.treeW Proofs.Try.f17 T17 (by kernel_rfl) (by kernel_rfl) t17 ?_
  refine need_sat ⟨(by repeat' first | exact ILeL.refl _ | exact ILe.refl _ | exact ILe.nil _ _ _ | exact ILe.sl (fun h => by cases h) (fun h => h) (ILeL.refl _) | apply ILeL.cons | apply ILe.agg | apply ILe.tup), c23 _⟩ (need_sat ⟨(by repeat' first | exact ILeL.refl _ | exact ILe.refl _ | exact ILe.nil _ _ _ | exact ILe.sl (fun h => by cases h) (fun h => h) (ILeL.refl _) | apply ILeL.cons | apply ILe.agg | apply ILe.tup), c23 _⟩ (need_sat ⟨ILeL.refl _, c24 _ _ ?_ ?_⟩ (need_sat ⟨(by repeat' first | exact ILeL.refl _ | exact ILe.refl _ | exact ILe.nil _ _ _ | exact ILe.sl (fun h => by cases h) (fun h => h) (ILeL.refl _) | apply ILeL.cons | apply ILe.agg | apply ILe.tup), c23 _⟩ (need_sat ⟨(by repeat' first | exact ILeL.refl _ | exact ILe.refl _ | exact ILe.nil _ _ _ | exact ILe.sl (fun h => by cases h) (fun h => h) (ILeL.refl _) | apply ILeL.cons | apply ILe.agg | apply ILe.tup), c23 _⟩ (need_sat ⟨(by repeat' first | exact ILeL.refl _ | exact ILe.refl _ | exact ILe.nil _ _ _ | exact ILe.sl (fun h => by cases h) (fun h => h) (ILeL.refl _) | apply ILeL.cons | apply ILe.agg | apply ILe.tup), c23 _⟩ (need_sat ⟨ILeL.refl _, c19 _ _ ?_ ?_⟩ (need_sat ⟨ILeL.refl _, c11 _ _⟩ (need_sat ⟨ILeL.refl _, c11 _ _⟩ ⟨fun _ => need_sat ⟨(by repeat' first | exact ILeL.refl _ | exact ILe.refl _ | exact ILe.nil _ _ _ | exact ILe.sl (fun h => by cases h) (fun h => h) (ILeL.refl _) | apply ILeL.cons | apply ILe.agg | apply ILe.tup), c21 _ _ ?_⟩ ⟨fun _ => ⟨fun _ => need_sat ⟨(by repeat' first | exact ILeL.refl _ | exact ILe.refl _ | exact ILe.nil _ _ _ | exact ILe.sl (fun h => by cases h) (fun h => h) (ILeL.refl _) | apply ILeL.cons | apply ILe.agg | apply ILe.tup), c23 _⟩ (need_sat ⟨ILeL.refl _, c16 _ _ ?_⟩ ⟨fun _ => ⟨fun _ => ⟨fun _ => ⟨_, rfl, ?_⟩, fun h => (by cases h)⟩, fun h => (by cases h)⟩, fun h => (by cases h)⟩), fun h => (by cases h)⟩, fun h => (by cases h)⟩, fun h => (by cases h)⟩))))))))
  all_goals first
    | exact .refl _
    | exact sm_of (by kernel_rfl)
    | exact ⟨sm_of (by kernel_rfl), sm_of (by kernel_rfl)⟩
    | exact (sm_of (by kernel_rfl)).ok
def T4 (a b c : Int) : Tell :=
  Tell.mk (fun x x_1 => false) (fun x x_1 => Orc.no) (fun x => Tree.fail 1000003 0) (fun x => 0) (fun x => ([], []))
  (oget
  [(1, 1, 0, Orc.call [] (bo true)), (3, 2, 2, Orc.call [u32 a, u32 b] (IVal.tup [bo (beforeS a b).fst, i64 (beforeS a b).snd])),
  (11, 3, 2, Orc.call [u32 b, u32 a] (IVal.tup [bo (beforeS b a).fst, i64 (beforeS b a).snd])),
  (19, 4, 6,
  Orc.call [u32 (IntKind.wrap IntKind.u32 (a + c)), u32 (IntKind.wrap IntKind.u32 (b + c))]
  (IVal.tup [bo (beforeS (IntKind.wrap IntKind.u32 (a + c)) (IntKind.wrap IntKind.u32 (b + c))).fst, i64 (beforeS (IntKind.wrap IntKind.u32 (a + c)) (IntKind.wrap IntKind.u32 (b + c))).snd])),
  (74, 12, 4,
  Orc.call [u32 a, u32 (IntKind.wrap IntKind.u32 (a + Int.tmod c (2147483648 : Int)))]
  (IVal.tup [bo (beforeS a (IntKind.wrap IntKind.u32 (a + Int.tmod c (2147483648 : Int)))).fst, i64 (beforeS a (IntKind.wrap IntKind.u32 (a + Int.tmod c (2147483648 : Int)))).snd]))])
  fun x x_1 => Tree.fail 1000003 0
theorem t4 (a b c : Int) : levF prog Proofs.Try.f4 [u32 a, u32 b, u32 c] (T4 a b c) =
  Tree.need (ILeL [] [] ∧ ASpec prog 17 [] (bo true))
  (Tree.need (ILeL [u32 a, u32 b] [u32 a, u32 b] ∧ ASpec prog 11 [u32 a, u32 b] (IVal.tup [bo (beforeS a b).fst, i64 (beforeS a b).snd]))
  (Tree.need (ILeL [u32 b, u32 a] [u32 b, u32 a] ∧ ASpec prog 11 [u32 b, u32 a] (IVal.tup [bo (beforeS b a).fst, i64 (beforeS b a).snd]))
  (Tree.need
  (ILeL [IVal.v (Value.int IntKind.u32 (IntKind.wrap IntKind.u32 (a + c))), IVal.v (Value.int IntKind.u32 (IntKind.wrap IntKind.u32 (b + c)))] [u32 (IntKind.wrap IntKind.u32 (a + c)), u32 (IntKind.wrap IntKind.u32 (b + c))] ∧
  ASpec prog 11 [u32 (IntKind.wrap IntKind.u32 (a + c)), u32 (IntKind.wrap IntKind.u32 (b + c))]
  (IVal.tup [bo (beforeS (IntKind.wrap IntKind.u32 (a + c)) (IntKind.wrap IntKind.u32 (b + c))).fst, i64 (beforeS (IntKind.wrap IntKind.u32 (a + c)) (IntKind.wrap IntKind.u32 (b + c))).snd]))
  (Tree.br (!decide ((beforeS a b).snd = (beforeS b a).snd)) (Tree.done Exit.ret (lret (IVal.v (Value.bool false))))
  (Tree.br (!decide ((beforeS a b).snd = (beforeS (IntKind.wrap IntKind.u32 (a + c)) (IntKind.wrap IntKind.u32 (b + c))).snd)) (Tree.done Exit.ret (lret (IVal.v (Value.bool false))))
  (Tree.br (!(beforeS a b).fst == (beforeS (IntKind.wrap IntKind.u32 (a + c)) (IntKind.wrap IntKind.u32 (b + c))).fst) (Tree.done Exit.ret (lret (IVal.v (Value.bool false))))
  (Tree.br (decide (IntKind.wrap IntKind.u32 (a - b) = (2147483648 : Int)))
  (Tree.br true
  (Tree.br (decide ((beforeS a b).snd = (2 : Int))) (Tree.br (!(beforeS a b).fst) (Tree.done Exit.ret (lret (IVal.v (Value.bool !(beforeS b a).fst)))) (Tree.done Exit.ret (lret (IVal.v (Value.bool false)))))
  (Tree.done Exit.ret (lret (IVal.v (Value.bool false)))))
  (Tree.done Exit.ret (lret (IVal.v (Value.bool false)))))
  (Tree.br (!decide ((beforeS a b).snd = (0 : Int))) (Tree.done Exit.ret (lret (IVal.v (Value.bool false))))
  (Tree.br (decide (a = b))
  (Tree.br (beforeS a b).fst (Tree.done Exit.ret (lret (IVal.v (Value.bool false))))
  (Tree.br (beforeS b a).fst (Tree.done Exit.ret (lret (IVal.v (Value.bool false))))
  (Tree.br (!decide (a = b))
  (Tree.br ((beforeS a b).fst == (beforeS b a).fst) (Tree.done Exit.ret (lret (IVal.v (Value.bool false))))
  (Tree.need ((2147483648 : Int) ≠ (0 : Int))
  (Tree.need
  (ILeL [u32 a, IVal.v (Value.int IntKind.u32 (IntKind.wrap IntKind.u32 (a + Int.tmod c (2147483648 : Int))))] [u32 a, u32 (IntKind.wrap IntKind.u32 (a + Int.tmod c (2147483648 : Int)))] ∧
  ASpec prog 11 [u32 a, u32 (IntKind.wrap IntKind.u32 (a + Int.tmod c (2147483648 : Int)))]
  (IVal.tup [bo (beforeS a (IntKind.wrap IntKind.u32 (a + Int.tmod c (2147483648 : Int)))).fst, i64 (beforeS a (IntKind.wrap IntKind.u32 (a + Int.tmod c (2147483648 : Int)))).snd]))
  (Tree.br true
  (Tree.br (decide ((beforeS a (IntKind.wrap IntKind.u32 (a + Int.tmod c (2147483648 : Int)))).snd = (0 : Int)))
  (Tree.done Exit.ret (lret (IVal.v (Value.bool ((beforeS a (IntKind.wrap IntKind.u32 (a + Int.tmod c (2147483648 : Int)))).fst == decide ((0 : Int) < Int.tmod c (2147483648 : Int)))))))
  (Tree.done Exit.ret (lret (IVal.v (Value.bool false)))))
  (Tree.done Exit.ret (lret (IVal.v (Value.bool false))))))))
  (Tree.need ((2147483648 : Int) ≠ (0 : Int))
  (Tree.need
  (ILeL [u32 a, IVal.v (Value.int IntKind.u32 (IntKind.wrap IntKind.u32 (a + Int.tmod c (2147483648 : Int))))] [u32 a, u32 (IntKind.wrap IntKind.u32 (a + Int.tmod c (2147483648 : Int)))] ∧
  ASpec prog 11 [u32 a, u32 (IntKind.wrap IntKind.u32 (a + Int.tmod c (2147483648 : Int)))]
  (IVal.tup [bo (beforeS a (IntKind.wrap IntKind.u32 (a + Int.tmod c (2147483648 : Int)))).fst, i64 (beforeS a (IntKind.wrap IntKind.u32 (a + Int.tmod c (2147483648 : Int)))).snd]))
  (Tree.br true
  (Tree.br (decide ((beforeS a (IntKind.wrap IntKind.u32 (a + Int.tmod c (2147483648 : Int)))).snd = (0 : Int)))
  (Tree.done Exit.ret (lret (IVal.v (Value.bool ((beforeS a (IntKind.wrap IntKind.u32 (a + Int.tmod c (2147483648 : Int)))).fst == decide ((0 : Int) < Int.tmod c (2147483648 : Int)))))))
  (Tree.done Exit.ret (lret (IVal.v (Value.bool false)))))
  (Tree.done Exit.ret (lret (IVal.v (Value.bool false))))))))))
  (Tree.br (!decide (a = b))
  (Tree.br ((beforeS a b).fst == (beforeS b a).fst) (Tree.done Exit.ret (lret (IVal.v (Value.bool false))))
  (Tree.need ((2147483648 : Int) ≠ (0 : Int))
  (Tree.need
  (ILeL [u32 a, IVal.v (Value.int IntKind.u32 (IntKind.wrap IntKind.u32 (a + Int.tmod c (2147483648 : Int))))] [u32 a, u32 (IntKind.wrap IntKind.u32 (a + Int.tmod c (2147483648 : Int)))] ∧
  ASpec prog 11 [u32 a, u32 (IntKind.wrap IntKind.u32 (a + Int.tmod c (2147483648 : Int)))]
  (IVal.tup [bo (beforeS a (IntKind.wrap IntKind.u32 (a + Int.tmod c (2147483648 : Int)))).fst, i64 (beforeS a (IntKind.wrap IntKind.u32 (a + Int.tmod c (2147483648 : Int)))).snd]))
  (Tree.br true
  (Tree.br (decide ((beforeS a (IntKind.wrap IntKind.u32 (a + Int.tmod c (2147483648 : Int)))).snd = (0 : Int)))
  (Tree.done Exit.ret (lret (IVal.v (Value.bool ((beforeS a (IntKind.wrap IntKind.u32 (a + Int.tmod c (2147483648 : Int)))).fst == decide ((0 : Int) < Int.tmod c (2147483648 : Int)))))))
  (Tree.done Exit.ret (lret (IVal.v (Value.bool false)))))
  (Tree.done Exit.ret (lret (IVal.v (Value.bool false))))))))
  (Tree.need ((2147483648 : Int) ≠ (0 : Int))
  (Tree.need
  (ILeL [u32 a, IVal.v (Value.int IntKind.u32 (IntKind.wrap IntKind.u32 (a + Int.tmod c (2147483648 : Int))))] [u32 a, u32 (IntKind.wrap IntKind.u32 (a + Int.tmod c (2147483648 : Int)))] ∧
  ASpec prog 11 [u32 a, u32 (IntKind.wrap IntKind.u32 (a + Int.tmod c (2147483648 : Int)))]
  (IVal.tup [bo (beforeS a (IntKind.wrap IntKind.u32 (a + Int.tmod c (2147483648 : Int)))).fst, i64 (beforeS a (IntKind.wrap IntKind.u32 (a + Int.tmod c (2147483648 : Int)))).snd]))
  (Tree.br true
  (Tree.br (decide ((beforeS a (IntKind.wrap IntKind.u32 (a + Int.tmod c (2147483648 : Int)))).snd = (0 : Int)))
  (Tree.done Exit.ret (lret (IVal.v (Value.bool ((beforeS a (IntKind.wrap IntKind.u32 (a + Int.tmod c (2147483648 : Int)))).fst == decide ((0 : Int) < Int.tmod c (2147483648 : Int)))))))
  (Tree.done Exit.ret (lret (IVal.v (Value.bool false)))))
  (Tree.done Exit.ret (lret (IVal.v (Value.bool false))))))))))))))))) := by kernel_rfl
theorem w32 (n : Int) : IntKind.u32.wrap n = n % 4294967296 := rfl
theorem bef_no {a b : Int} (h : (b - a) % 4294967296 = 2147483648) : beforeS a b = (false, 2) := by rw [beforeS, w32, if_pos h]
theorem bef_yes {a b : Int} (h : (b - a) % 4294967296 ≠ 2147483648) : beforeS a b = (decide (0 < (b - a) % 4294967296 ∧ (b - a) % 4294967296 < 2147483648), 0) := by
  rw [beforeS, w32, if_neg h]
  congr 1
  rw [Bool.eq_iff_iff]; simp only [Bool.and_eq_true, decide_eq_true_eq]; omega
theorem c4 (a b c : Int) (ha : 0 ≤ a ∧ a ≤ 4294967295) (hb : 0 ≤ b ∧ b ≤ 4294967295) (hc : 0 ≤ c ∧ c ≤ 4294967295) : ASpec prog 4 [u32 a, u32 b, u32 c] (bo true) := by
  have hs : beforeS (IntKind.u32.wrap (a + c)) (IntKind.u32.wrap (b + c)) = beforeS a b := by
    rw [beforeS, beforeS]
    have : IntKind.u32.wrap (IntKind.u32.wrap (b + c) - IntKind.u32.wrap (a + c)) = IntKind.u32.wrap (b - a) := by simp only [w32]; omega
    rw [this]
  have hn : Int.tmod c 2147483648 = c % 2147483648 := Int.tmod_eq_emod_of_nonneg hc.1
  have hk : beforeS a (IntKind.u32.wrap (a + Int.tmod c 2147483648)) = (decide (0 < Int.tmod c 2147483648), 0) := by
    rw [hn, w32, bef_yes (by omega)]
    congr 1
    rw [Bool.eq_iff_iff]; simp only [decide_eq_true_eq]; omega
  have hab : (IntKind.u32.wrap (a - b) = 2147483648 ∧ beforeS a b = (false, 2) ∧ beforeS b a = (false, 2)) ∨ (IntKind.u32.wrap (a - b) ≠ 2147483648 ∧ a = b ∧ beforeS a b = (false, 0) ∧ beforeS b a = (false, 0)) ∨
      (IntKind.u32.wrap (a - b) ≠ 2147483648 ∧ a ≠ b ∧ ∃ v, beforeS a b = (v, 0) ∧ beforeS b a = (!v, 0)) := by
    by_cases h1 : (a - b) % 4294967296 = 2147483648
    · exact .inl ⟨h1, bef_no (by omega), bef_no h1⟩
    · by_cases h2 : a = b
      · subst h2
        refine .inr (.inl ⟨h1, rfl, ?_, ?_⟩) <;> (rw [bef_yes (by omega), decide_eq_false (by omega)])
      · refine .inr (.inr ⟨h1, h2, _, bef_yes (by omega), ?_⟩)
        rw [bef_yes h1]
        congr 1
        rw [Bool.eq_iff_iff]; simp only [decide_eq_true_eq, Bool.not_eq_true', decide_eq_false_iff_not]; omega
  refine ASpec.treeW Proofs.Try.f4 (T4 a b c) (by kernel_rfl) (by kernel_rfl) (t4 a b c) ?_
  refine need_sat ⟨ILeL.refl _, c17⟩ (need_sat ⟨ILeL.refl _, c11 _ _⟩ (need_sat ⟨ILeL.refl _, c11 _ _⟩ (need_sat ⟨ILeL.refl _, c11 _ _⟩ ⟨fun h1 => ⟨_, rfl, ?_⟩, fun h1 => ⟨fun h2 => ⟨_, rfl, ?_⟩, fun h2 => ⟨fun h3 => ⟨_, rfl, ?_⟩, fun h3 => ⟨fun h4 => ⟨fun _ => ⟨fun h5 => ⟨fun h6 => ⟨_, rfl, ?_⟩, fun h6 => ⟨_, rfl, ?_⟩⟩, fun h5 => ⟨_, rfl, ?_⟩⟩, fun h => (by cases h)⟩, fun h4 => ⟨fun h5 => ⟨_, rfl, ?_⟩, fun h5 => ⟨fun h6 => ⟨fun h7 => ⟨_, rfl, ?_⟩, fun h7 => ⟨fun h8 => ⟨_, rfl, ?_⟩, fun h8 => ⟨fun h9 => ⟨fun h10 => ⟨_, rfl, ?_⟩, fun h10 => need_sat ?_ (need_sat ⟨ILeL.refl _, c11 _ _⟩ ⟨fun _ => ⟨fun h11 => ⟨_, rfl, ?_⟩, fun h11 => ⟨_, rfl, ?_⟩⟩, fun h => (by cases h)⟩)⟩, fun h9 => need_sat ?_ (need_sat ⟨ILeL.refl _, c11 _ _⟩ ⟨fun _ => ⟨fun h10 => ⟨_, rfl, ?_⟩, fun h10 => ⟨_, rfl, ?_⟩⟩, fun h => (by cases h)⟩)⟩⟩⟩, fun h6 => ⟨fun h7 => ⟨fun h8 => ⟨_, rfl, ?_⟩, fun h8 => need_sat ?_ (need_sat ⟨ILeL.refl _, c11 _ _⟩ ⟨fun _ => ⟨fun h9 => ⟨_, rfl, ?_⟩, fun h9 => ⟨_, rfl, ?_⟩⟩, fun h => (by cases h)⟩)⟩, fun h7 => need_sat ?_ (need_sat ⟨ILeL.refl _, c11 _ _⟩ ⟨fun _ => ⟨fun h8 => ⟨_, rfl, ?_⟩, fun h8 => ⟨_, rfl, ?_⟩⟩, fun h => (by cases h)⟩)⟩⟩⟩⟩⟩⟩⟩)))
  all_goals try decide
  all_goals refine ile_bo ?_
  all_goals rcases hab with ⟨g1, g2, g3⟩ | ⟨g1, g2, g3, g4⟩ | ⟨g1, g2, v, g3, g4⟩
  all_goals simp_all
end Gp
namespace Gp
/-! ranges -/
def byteI (n : Int) : Prop := 0 ≤ n ∧ n ≤ 255
def RKey.rng (k : RKey) : Prop := ∀ n ∈ rootL k, byteI n
def Addr.rng (a : Addr) : Prop := (0 ≤ a.hi ∧ a.hi < 2 ^ 64) ∧ (0 ≤ a.lo ∧ a.lo < 2 ^ 64)
def Attest.rng (a : Attest) : Prop := 0 ≤ a.cust ∧ ∀ n ∈ a.provs, 0 ≤ n
theorem anyI_none {p : Nat → Bool} {n : Nat} : anyI p 0 n = false ↔ ∀ i, i < n → p i = false := by
  constructor
  · intro h i hi
    cases hp : p i with
    | false => rfl
    | true => rw [anyI_iff.2 ⟨i, hi, hp⟩] at h; cases h
  · intro h
    cases hn : anyI p 0 n with
    | false => rfl
    | true => obtain ⟨i, hi, hp⟩ := anyI_iff.1 hn; rw [h i hi] at hp; cases hp
structure Payload.rng (p : Payload) : Prop where
  o : ∀ x ∈ p.origins, x.pfx.addr.rng
  t : ∀ x ∈ p.paths, x.rng
  k : ∀ x ∈ p.keys, x.rng
theorem getD_memG {α : Type} [Inhabited α] (l : List α) (i : Nat) (h : i < l.length) : l.getD i default ∈ l := by
  simp [List.getD_eq_getElem?_getD, List.getElem?_eq_getElem h]
end Gp
namespace Gp
/-! Payloads as sets of elements, of which no two lie in one place. -/
section
variable {α : Type} [Inhabited α] [DecidableEq α] {c : α → α → Int}
theorem TW.self {β : Type} {c : β → β → Int} (h : TW c) (x : β) : c x x = 0 := by have := h.asy x x; omega
/-- In strict order. -/
def SS {β : Type} (c : β → β → Int) (l : List β) : Prop := l.Pairwise fun a b => c a b < 0
theorem memD {β : Type} [Inhabited β] {l : List β} {x : β} : x ∈ l ↔ ∃ i, i < l.length ∧ l.getD i default = x := by
  rw [List.mem_iff_getElem]
  constructor
  · rintro ⟨i, hi, rfl⟩; exact ⟨i, hi, by simp [List.getD_eq_getElem?_getD, List.getElem?_eq_getElem hi]⟩
  · rintro ⟨i, hi, rfl⟩; exact ⟨i, hi, by simp [List.getD_eq_getElem?_getD, List.getElem?_eq_getElem hi]⟩
theorem SS.at {β : Type} [Inhabited β] {c : β → β → Int} {l : List β} (h : SS c l) {i j : Nat} (hij : i < j) (hj : j < l.length) : c (l.getD i default) (l.getD j default) < 0 := by
  have := List.pairwise_iff_getElem.1 h i j (by omega) hj hij
  simpa [List.getD_eq_getElem?_getD, List.getElem?_eq_getElem hj, List.getElem?_eq_getElem (show i < l.length by omega)] using this
theorem SS.of {β : Type} [Inhabited β] {c : β → β → Int} {l : List β} (h : ∀ i j, i < j → j < l.length → c (l.getD i default) (l.getD j default) < 0) : SS c l := by
  refine List.pairwise_iff_getElem.2 fun i j hi hj hij => ?_
  have := h i j hij hj
  simpa [List.getD_eq_getElem?_getD, List.getElem?_eq_getElem hj, List.getElem?_eq_getElem hi] using this
theorem SS.inj (tw : TW c) {l : List α} (h : SS c l) {x y : α} (hx : x ∈ l) (hy : y ∈ l) (hz : c x y = 0) : x = y := by
  obtain ⟨i, hi, rfl⟩ := memD.1 hx
  obtain ⟨j, hj, rfl⟩ := memD.1 hy
  rcases Nat.lt_trichotomy i j with g | g | g
  · have := h.at g hj; omega
  · rw [g]
  · have := (tw.asy _ _).1 (h.at g hi); omega
theorem SS.ext {β : Type} {c : β → β → Int} (tw : TW c) : ∀ {l l' : List β}, SS c l → SS c l' → (∀ x, x ∈ l ↔ x ∈ l') → l = l'
  | [], [], _, _, _ => rfl
  | [], y :: l', _, _, h => by have := (h y).2 (List.mem_cons_self ..); cases this
  | x :: l, [], _, _, h => by have := (h x).1 (List.mem_cons_self ..); cases this
  | x :: l, y :: l', h1, h2, h => by
    obtain ⟨a1, a2⟩ := List.pairwise_cons.1 h1
    obtain ⟨b1, b2⟩ := List.pairwise_cons.1 h2
    have e : x = y := by
      rcases List.mem_cons.1 ((h x).1 (List.mem_cons_self ..)) with g | g
      · exact g
      · rcases List.mem_cons.1 ((h y).2 (List.mem_cons_self ..)) with k | k
        · exact k.symm
        · have := (tw.asy _ _).1 (b1 x g); have := a1 y k; omega
    subst e
    congr 1
    refine SS.ext tw a2 b2 fun z => ⟨fun hz => ?_, fun hz => ?_⟩
    · rcases List.mem_cons.1 ((h z).1 (List.mem_cons_of_mem _ hz)) with g | g
      · subst g; have := a1 z hz; have := tw.self z; omega
      · exact g
    · rcases List.mem_cons.1 ((h z).2 (List.mem_cons_of_mem _ hz)) with g | g
      · subst g; have := b1 z hz; have := tw.self z; omega
      · exact g
theorem SS.filter {β : Type} {c : β → β → Int} {l : List β} (h : SS c l) (p : β → Bool) : SS c (l.filter p) := List.Pairwise.filter p h
theorem SS.sub_len {β : Type} [DecidableEq β] {c : β → β → Int} (tw : TW c) {l l' : List β} (h : SS c l) (h' : SS c l') (hs : ∀ x, x ∈ l → x ∈ l') : l.length ≤ l'.length := by
  have : l = l'.filter fun x => decide (x ∈ l) := SS.ext tw h (h'.filter _) fun x => by
    simp only [List.mem_filter, decide_eq_true_eq]; exact ⟨fun hx => ⟨hs x hx, hx⟩, fun hx => hx.2⟩
  rw [this]; exact List.length_filter_le _ _
/-- Where it would lie. -/
def posG (c : α → α → Int) (l : List α) (x : α) : Nat := bs (fun h => decide (c (l.getD h default) x < 0)) l.length 0 l.length
def missG (c : α → α → Int) (l : List α) (x : α) : Bool := decide (posG c l x = l.length) || !decide (l.getD (posG c l x) default = x)
theorem miss_iff (tw : TW c) {l : List α} (h : SS c l) (x : α) : missG c l x = true ↔ x ∉ l := by
  obtain ⟨g1, g2, g3, g4⟩ := bs_spec (fun h => decide (c (l.getD h default) x < 0)) l.length 0 l.length (by omega) (by omega) (fun i j _ hij hj hp => by
    simp only [decide_eq_true_eq] at *
    by_cases e : i = j
    · rw [e]; exact hp
    · exact tw.lt_le (h.at (by omega) hj) (by omega))
  change posG c l x ≤ _ at g2
  change ∀ i, 0 ≤ i → i < posG c l x → _ at g3
  change ∀ i, posG c l x ≤ i → _ at g4
  have key : missG c l x = false ↔ x ∈ l := by
    rw [missG, Bool.or_eq_false_iff, decide_eq_false_iff_not, Bool.not_eq_false', decide_eq_true_eq]
    constructor
    · rintro ⟨a, b⟩
      exact memD.2 ⟨posG c l x, by omega, b⟩
    · intro hx
      obtain ⟨k, hk, rfl⟩ := memD.1 hx
      have hz := tw.self (l.getD k default)
      have k1 : posG c l (l.getD k default) ≤ k := by
        refine Nat.le_of_not_lt fun hlt => ?_
        have := g3 k (Nat.zero_le _) hlt
        simp only [decide_eq_true_eq] at this; omega
      have k2 : posG c l (l.getD k default) = k := by
        refine Nat.le_antisymm k1 (Nat.le_of_not_lt fun hlt => ?_)
        have := g4 _ (Nat.le_refl _) (by omega)
        simp only [decide_eq_false_iff_not] at this
        exact this (h.at hlt hk)
      rw [k2]
      exact ⟨by omega, rfl⟩
  rw [← Bool.not_eq_false, key]
theorem mem_lacks (tw : TW c) {a b : List α} (hb : SS c b) {x : α} : x ∈ a.filter (missG c b) ↔ x ∈ a ∧ x ∉ b := by
  rw [List.mem_filter, miss_iff tw hb]
/-- Two in one place. -/
def dupG {β : Type} [Inhabited β] (c : β → β → Int) (S : List β) : Bool := anyI (fun i => decide (c (S.getD i default) (S.getD (i + 1) default) = 0)) 0 (S.length - 1)
theorem dup_no {β : Type} [Inhabited β] {c : β → β → Int} (tw : TW c) {l : List β} (h : dupG c (sorted (fun a b => decide (c a b < 0)) l) = false) : SS c (sorted (fun a b => decide (c a b < 0)) l) := by
  have hs := (sorted_spec tw.tot l).2
  have hlen := sorted_length (fun a b => decide (c a b < 0)) l
  generalize sorted (fun a b => decide (c a b < 0)) l = S at *
  rw [dupG, anyI_none] at h
  have adj : ∀ i, i + 1 < S.length → c (S.getD i default) (S.getD (i + 1) default) < 0 := by
    intro i hi
    have h1 := h i (by omega)
    have h2 := hs i (i + 1) (by omega) (by omega) (by omega)
    simp only [decide_eq_false_iff_not] at h1 h2
    have := tw.asy (S.getD (i + 1) default) (S.getD i default); omega
  refine SS.of fun i j hij hj => ?_
  obtain ⟨d, rfl⟩ : ∃ d, j = i + 1 + d := ⟨j - (i + 1), by omega⟩
  induction d with
  | zero => exact adj i hj
  | succ d ih =>
    have := ih (by omega) (by omega)
    exact tw.lt_le this (by have := adj (i + 1 + d) hj; exact Int.le_of_lt this)
theorem dup_iff {β : Type} [Inhabited β] {c : β → β → Int} (tw : TW c) {a b : List β} (ha : SS c a) (hb : SS c b) : dupG c (sorted (fun a b => decide (c a b < 0)) (a ++ b)) = false ↔ ∀ x ∈ a, ∀ y ∈ b, c x y ≠ 0 := by
  have hp := (sorted_spec tw.tot (a ++ b)).1
  have sym : ∀ {x y : β}, c x y ≠ 0 → c y x ≠ 0 := fun h h' => h (tw.zero h')
  have weak : ∀ {l : List β}, SS c l → l.Pairwise fun x y => c x y ≠ 0 := fun h => h.imp fun h => by omega
  constructor
  · intro h
    have := (hp.pairwise_iff sym).1 (weak (dup_no tw h))
    exact (List.pairwise_append.1 this).2.2
  · intro h
    have hw : (sorted (fun a b => decide (c a b < 0)) (a ++ b)).Pairwise fun x y => c x y ≠ 0 := (hp.pairwise_iff sym).2 (List.pairwise_append.2 ⟨weak ha, weak hb, h⟩)
    rw [dupG, anyI_none]
    intro i hi
    have := List.pairwise_iff_getElem.1 hw i (i + 1) (by omega) (by omega) (by omega)
    simpa [List.getD_eq_getElem?_getD, List.getElem?_eq_getElem (show i + 1 < (sorted (fun a b => decide (c a b < 0)) (a ++ b)).length by omega), List.getElem?_eq_getElem (show i < (sorted (fun a b => decide (c a b < 0)) (a ++ b)).length by omega)] using this
theorem rising_iff {β : Type} [Inhabited β] {c : β → β → Int} (tw : TW c) {good : β → Bool} {l : List β} : risingB c good default l = true ↔ (∀ x ∈ l, good x = true) ∧ SS c l := by
  rw [risingB, Bool.not_eq_true', anyI_none]
  constructor
  · intro h
    have adj : ∀ i, i + 1 < l.length → c (l.getD i default) (l.getD (i + 1) default) < 0 := by
      intro i hi
      have := h (i + 1) hi
      simp only [bad, Bool.or_eq_false_iff, Bool.and_eq_false_iff, decide_eq_false_iff_not, Nat.add_sub_cancel] at this
      rcases this.2 with g | g <;> omega
    refine ⟨fun x hx => ?_, SS.of fun i j hij hj => ?_⟩
    · obtain ⟨i, hi, rfl⟩ := memD.1 hx
      have := h i hi
      simp only [bad, Bool.or_eq_false_iff, Bool.not_eq_false'] at this
      exact this.1
    · obtain ⟨d, rfl⟩ : ∃ d, j = i + 1 + d := ⟨j - (i + 1), by omega⟩
      induction d with
      | zero => exact adj i hj
      | succ d ih => exact tw.lt_le (ih (by omega) (by omega)) (by have := adj (i + 1 + d) hj; exact Int.le_of_lt this)
  · rintro ⟨h1, h2⟩ i hi
    simp only [bad, Bool.or_eq_false_iff, Bool.not_eq_false', Bool.and_eq_false_iff, decide_eq_false_iff_not]
    refine ⟨h1 _ (memD.2 ⟨i, hi, rfl⟩), ?_⟩
    by_cases h0 : 0 < i
    · exact .inr (by have := h2.at (show i - 1 < i by omega) hi; omega)
    · exact .inl h0
end
end Gp
namespace Gp
/-! Payloads as sets, and what Apply and Compose do to them. -/
inductive El where
  | o (x : Origin)
  | t (x : Attest)
  | k (x : RKey)
  deriving DecidableEq
def inP : El → Payload → Prop
  | .o x, p => x ∈ p.origins
  | .t x, p => x ∈ p.paths
  | .k x, p => x ∈ p.keys
/-- They lie in one place. -/
def same : El → El → Prop
  | .o x, .o y => cmpO x y = 0
  | .t x, .t y => cmpT x y = 0
  | .k x, .k y => cmpK x y = 0
  | _, _ => False
theorem same_self (e : El) : same e e := by cases e; exact tw_cmpO.self _; exact tw_cmpT.self _; exact tw_cmpK.self _
structure PSS (p : Payload) : Prop where
  o : SS cmpO p.origins
  t : SS cmpT p.paths
  k : SS cmpK p.keys
theorem PSS.inj {p : Payload} (h : PSS p) {e e' : El} (h1 : inP e p) (h2 : inP e' p) (hs : same e e') : e = e' := by
  cases e <;> cases e' <;> simp only [same] at hs
  · rw [h.o.inj tw_cmpO h1 h2 hs]
  · rw [h.t.inj tw_cmpT h1 h2 hs]
  · rw [h.k.inj tw_cmpK h1 h2 hs]
theorem PSS.ext {p q : Payload} (hp : PSS p) (hq : PSS q) (h : ∀ e, inP e p ↔ inP e q) : p = q := by
  have h1 := SS.ext tw_cmpO hp.o hq.o fun x => h (.o x)
  have h2 := SS.ext tw_cmpT hp.t hq.t fun x => h (.t x)
  have h3 := SS.ext tw_cmpK hp.k hq.k fun x => h (.k x)
  cases p; cases q; simp only at h1 h2 h3; subst h1 h2 h3; rfl
theorem in_minus {q : Payload} (hq : PSS q) (p : Payload) (e : El) : inP e (minusP p q) ↔ inP e p ∧ ¬ inP e q := by
  cases e
  · exact mem_lacks tw_cmpO hq.o
  · exact mem_lacks tw_cmpT hq.t
  · exact mem_lacks tw_cmpK hq.k
theorem PSS.minus {p : Payload} (hp : PSS p) (q : Payload) : PSS (minusP p q) := ⟨hp.o.filter _, hp.t.filter _, hp.k.filter _⟩
theorem in_plus (p q : Payload) (e : El) : inP e (plusP p q) ↔ inP e p ∨ inP e q := by
  cases e
  · exact (mem_sorted totO).trans List.mem_append
  · exact (mem_sorted totT).trans List.mem_append
  · exact (mem_sorted totK).trans List.mem_append
theorem dup_plus {p q : Payload} (hp : PSS p) (hq : PSS q) : dupP (plusP p q) = false ↔ ∀ e e', inP e p → inP e' q → ¬ same e e' := by
  have h1 := dup_iff tw_cmpO hp.o hq.o
  have h2 := dup_iff tw_cmpT hp.t hq.t
  have h3 := dup_iff tw_cmpK hp.k hq.k
  have e1 : dupP (plusP p q) = false ↔ (∀ x ∈ p.origins, ∀ y ∈ q.origins, cmpO x y ≠ 0) ∧ (∀ x ∈ p.paths, ∀ y ∈ q.paths, cmpT x y ≠ 0) ∧ (∀ x ∈ p.keys, ∀ y ∈ q.keys, cmpK x y ≠ 0) := by
    rw [dupP, Bool.or_eq_false_iff, Bool.or_eq_false_iff]
    exact and_congr h1 (and_congr h2 h3)
  rw [e1]
  constructor
  · rintro ⟨g1, g2, g3⟩ e e' a b
    cases e <;> cases e' <;> simp only [same, not_false_eq_true]
    · exact g1 _ a _ b
    · exact g2 _ a _ b
    · exact g3 _ a _ b
  · intro h
    exact ⟨fun x hx y hy => h (.o x) (.o y) hx hy, fun x hx y hy => h (.t x) (.t y) hx hy, fun x hx y hy => h (.k x) (.k y) hx hy⟩
theorem PSS.plus {p q : Payload} (h : dupP (plusP p q) = false) : PSS (plusP p q) := by
  rw [dupP, Bool.or_eq_false_iff, Bool.or_eq_false_iff] at h
  exact ⟨dup_no tw_cmpO h.1, dup_no tw_cmpT h.2.1, dup_no tw_cmpK h.2.2⟩
theorem size_minus (p q : Payload) : sizeP (minusP p q) = sizeP p ↔ (∀ x ∈ p.origins, missO q.origins x = true) ∧ (∀ x ∈ p.paths, missT q.paths x = true) ∧ (∀ x ∈ p.keys, missK q.keys x = true) := by
  have h1 := List.length_filter_le (missO q.origins) p.origins
  have h2 := List.length_filter_le (missT q.paths) p.paths
  have h3 := List.length_filter_le (missK q.keys) p.keys
  have k1 := List.length_filter_eq_length_iff (p := missO q.origins) (l := p.origins)
  have k2 := List.length_filter_eq_length_iff (p := missT q.paths) (l := p.paths)
  have k3 := List.length_filter_eq_length_iff (p := missK q.keys) (l := p.keys)
  rw [← k1, ← k2, ← k3]
  simp only [sizeP, minusP]
  omega
theorem apart_iff {p q : Payload} (hq : PSS q) : apartP p q = true ↔ ∀ e, inP e p → ¬ inP e q := by
  rw [apartP, decide_eq_true_eq, size_minus]
  constructor
  · rintro ⟨g1, g2, g3⟩ e he
    cases e with
    | o x => exact (miss_iff tw_cmpO hq.o x).1 (g1 x he)
    | t x => exact (miss_iff tw_cmpT hq.t x).1 (g2 x he)
    | k x => exact (miss_iff tw_cmpK hq.k x).1 (g3 x he)
  · intro h
    exact ⟨fun x hx => (miss_iff tw_cmpO hq.o x).2 (h (.o x) hx), fun x hx => (miss_iff tw_cmpT hq.t x).2 (h (.t x) hx), fun x hx => (miss_iff tw_cmpK hq.k x).2 (h (.k x) hx)⟩
theorem size_none (p : Payload) : ¬ 0 < sizeP p ↔ ∀ e, ¬ inP e p := by
  constructor
  · intro h e he
    simp only [sizeP] at h
    cases e with
    | o x => have := List.length_pos_of_mem (show x ∈ p.origins from he); omega
    | t x => have := List.length_pos_of_mem (show x ∈ p.paths from he); omega
    | k x => have := List.length_pos_of_mem (show x ∈ p.keys from he); omega
  · intro h
    have h1 : p.origins = [] := List.eq_nil_iff_forall_not_mem.2 fun x => h (.o x)
    have h2 : p.paths = [] := List.eq_nil_iff_forall_not_mem.2 fun x => h (.t x)
    have h3 : p.keys = [] := List.eq_nil_iff_forall_not_mem.2 fun x => h (.k x)
    simp [sizeP, h1, h2, h3]
/-- An element that may stand in a payload. -/
def goodE : El → Prop
  | .o x => goodO x = true
  | .t x => x.provs.length ≤ 50 ∧ goodT x = true
  | .k x => goodK x = true
structure Good (p : Payload) : Prop where
  s : PSS p
  g : ∀ e, inP e p → goodE e
  lo : p.origins.length ≤ 1000
  lt' : p.paths.length ≤ 300
  lk : p.keys.length ≤ 100
theorem ck_iff (p : Payload) : ckL p = 0 ↔ Good p := by
  have r1 := rising_iff tw_cmpO (good := goodO) (l := p.origins)
  have r2 := rising_iff tw_cmpT (good := goodT) (l := p.paths)
  have r3 := rising_iff tw_cmpK (good := goodK) (l := p.keys)
  rw [ckL]
  by_cases h : 1000 < p.origins.length ∨ 300 < p.paths.length ∨ 100 < p.keys.length ∨ manyP p = true
  · rw [if_pos h]
    refine ⟨fun h => (by cases h), fun g => ?_⟩
    rcases h with h | h | h | h
    · have := g.lo; omega
    · have := g.lt'; omega
    · have := g.lk; omega
    · rw [manyP, decide_eq_true_eq] at h
      obtain ⟨a, ha, hl⟩ := h
      have := (g.g (.t a) ha).1; omega
  · rw [if_neg h]
    have hm : ∀ a ∈ p.paths, a.provs.length ≤ 50 := fun a ha => Nat.le_of_not_lt fun hl => h (.inr (.inr (.inr (by rw [manyP, decide_eq_true_eq]; exact ⟨a, ha, hl⟩))))
    by_cases hr : (risingB cmpO goodO default p.origins && risingB cmpT goodT default p.paths && risingB cmpK goodK default p.keys) = true
    · rw [if_pos hr]
      rw [Bool.and_eq_true, Bool.and_eq_true, r1, r2, r3] at hr
      refine ⟨fun _ => ⟨⟨hr.1.1.2, hr.1.2.2, hr.2.2⟩, fun e he => ?_, by omega, by omega, by omega⟩, fun _ => rfl⟩
      cases e with
      | o x => exact hr.1.1.1 x he
      | t x => exact ⟨hm x he, hr.1.2.1 x he⟩
      | k x => exact hr.2.1 x he
    · rw [if_neg hr]
      refine ⟨fun h => (by cases h), fun g => absurd ?_ hr⟩
      rw [Bool.and_eq_true, Bool.and_eq_true, r1, r2, r3]
      exact ⟨⟨⟨fun x hx => g.g (.o x) hx, g.s.o⟩, ⟨fun x hx => (g.g (.t x) hx).2, g.s.t⟩⟩, ⟨fun x hx => g.g (.k x) hx, g.s.k⟩⟩
theorem Good.sub {p q : Payload} (h : Good q) (hp : PSS p) (hs : ∀ e, inP e p → inP e q) : Good p :=
  ⟨hp, fun e he => h.g e (hs e he), Nat.le_trans (hp.o.sub_len tw_cmpO h.s.o fun x hx => hs (.o x) hx) h.lo, Nat.le_trans (hp.t.sub_len tw_cmpT h.s.t fun x hx => hs (.t x) hx) h.lt', Nat.le_trans (hp.k.sub_len tw_cmpK h.s.k fun x hx => hs (.k x) hx) h.lk⟩
theorem Good.sm {p : Payload} (h : Good p) : p.sm :=
  ⟨by have := h.lo; omega, by have := h.lt'; omega, by have := h.lk; omega, fun a ha => by have := (h.g (.t a) ha).1; unfold okT; omega⟩
theorem noP_good : Good noP := ⟨⟨.nil, .nil, .nil⟩, fun e he => (by cases e <;> cases he), by simp [noP], by simp [noP], by simp [noP]⟩
structure Valid (d : Diff) : Prop where
  g : Good d.gone
  c : Good d.come
  a : ∀ e, inP e d.gone → ¬ inP e d.come
theorem valid_iff (d : Diff) : validD d = 0 ↔ Valid d := by
  rw [validD]
  by_cases h1 : ckL d.gone = 0
  · rw [if_neg (Decidable.not_not.2 h1)]
    by_cases h2 : ckL d.come = 0
    · rw [if_neg (Decidable.not_not.2 h2)]
      have g1 := (ck_iff _).1 h1; have g2 := (ck_iff _).1 h2
      have ha := apart_iff (p := d.gone) g2.s
      by_cases h3 : apartP d.gone d.come = true
      · rw [if_pos h3]; exact ⟨fun _ => ⟨g1, g2, ha.1 h3⟩, fun _ => rfl⟩
      · rw [if_neg h3]; exact ⟨fun h => (by cases h), fun v => absurd (ha.2 v.a) h3⟩
    · rw [if_pos h2]; exact ⟨fun h => absurd h h2, fun v => absurd ((ck_iff _).2 v.c) h2⟩
  · rw [if_pos h1]; exact ⟨fun h => absurd h h1, fun v => absurd ((ck_iff _).2 v.g) h1⟩
/-- What it is that a difference leads from one payload to another. -/
structure App (p : Payload) (d : Diff) (q : Payload) : Prop where
  gp : Good p
  gd : Valid d
  gq : Good q
  sub : ∀ e, inP e d.gone → inP e p
  free : ∀ e e', inP e p → ¬ inP e d.gone → inP e' d.come → ¬ same e e'
  out : ∀ e, inP e q ↔ (inP e p ∧ ¬ inP e d.gone) ∨ inP e d.come
theorem apply_iff {p : Payload} {d : Diff} {q : Payload} : applyS p d = (q, 0) ↔ App p d q := by
  constructor
  · intro h
    rw [applyS] at h
    by_cases h1 : ckL p = 0
    · rw [if_neg (Decidable.not_not.2 h1)] at h
      by_cases h2 : validD d = 0
      · rw [if_neg (Decidable.not_not.2 h2)] at h
        have gp := (ck_iff _).1 h1; have gd := (valid_iff _).1 h2
        by_cases h3 : 0 < sizeP (minusP d.gone p)
        · rw [if_pos h3] at h; simp at h
        · rw [if_neg h3] at h
          have h3' := (size_none _).1 h3
          by_cases h4 : dupP (plusP (minusP p d.gone) d.come) = true
          · rw [if_pos h4] at h; simp at h
          · rw [if_neg h4] at h
            have h4' := (dup_plus (gp.s.minus d.gone) gd.c.s).1 (by simpa using h4)
            by_cases h5 : ckL (plusP (minusP p d.gone) d.come) = 0
            · rw [if_neg (Decidable.not_not.2 h5)] at h
              simp only [Prod.mk.injEq, and_true] at h; subst h
              refine ⟨gp, gd, (ck_iff _).1 h5, fun e he => Classical.byContradiction fun hn => h3' e ((in_minus gp.s _ e).2 ⟨he, hn⟩), fun e e' a b c' => h4' e e' ((in_minus gd.g.s _ e).2 ⟨a, b⟩) c', fun e => ?_⟩
              rw [in_plus, in_minus gd.g.s]
            · rw [if_pos h5] at h; simp only [Prod.mk.injEq] at h; exact absurd h.2 h5
      · rw [if_pos h2] at h; simp only [Prod.mk.injEq] at h; exact absurd h.2 h2
    · rw [if_pos h1] at h; simp only [Prod.mk.injEq] at h; exact absurd h.2 h1
  · intro h
    have h1 := (ck_iff _).2 h.gp; have h2 := (valid_iff _).2 h.gd
    have h3 : ¬ 0 < sizeP (minusP d.gone p) := (size_none _).2 fun e he => by
      obtain ⟨a, b⟩ := (in_minus h.gp.s _ e).1 he
      exact b (h.sub e a)
    have h4 : dupP (plusP (minusP p d.gone) d.come) = false := (dup_plus (h.gp.s.minus _) h.gd.c.s).2 fun e e' a b => by
      obtain ⟨a1, a2⟩ := (in_minus h.gd.g.s _ e).1 a
      exact h.free e e' a1 a2 b
    have hq : plusP (minusP p d.gone) d.come = q := PSS.ext (PSS.plus h4) h.gq.s fun e => by rw [in_plus, in_minus h.gd.g.s, h.out]
    have h5 : ckL (plusP (minusP p d.gone) d.come) = 0 := by rw [hq]; exact (ck_iff _).2 h.gq
    rw [applyS, if_neg (Decidable.not_not.2 h1), if_neg (Decidable.not_not.2 h2), if_neg h3, if_neg (by rw [h4]; decide), if_neg (Decidable.not_not.2 h5), hq]
theorem apply_fail {p : Payload} {d : Diff} (h : (applyS p d).2 ≠ 0) : (applyS p d).1 = noP := by
  unfold applyS at *
  (repeat' split) <;> first | rfl | simp_all
theorem apply_eta (p : Payload) (d : Diff) (h : (applyS p d).2 = 0) : applyS p d = ((applyS p d).1, 0) := by rw [← h]
/-- It is the one. -/
theorem App.uniq {p q : Payload} {d : Diff} (h : App p d q) : (∀ e, inP e d.gone ↔ inP e p ∧ ¬ inP e q) ∧ (∀ e, inP e d.come ↔ inP e q ∧ ¬ inP e p) := by
  refine ⟨fun e => ⟨fun he => ⟨h.sub e he, fun hq => ?_⟩, fun ⟨a, b⟩ => ?_⟩, fun e => ⟨fun he => ⟨(h.out e).2 (.inr he), fun hp => ?_⟩, fun ⟨a, b⟩ => ?_⟩⟩
  · rcases (h.out e).1 hq with g | g
    · exact g.2 he
    · exact h.gd.a e he g
  · exact Classical.byContradiction fun hn => b ((h.out e).2 (.inl ⟨a, hn⟩))
  · exact h.free e e hp (fun hg => h.gd.a e hg he) he (same_self e)
  · rcases (h.out e).1 a with g | g
    · exact absurd g.1 b
    · exact g
theorem App.between {p q : Payload} {d : Diff} (hp : Good p) (hq : Good q) (hd : Valid d) (h1 : ∀ e, inP e d.gone ↔ inP e p ∧ ¬ inP e q) (h2 : ∀ e, inP e d.come ↔ inP e q ∧ ¬ inP e p) : App p d q := by
  refine ⟨hp, hd, hq, fun e he => ((h1 e).1 he).1, fun e e' a b c hs => ?_, fun e => ?_⟩
  · have hqe : inP e q := Classical.byContradiction fun hn => b ((h1 e).2 ⟨a, hn⟩)
    obtain ⟨c1, c2⟩ := (h2 e').1 c
    exact c2 (hq.s.inj hqe c1 hs ▸ a)
  · rw [h1, h2]
    constructor
    · intro hq'
      by_cases hp' : inP e p
      · exact .inl ⟨hp', fun g => g.2 hq'⟩
      · exact .inr ⟨hq', hp'⟩
    · rintro (⟨a, b⟩ | ⟨a, _⟩)
      · exact Classical.byContradiction fun hn => b ⟨a, hn⟩
      · exact a
theorem diff_ext {d f : Diff} (hd : Valid d) (hf : Valid f) (h1 : ∀ e, inP e d.gone ↔ inP e f.gone) (h2 : ∀ e, inP e d.come ↔ inP e f.come) : d = f := by
  have e1 := PSS.ext hd.g.s hf.g.s h1
  have e2 := PSS.ext hd.c.s hf.c.s h2
  cases d; cases f; simp only at e1 e2; subst e1 e2; rfl
theorem App.same {p q : Payload} {d f : Diff} (h : App p d q) (h' : App p f q) : d = f :=
  diff_ext h.gd h'.gd (fun e => (h.uniq.1 e).trans (h'.uniq.1 e).symm) (fun e => (h.uniq.2 e).trans (h'.uniq.2 e).symm)
/-- Both at once. -/
theorem App.compose {p q r : Payload} {d f : Diff} (h : App p d q) (h' : App q f r) : ∃ x, composeS d f = (x, 0) ∧ App p x r := by
  have v1 := (valid_iff _).2 h.gd; have v2 := (valid_iff _).2 h'.gd
  have g1 : ∀ e, inP e (minusP d.gone f.come) ↔ inP e d.gone ∧ ¬ inP e f.come := in_minus h'.gd.c.s _
  have g2 : ∀ e, inP e (minusP f.gone d.come) ↔ inP e f.gone ∧ ¬ inP e d.come := in_minus h.gd.c.s _
  have k1 : ∀ e, inP e (minusP d.come f.gone) ↔ inP e d.come ∧ ¬ inP e f.gone := in_minus h'.gd.g.s _
  have k2 : ∀ e, inP e (minusP f.come d.gone) ↔ inP e f.come ∧ ¬ inP e d.gone := in_minus h.gd.g.s _
  -- what is gone of q and did not come, was in p
  have fp : ∀ e, inP e f.gone → ¬ inP e d.come → inP e p ∧ ¬ inP e d.gone := fun e a b => by
    rcases (h.out e).1 (h'.sub e a) with g | g
    · exact g
    · exact absurd g b
  have n1 : dupP (plusP (minusP d.gone f.come) (minusP f.gone d.come)) = false := (dup_plus (h.gd.g.s.minus _) (h'.gd.g.s.minus _)).2 fun e e' a b hs => by
    obtain ⟨a1, a2⟩ := (g1 e).1 a
    obtain ⟨b1, b2⟩ := (g2 e').1 b
    obtain ⟨c1, c2⟩ := fp e' b1 b2
    exact c2 (h.gp.s.inj (h.sub e a1) c1 hs ▸ a1)
  have n2 : dupP (plusP (minusP d.come f.gone) (minusP f.come d.gone)) = false := (dup_plus (h.gd.c.s.minus _) (h'.gd.c.s.minus _)).2 fun e e' a b hs => by
    obtain ⟨a1, a2⟩ := (k1 e).1 a
    obtain ⟨b1, b2⟩ := (k2 e').1 b
    exact h'.free e e' ((h.out e).2 (.inr a1)) a2 b1 hs
  have m1 : apartP d.gone f.gone = true := (apart_iff h'.gd.g.s).2 fun e a b => (h.uniq.1 e).1 a |>.2 (h'.sub e b)
  have m2 : apartP d.come f.come = true := (apart_iff h'.gd.c.s).2 fun e a b => h'.free e e ((h.out e).2 (.inr a)) (fun hg => h'.gd.a e hg b) b (same_self e)
  have s1 : PSS (plusP (minusP d.gone f.come) (minusP f.gone d.come)) := PSS.plus n1
  have s2 : PSS (plusP (minusP d.come f.gone) (minusP f.come d.gone)) := PSS.plus n2
  have i1 : ∀ e, inP e (plusP (minusP d.gone f.come) (minusP f.gone d.come)) ↔ inP e p ∧ ¬ inP e r := fun e => by
    rw [in_plus, g1, g2]
    constructor
    · rintro (⟨a, b⟩ | ⟨a, b⟩)
      · refine ⟨h.sub e a, fun hr => ?_⟩
        rcases (h'.out e).1 hr with g | g
        · exact ((h.uniq.1 e).1 a).2 g.1
        · exact b g
      · refine ⟨(fp e a b).1, fun hr => ?_⟩
        rcases (h'.out e).1 hr with g | g
        · exact g.2 a
        · exact h'.gd.a e a g
    · rintro ⟨a, b⟩
      by_cases hg : inP e d.gone
      · exact .inl ⟨hg, fun hk => b ((h'.out e).2 (.inr hk))⟩
      · have hq : inP e q := (h.out e).2 (.inl ⟨a, hg⟩)
        exact .inr ⟨Classical.byContradiction fun hn => b ((h'.out e).2 (.inl ⟨hq, hn⟩)), fun hk => h.free e e a hg hk (same_self e)⟩
  have i2 : ∀ e, inP e (plusP (minusP d.come f.gone) (minusP f.come d.gone)) ↔ inP e r ∧ ¬ inP e p := fun e => by
    rw [in_plus, k1, k2]
    constructor
    · rintro (⟨a, b⟩ | ⟨a, b⟩)
      · exact ⟨(h'.out e).2 (.inl ⟨(h.out e).2 (.inr a), b⟩), ((h.uniq.2 e).1 a).2⟩
      · refine ⟨(h'.out e).2 (.inr a), fun hp => ?_⟩
        exact ((h'.uniq.2 e).1 a).2 ((h.out e).2 (.inl ⟨hp, b⟩))
    · rintro ⟨a, b⟩
      rcases (h'.out e).1 a with g | g
      · rcases (h.out e).1 g.1 with k | k
        · exact absurd k.1 b
        · exact .inl ⟨k, g.2⟩
      · exact .inr ⟨g, fun hg => b (h.sub e hg)⟩
  have G1 : Good (plusP (minusP d.gone f.come) (minusP f.gone d.come)) := h.gp.sub s1 fun e he => ((i1 e).1 he).1
  have G2 : Good (plusP (minusP d.come f.gone) (minusP f.come d.gone)) := h'.gq.sub s2 fun e he => ((i2 e).1 he).1
  refine ⟨⟨plusP (minusP d.gone f.come) (minusP f.gone d.come), plusP (minusP d.come f.gone) (minusP f.come d.gone)⟩, ?_, App.between h.gp h'.gq ⟨G1, G2, fun e a b => ((i1 e).1 a).2 ((i2 e).1 b).1⟩ i1 i2⟩
  have j1 : joinB d.gone f.gone f.come d.come = false := by rw [joinB, n1, m1]; rfl
  have j2 : joinB d.come f.come f.gone d.gone = false := by rw [joinB, n2, m2]; rfl
  rw [composeS, if_neg (Decidable.not_not.2 v1), if_neg (Decidable.not_not.2 v2), if_neg (by rw [j1]; decide), if_neg (by rw [j2]; decide), if_neg (by
    rintro (g | g)
    · exact g ((ck_iff _).2 G1)
    · exact g ((ck_iff _).2 G2))]
  rfl
end Gp
namespace Gp
theorem wrap0 : IntKind.i64.wrap 0 = 0 := rfl
theorem great_sm {p : Payload} (h : greatP p = false) : p.sm := by
  simp only [greatP, greatB, Bool.or_eq_false_iff, Bool.and_eq_false_imp, decide_eq_true_eq, decide_eq_false_iff_not] at h
  obtain ⟨⟨⟨⟨_, h1⟩, ⟨_, h2⟩⟩, ⟨_, h3⟩⟩, h4⟩ := h
  refine ⟨by omega, by omega, by omega, fun a ha => ?_⟩
  obtain ⟨i, hi, hx⟩ := List.mem_iff_getElem.1 ha
  unfold okT
  rcases Nat.lt_or_ge 60 a.provs.length with hlt | hge
  · exfalso
    have h4 := anyI_none.1 h4 i hi
    simp [P8, P8', List.getD_eq_getElem?_getD, List.getElem?_eq_getElem hi, hx] at h4; omega
  · omega
theorem noP_sm : noP.sm := noP_good.sm
theorem noD_sm : noD.sm := ⟨noP_sm, noP_sm⟩
theorem apply_sm (p : Payload) (d : Diff) : (applyS p d).1.sm := by
  by_cases h : (applyS p d).2 = 0
  · exact (apply_iff.1 (apply_eta p d h)).gq.sm
  · rw [apply_fail h]; exact noP_sm
theorem inverse_sm {d : Diff} (h : d.sm) : (inverseS d).1.sm := by
  unfold inverseS; split
  · exact noD_sm
  · exact ⟨h.c, h.g⟩
theorem compose_sm (d f : Diff) : (composeS d f).1.sm := by
  unfold composeS
  split
  · exact noD_sm
  · split
    · exact noD_sm
    · split
      · exact noD_sm
      · split
        · exact noD_sm
        · split
          · exact noD_sm
          · rename_i h
            have g1 : ckL (joinP d.gone f.gone f.come d.come) = 0 := Classical.byContradiction fun hn => h (.inl hn)
            have g2 : ckL (joinP d.come f.come f.gone d.gone) = 0 := Classical.byContradiction fun hn => h (.inr hn)
            exact ⟨((ck_iff _).1 g1).sm, ((ck_iff _).1 g2).sm⟩
theorem minus_self {p : Payload} (h : PSS p) : minusP p p = noP := PSS.ext (h.minus p) noP_good.s fun e => by
  rw [in_minus h]
  constructor
  · rintro ⟨a, b⟩; exact absurd a b
  · intro he; cases e <;> cases he
theorem compose_inv {d : Diff} (h : Valid d) : composeS d ⟨d.come, d.gone⟩ = (noD, 0) := by
  have hb : Valid ⟨d.come, d.gone⟩ := ⟨h.c, h.g, fun e a b => h.a e b a⟩
  have e1 := minus_self h.g.s
  have e2 := minus_self h.c.s
  have a1 := (apart_iff (p := d.gone) h.c.s).2 h.a
  have a2 := (apart_iff (p := d.come) h.g.s).2 hb.a
  have j1 : joinB d.gone d.come d.gone d.come = false := by rw [joinB, e1, e2, a1]; rfl
  have j2 : joinB d.come d.gone d.come d.gone = false := by rw [joinB, e1, e2, a2]; rfl
  have p1 : joinP d.gone d.come d.gone d.come = noP := by rw [joinP, e1, e2]; rfl
  have p2 : joinP d.come d.gone d.come d.gone = noP := by rw [joinP, e1, e2]; rfl
  rw [composeS, if_neg (Decidable.not_not.2 ((valid_iff d).2 h)), if_neg (Decidable.not_not.2 ((valid_iff _).2 hb)), if_neg (by rw [j1]; decide), if_neg (by rw [j2]; decide), p1, p2, if_neg (by decide)]
  rfl
theorem back_law (p : Payload) (d : Diff) : ((inverseS d).2 ≠ 0 ∧ (inverseS d).1 = noD ∧ (applyS p d).2 ≠ 0) ∨
    ((inverseS d).2 = 0 ∧ inverseS (inverseS d).1 = (d, 0) ∧ composeS d (inverseS d).1 = (noD, 0) ∧ ((applyS p d).2 = 0 → applyS (applyS p d).1 (inverseS d).1 = (p, 0))) := by
  by_cases h : validD d = 0
  · refine .inr ?_
    have hv := (valid_iff d).1 h
    have hi : inverseS d = (⟨d.come, d.gone⟩, 0) := by rw [inverseS, if_neg (Decidable.not_not.2 h)]
    have hb : Valid ⟨d.come, d.gone⟩ := ⟨hv.c, hv.g, fun e a b => hv.a e b a⟩
    rw [hi]
    refine ⟨rfl, ?_, compose_inv hv, fun ha => ?_⟩
    · rw [inverseS, if_neg (Decidable.not_not.2 ((valid_iff _).2 hb))]
    · have ha := apply_iff.1 (apply_eta p d ha)
      exact apply_iff.2 (App.between ha.gq ha.gp hb ha.uniq.2 ha.uniq.1)
  · refine .inl ⟨?_, ?_, fun ha => ?_⟩
    · rw [inverseS, if_pos h]; exact h
    · rw [inverseS, if_pos h]
    · exact h ((valid_iff d).2 (apply_iff.1 (apply_eta p d ha)).gd)
def T7 (p : Payload) (d : Diff) : Tell :=
  Tell.mk (fun x x_1 => false) (fun x x_1 => Orc.no) (fun x => Tree.fail 1000003 0) (fun x => 0) (fun x => ([], []))
  (oget
  [(3, 1, 0, Orc.call [] (bo true)), (5, 2, 1, Orc.call [encL p] (bo (greatP p))), (5, 2, 4, Orc.call [encD d] (bo (greatP d.gone || greatP d.come))),
  (15, 4, 2, Orc.call [encL p, encD d] (IVal.tup [encL (applyS p d).fst, i64 (applyS p d).snd])), (24, 5, 1, Orc.call [encD d] (IVal.tup [encD (inverseS d).fst, i64 (inverseS d).snd])),
  (34, 7, 8, Orc.call [encL (inverseS d).fst.gone] (i64 (sizeP (inverseS d).fst.gone))),
  (34, 8, 1, Orc.call [encD (inverseS d).fst] (IVal.tup [encD (inverseS (inverseS d).fst).fst, i64 (inverseS (inverseS d).fst).snd])),
  (34, 7, 11, Orc.call [encL (inverseS d).fst.come] (i64 (sizeP (inverseS d).fst.come))),
  (42, 9, 2, Orc.call [encD d, encD (inverseS d).fst] (IVal.tup [encD (composeS d (inverseS d).fst).fst, i64 (composeS d (inverseS d).fst).snd])),
  (51, 10, 5, Orc.call [encD (inverseS (inverseS d).fst).fst, encD d] (bo (decide ((inverseS (inverseS d).fst).fst = d)))),
  (51, 10, 15, Orc.call [encL (composeS d (inverseS d).fst).fst.gone] (i64 (sizeP (composeS d (inverseS d).fst).fst.gone))),
  (51, 10, 18, Orc.call [encL (composeS d (inverseS d).fst).fst.come] (i64 (sizeP (composeS d (inverseS d).fst).fst.come))),
  (75, 14, 2, Orc.call [encL (applyS p d).fst, encD (inverseS d).fst] (IVal.tup [encL (applyS (applyS p d).fst (inverseS d).fst).fst, i64 (applyS (applyS p d).fst (inverseS d).fst).snd])),
  (84, 15, 8, Orc.call [encL (applyS (applyS p d).fst (inverseS d).fst).fst, encL p] (bo (decide ((applyS (applyS p d).fst (inverseS d).fst).fst = p))))])
  fun x x_1 => Tree.fail 1000003 0
theorem t7 (p : Payload) (d : Diff) : levF prog Proofs.Try.f7 [encL p, encD d] (T7 p d) =
  Tree.need (ILeL [] [] ∧ ASpec prog 17 [] (bo true))
  (Tree.need (ILeL [encL p] [encL p] ∧ ASpec prog 8 [encL p] (bo (greatP p)))
  (Tree.br (greatP p) (Tree.done Exit.ret (lret (IVal.v (Value.bool true))))
  (Tree.need (ILeL [encD d] [encD d] ∧ ASpec prog 18 [encD d] (bo (greatP d.gone || greatP d.come)))
  (Tree.br (greatP d.gone || greatP d.come) (Tree.done Exit.ret (lret (IVal.v (Value.bool true))))
  (Tree.br false (Tree.done Exit.ret (lret (IVal.v (Value.bool true))))
  (Tree.need (ILeL [encL p, encD d] [encL p, encD d] ∧ ASpec prog 19 [encL p, encD d] (IVal.tup [encL (applyS p d).fst, i64 (applyS p d).snd]))
  (Tree.need (ILeL [encD d] [encD d] ∧ ASpec prog 25 [encD d] (IVal.tup [encD (inverseS d).fst, i64 (inverseS d).snd]))
  (Tree.br (!decide ((inverseS d).snd = (0 : Int)))
  (Tree.br true
  (Tree.br (!decide ((applyS p d).snd = (0 : Int)))
  (Tree.need
  (ILeL [IVal.agg [slE 6 encO (inverseS d).fst.gone.origins, slE 2 encT (inverseS d).fst.gone.paths, slE 18 encK (inverseS d).fst.gone.keys]] [encL (inverseS d).fst.gone] ∧
  ASpec prog 27 [encL (inverseS d).fst.gone] (i64 (sizeP (inverseS d).fst.gone)))
  (Tree.need
  (ILeL [IVal.agg [slE 6 encO (inverseS d).fst.come.origins, slE 2 encT (inverseS d).fst.come.paths, slE 18 encK (inverseS d).fst.come.keys]] [encL (inverseS d).fst.come] ∧
  ASpec prog 27 [encL (inverseS d).fst.come] (i64 (sizeP (inverseS d).fst.come)))
  (Tree.done Exit.ret (lret (IVal.v (Value.bool (decide (IntKind.wrap IntKind.i64 (sizeP (inverseS d).fst.gone + sizeP (inverseS d).fst.come) = (0 : Int)))))))))
  (Tree.done Exit.ret (lret (IVal.v (Value.bool false)))))
  (Tree.done Exit.ret (lret (IVal.v (Value.bool false)))))
  (Tree.need (ILeL [encD (inverseS d).fst] [encD (inverseS d).fst] ∧ ASpec prog 25 [encD (inverseS d).fst] (IVal.tup [encD (inverseS (inverseS d).fst).fst, i64 (inverseS (inverseS d).fst).snd]))
  (Tree.need
  (ILeL [encD d, encD (inverseS d).fst] [encD d, encD (inverseS d).fst] ∧ ASpec prog 20 [encD d, encD (inverseS d).fst] (IVal.tup [encD (composeS d (inverseS d).fst).fst, i64 (composeS d (inverseS d).fst).snd]))
  (Tree.br (!decide ((inverseS (inverseS d).fst).snd = (0 : Int))) (Tree.done Exit.ret (lret (IVal.v (Value.bool false))))
  (Tree.need
  (ILeL [encD (inverseS (inverseS d).fst).fst, encD d] [encD (inverseS (inverseS d).fst).fst, encD d] ∧
  ASpec prog 21 [encD (inverseS (inverseS d).fst).fst, encD d] (bo (decide ((inverseS (inverseS d).fst).fst = d))))
  (Tree.br (!decide ((inverseS (inverseS d).fst).fst = d)) (Tree.done Exit.ret (lret (IVal.v (Value.bool false))))
  (Tree.br (!decide ((composeS d (inverseS d).fst).snd = (0 : Int))) (Tree.done Exit.ret (lret (IVal.v (Value.bool false))))
  (Tree.need
  (ILeL
  [IVal.agg
  [slE 6 encO (composeS d (inverseS d).fst).fst.gone.origins, slE 2 encT (composeS d (inverseS d).fst).fst.gone.paths, slE 18 encK (composeS d (inverseS d).fst).fst.gone.keys]]
  [encL (composeS d (inverseS d).fst).fst.gone] ∧
  ASpec prog 27 [encL (composeS d (inverseS d).fst).fst.gone] (i64 (sizeP (composeS d (inverseS d).fst).fst.gone)))
  (Tree.need
  (ILeL
  [IVal.agg
  [slE 6 encO (composeS d (inverseS d).fst).fst.come.origins, slE 2 encT (composeS d (inverseS d).fst).fst.come.paths, slE 18 encK (composeS d (inverseS d).fst).fst.come.keys]]
  [encL (composeS d (inverseS d).fst).fst.come] ∧
  ASpec prog 27 [encL (composeS d (inverseS d).fst).fst.come] (i64 (sizeP (composeS d (inverseS d).fst).fst.come)))
  (Tree.br (!decide (IntKind.wrap IntKind.i64 (sizeP (composeS d (inverseS d).fst).fst.gone + sizeP (composeS d (inverseS d).fst).fst.come) = (0 : Int)))
  (Tree.done Exit.ret (lret (IVal.v (Value.bool false))))
  (Tree.br (!decide ((applyS p d).snd = (0 : Int))) (Tree.done Exit.ret (lret (IVal.v (Value.bool true))))
  (Tree.need
  (ILeL [encL (applyS p d).fst, encD (inverseS d).fst] [encL (applyS p d).fst, encD (inverseS d).fst] ∧
  ASpec prog 19 [encL (applyS p d).fst, encD (inverseS d).fst] (IVal.tup [encL (applyS (applyS p d).fst (inverseS d).fst).fst, i64 (applyS (applyS p d).fst (inverseS d).fst).snd]))
  (Tree.br true
  (Tree.br (decide ((applyS (applyS p d).fst (inverseS d).fst).snd = (0 : Int)))
  (Tree.need
  (ILeL [encL (applyS (applyS p d).fst (inverseS d).fst).fst, encL p] [encL (applyS (applyS p d).fst (inverseS d).fst).fst, encL p] ∧
  ASpec prog 16 [encL (applyS (applyS p d).fst (inverseS d).fst).fst, encL p] (bo (decide ((applyS (applyS p d).fst (inverseS d).fst).fst = p))))
  (Tree.done Exit.ret (lret (IVal.v (Value.bool (decide ((applyS (applyS p d).fst (inverseS d).fst).fst = p)))))))
  (Tree.done Exit.ret (lret (IVal.v (Value.bool false)))))
  (Tree.done Exit.ret (lret (IVal.v (Value.bool false)))))))))))))))))))))))) := by kernel_rfl
theorem c7 (p : Payload) (d : Diff) (hp : p.paths.length ≤ 2 ^ 63 - 1) (hg : d.gone.paths.length ≤ 2 ^ 63 - 1) (hc : d.come.paths.length ≤ 2 ^ 63 - 1) : ASpec prog 7 [encL p, encD d] (bo true) := by
  have hlaw := back_law p d
  refine ASpec.treeW Proofs.Try.f7 (T7 p d) (by kernel_rfl) (by kernel_rfl) (t7 p d) ?_
  refine need_sat ⟨ILeL.refl _, c17⟩ (need_sat ⟨ILeL.refl _, c8 _ ?_⟩ ⟨fun h1 => ⟨_, rfl, ?_⟩, fun h1 => need_sat ⟨ILeL.refl _, c18 _ ?_ ?_⟩ ⟨fun h2 => ⟨_, rfl, ?_⟩, fun h2 => ⟨fun h => (by cases h), fun _ => need_sat ⟨ILeL.refl _, c19 _ _ ?_ ?_⟩ (need_sat ⟨ILeL.refl _, c25 _ ?_⟩ ⟨fun h3 => ⟨fun _ => ⟨fun h4 => need_sat ⟨ILeL.refl _, c27 _ ?_⟩ (need_sat ⟨ILeL.refl _, c27 _ ?_⟩ ⟨_, rfl, ?_⟩), fun h4 => ⟨_, rfl, ?_⟩⟩, fun h => (by cases h)⟩, fun h3 => need_sat ⟨ILeL.refl _, c25 _ ?_⟩ (need_sat ⟨ILeL.refl _, c20 _ _ ?_ ?_⟩ ⟨fun h4 => ⟨_, rfl, ?_⟩, fun h4 => need_sat ⟨ILeL.refl _, c21 _ _ ?_⟩ ⟨fun h5 => ⟨_, rfl, ?_⟩, fun h5 => ⟨fun h6 => ⟨_, rfl, ?_⟩, fun h6 => need_sat ⟨ILeL.refl _, c27 _ ?_⟩ (need_sat ⟨ILeL.refl _, c27 _ ?_⟩ ⟨fun h7 => ⟨_, rfl, ?_⟩, fun h7 => ⟨fun h8 => ⟨_, rfl, ?_⟩, fun h8 => need_sat ⟨ILeL.refl _, c19 _ _ ?_ ?_⟩ ⟨fun _ => ⟨fun h9 => need_sat ⟨ILeL.refl _, c16 _ _ ?_⟩ ⟨_, rfl, ?_⟩, fun h9 => ⟨_, rfl, ?_⟩⟩, fun h => (by cases h)⟩⟩⟩)⟩⟩⟩)⟩)⟩⟩⟩)
  all_goals try have hds : d.sm := ⟨great_sm (Bool.or_eq_false_iff.1 h2).1, great_sm (Bool.or_eq_false_iff.1 h2).2⟩
  all_goals first
    | exact hp
    | exact hg
    | exact hc
    | exact hds
    | exact great_sm h1
    | exact (great_sm h1).ok
    | exact apply_sm _ _
    | exact (apply_sm _ _).ok
    | exact inverse_sm hds
    | exact inverse_sm (inverse_sm hds)
    | exact (inverse_sm hds).g.ok
    | exact (inverse_sm hds).c.ok
    | exact (compose_sm _ _).g.ok
    | exact (compose_sm _ _).c.ok
    | exact .refl _
    | skip
  all_goals refine ile_bo ?_
  all_goals clear hp hg hc hds
  all_goals (rcases hlaw with ⟨g1, g2, g3⟩ | ⟨g1, g2, g3, g4⟩ <;> simp_all [noD, noP, sizeP, wrap0])
end Gp
namespace Gp
theorem both_law (p : Payload) (d f g : Diff) (h1 : (applyS p d).2 = 0) (h2 : (applyS (applyS p d).1 f).2 = 0) :
    (composeS d f).2 = 0 ∧ applyS p (composeS d f).1 = ((applyS (applyS p d).1 f).1, 0) ∧ ((applyS (applyS (applyS p d).1 f).1 g).2 = 0 →
      (composeS f g).2 = 0 ∧ (composeS (composeS d f).1 g).2 = 0 ∧ (composeS d (composeS f g).1).2 = 0 ∧ (composeS (composeS d f).1 g).1 = (composeS d (composeS f g).1).1 ∧
      applyS p (composeS (composeS d f).1 g).1 = ((applyS (applyS (applyS p d).1 f).1 g).1, 0)) := by
  have a1 := apply_iff.1 (apply_eta _ _ h1)
  have a2 := apply_iff.1 (apply_eta _ _ h2)
  obtain ⟨x, x1, x2⟩ := a1.compose a2
  rw [x1]
  refine ⟨rfl, apply_iff.2 x2, fun h3 => ?_⟩
  have a3 := apply_iff.1 (apply_eta _ _ h3)
  obtain ⟨y, y1, y2⟩ := a2.compose a3
  obtain ⟨l, l1, l2⟩ := x2.compose a3
  obtain ⟨r, r1, r2⟩ := a1.compose y2
  rw [y1, l1, r1]
  exact ⟨rfl, rfl, rfl, l2.same r2, apply_iff.2 l2⟩
def T5 (p : Payload) (d f g : Diff) : Tell :=
  Tell.mk (fun x x_1 => false) (fun x x_1 => Orc.no) (fun x => Tree.fail 1000003 0) (fun x => 0) (fun x => ([], []))
  (oget
  [(5, 1, 0, Orc.call [] (bo true)), (7, 2, 1, Orc.call [encL p] (bo (greatP p))), (7, 2, 4, Orc.call [encD d] (bo (greatP d.gone || greatP d.come))),
  (7, 2, 8, Orc.call [encD f] (bo (greatP f.gone || greatP f.come))), (7, 2, 12, Orc.call [encD g] (bo (greatP g.gone || greatP g.come))),
  (25, 4, 2, Orc.call [encL p, encD d] (IVal.tup [encL (applyS p d).fst, i64 (applyS p d).snd])),
  (34, 5, 2, Orc.call [encL (applyS p d).fst, encD f] (IVal.tup [encL (applyS (applyS p d).fst f).fst, i64 (applyS (applyS p d).fst f).snd])),
  (49, 8, 2, Orc.call [encD d, encD f] (IVal.tup [encD (composeS d f).fst, i64 (composeS d f).snd])),
  (58, 9, 2, Orc.call [encL p, encD (composeS d f).fst] (IVal.tup [encL (applyS p (composeS d f).fst).fst, i64 (applyS p (composeS d f).fst).snd])),
  (67, 10, 9, Orc.call [encL (applyS (applyS p d).fst f).fst, encL (applyS p (composeS d f).fst).fst] (bo (decide ((applyS (applyS p d).fst f).fst = (applyS p (composeS d f).fst).fst)))),
  (79, 12, 2, Orc.call [encL (applyS (applyS p d).fst f).fst, encD g] (IVal.tup [encL (applyS (applyS (applyS p d).fst f).fst g).fst, i64 (applyS (applyS (applyS p d).fst f).fst g).snd])),
  (90, 15, 2, Orc.call [encD f, encD g] (IVal.tup [encD (composeS f g).fst, i64 (composeS f g).snd])),
  (99, 16, 2, Orc.call [encD (composeS d f).fst, encD g] (IVal.tup [encD (composeS (composeS d f).fst g).fst, i64 (composeS (composeS d f).fst g).snd])),
  (108, 17, 2, Orc.call [encD d, encD (composeS f g).fst] (IVal.tup [encD (composeS d (composeS f g).fst).fst, i64 (composeS d (composeS f g).fst).snd])),
  (117, 18, 2, Orc.call [encL p, encD (composeS (composeS d f).fst g).fst] (IVal.tup [encL (applyS p (composeS (composeS d f).fst g).fst).fst, i64 (applyS p (composeS (composeS d f).fst g).fst).snd])),
  (126, 19, 16, Orc.call [encD (composeS (composeS d f).fst g).fst, encD (composeS d (composeS f g).fst).fst] (bo (decide ((composeS (composeS d f).fst g).fst = (composeS d (composeS f g).fst).fst)))),
  (126, 19, 25,
  Orc.call [encL (applyS (applyS (applyS p d).fst f).fst g).fst, encL (applyS p (composeS (composeS d f).fst g).fst).fst]
  (bo (decide ((applyS (applyS (applyS p d).fst f).fst g).fst = (applyS p (composeS (composeS d f).fst g).fst).fst))))])
  fun x x_1 => Tree.fail 1000003 0
theorem t5 (p : Payload) (d f g : Diff) : levF prog Proofs.Try.f5 [encL p, encD d, encD f, encD g] (T5 p d f g) =
  Tree.need (ILeL [] [] ∧ ASpec prog 17 [] (bo true))
  (Tree.need (ILeL [encL p] [encL p] ∧ ASpec prog 8 [encL p] (bo (greatP p)))
  (Tree.br (greatP p) (Tree.done Exit.ret (lret (IVal.v (Value.bool true))))
  (Tree.need (ILeL [encD d] [encD d] ∧ ASpec prog 18 [encD d] (bo (greatP d.gone || greatP d.come)))
  (Tree.br (greatP d.gone || greatP d.come) (Tree.done Exit.ret (lret (IVal.v (Value.bool true))))
  (Tree.need (ILeL [encD f] [encD f] ∧ ASpec prog 18 [encD f] (bo (greatP f.gone || greatP f.come)))
  (Tree.br (greatP f.gone || greatP f.come) (Tree.done Exit.ret (lret (IVal.v (Value.bool true))))
  (Tree.need (ILeL [encD g] [encD g] ∧ ASpec prog 18 [encD g] (bo (greatP g.gone || greatP g.come)))
  (Tree.br (greatP g.gone || greatP g.come) (Tree.done Exit.ret (lret (IVal.v (Value.bool true))))
  (Tree.br false (Tree.done Exit.ret (lret (IVal.v (Value.bool true))))
  (Tree.need (ILeL [encL p, encD d] [encL p, encD d] ∧ ASpec prog 19 [encL p, encD d] (IVal.tup [encL (applyS p d).fst, i64 (applyS p d).snd]))
  (Tree.need
  (ILeL [encL (applyS p d).fst, encD f] [encL (applyS p d).fst, encD f] ∧ ASpec prog 19 [encL (applyS p d).fst, encD f] (IVal.tup [encL (applyS (applyS p d).fst f).fst, i64 (applyS (applyS p d).fst f).snd]))
  (Tree.br (!decide ((applyS p d).snd = (0 : Int))) (Tree.done Exit.ret (lret (IVal.v (Value.bool true))))
  (Tree.br (!decide ((applyS (applyS p d).fst f).snd = (0 : Int))) (Tree.done Exit.ret (lret (IVal.v (Value.bool true))))
  (Tree.need (ILeL [encD d, encD f] [encD d, encD f] ∧ ASpec prog 20 [encD d, encD f] (IVal.tup [encD (composeS d f).fst, i64 (composeS d f).snd]))
  (Tree.need
  (ILeL [encL p, encD (composeS d f).fst] [encL p, encD (composeS d f).fst] ∧
  ASpec prog 19 [encL p, encD (composeS d f).fst] (IVal.tup [encL (applyS p (composeS d f).fst).fst, i64 (applyS p (composeS d f).fst).snd]))
  (Tree.br (!decide ((composeS d f).snd = (0 : Int))) (Tree.done Exit.ret (lret (IVal.v (Value.bool false))))
  (Tree.br (!decide ((applyS p (composeS d f).fst).snd = (0 : Int))) (Tree.done Exit.ret (lret (IVal.v (Value.bool false))))
  (Tree.need
  (ILeL [encL (applyS (applyS p d).fst f).fst, encL (applyS p (composeS d f).fst).fst] [encL (applyS (applyS p d).fst f).fst, encL (applyS p (composeS d f).fst).fst] ∧
  ASpec prog 16 [encL (applyS (applyS p d).fst f).fst, encL (applyS p (composeS d f).fst).fst] (bo (decide ((applyS (applyS p d).fst f).fst = (applyS p (composeS d f).fst).fst))))
  (Tree.br (!decide ((applyS (applyS p d).fst f).fst = (applyS p (composeS d f).fst).fst)) (Tree.done Exit.ret (lret (IVal.v (Value.bool false))))
  (Tree.need
  (ILeL [encL (applyS (applyS p d).fst f).fst, encD g] [encL (applyS (applyS p d).fst f).fst, encD g] ∧
  ASpec prog 19 [encL (applyS (applyS p d).fst f).fst, encD g] (IVal.tup [encL (applyS (applyS (applyS p d).fst f).fst g).fst, i64 (applyS (applyS (applyS p d).fst f).fst g).snd]))
  (Tree.br (!decide ((applyS (applyS (applyS p d).fst f).fst g).snd = (0 : Int))) (Tree.done Exit.ret (lret (IVal.v (Value.bool true))))
  (Tree.need (ILeL [encD f, encD g] [encD f, encD g] ∧ ASpec prog 20 [encD f, encD g] (IVal.tup [encD (composeS f g).fst, i64 (composeS f g).snd]))
  (Tree.need
  (ILeL [encD (composeS d f).fst, encD g] [encD (composeS d f).fst, encD g] ∧
  ASpec prog 20 [encD (composeS d f).fst, encD g] (IVal.tup [encD (composeS (composeS d f).fst g).fst, i64 (composeS (composeS d f).fst g).snd]))
  (Tree.need
  (ILeL [encD d, encD (composeS f g).fst] [encD d, encD (composeS f g).fst] ∧
  ASpec prog 20 [encD d, encD (composeS f g).fst] (IVal.tup [encD (composeS d (composeS f g).fst).fst, i64 (composeS d (composeS f g).fst).snd]))
  (Tree.need
  (ILeL [encL p, encD (composeS (composeS d f).fst g).fst] [encL p, encD (composeS (composeS d f).fst g).fst] ∧
  ASpec prog 19 [encL p, encD (composeS (composeS d f).fst g).fst]
  (IVal.tup [encL (applyS p (composeS (composeS d f).fst g).fst).fst, i64 (applyS p (composeS (composeS d f).fst g).fst).snd]))
  (Tree.br true
  (Tree.br (decide ((composeS f g).snd = (0 : Int)))
  (Tree.br (decide ((composeS (composeS d f).fst g).snd = (0 : Int)))
  (Tree.br (decide ((composeS d (composeS f g).fst).snd = (0 : Int)))
  (Tree.need
  (ILeL [encD (composeS (composeS d f).fst g).fst, encD (composeS d (composeS f g).fst).fst] [encD (composeS (composeS d f).fst g).fst, encD (composeS d (composeS f g).fst).fst] ∧
  ASpec prog 21 [encD (composeS (composeS d f).fst g).fst, encD (composeS d (composeS f g).fst).fst]
  (bo (decide ((composeS (composeS d f).fst g).fst = (composeS d (composeS f g).fst).fst))))
  (Tree.br (decide ((composeS (composeS d f).fst g).fst = (composeS d (composeS f g).fst).fst))
  (Tree.br (decide ((applyS p (composeS (composeS d f).fst g).fst).snd = (0 : Int)))
  (Tree.need
  (ILeL [encL (applyS (applyS (applyS p d).fst f).fst g).fst, encL (applyS p (composeS (composeS d f).fst g).fst).fst]
  [encL (applyS (applyS (applyS p d).fst f).fst g).fst, encL (applyS p (composeS (composeS d f).fst g).fst).fst] ∧
  ASpec prog 16 [encL (applyS (applyS (applyS p d).fst f).fst g).fst, encL (applyS p (composeS (composeS d f).fst g).fst).fst]
  (bo (decide ((applyS (applyS (applyS p d).fst f).fst g).fst = (applyS p (composeS (composeS d f).fst g).fst).fst))))
  (Tree.done Exit.ret (lret (IVal.v (Value.bool (decide ((applyS (applyS (applyS p d).fst f).fst g).fst = (applyS p (composeS (composeS d f).fst g).fst).fst)))))))
  (Tree.done Exit.ret (lret (IVal.v (Value.bool false)))))
  (Tree.done Exit.ret (lret (IVal.v (Value.bool false))))))
  (Tree.done Exit.ret (lret (IVal.v (Value.bool false)))))
  (Tree.done Exit.ret (lret (IVal.v (Value.bool false)))))
  (Tree.done Exit.ret (lret (IVal.v (Value.bool false)))))
  (Tree.done Exit.ret (lret (IVal.v (Value.bool false)))))))))))))))))))))))))))))) := by kernel_rfl
theorem c5 (p : Payload) (d f g : Diff) (hp : p.paths.length ≤ 2 ^ 63 - 1) (hd : d.gone.paths.length ≤ 2 ^ 63 - 1 ∧ d.come.paths.length ≤ 2 ^ 63 - 1) (hf : f.gone.paths.length ≤ 2 ^ 63 - 1 ∧ f.come.paths.length ≤ 2 ^ 63 - 1) (hg : g.gone.paths.length ≤ 2 ^ 63 - 1 ∧ g.come.paths.length ≤ 2 ^ 63 - 1) : ASpec prog 5 [encL p, encD d, encD f, encD g] (bo true) := by
  have hlaw := both_law p d f g
  refine ASpec.treeW Proofs.Try.f5 (T5 p d f g) (by kernel_rfl) (by kernel_rfl) (t5 p d f g) ?_
  refine need_sat ⟨ILeL.refl _, c17⟩ (need_sat ⟨ILeL.refl _, c8 _ ?_⟩ ⟨fun h1 => ⟨_, rfl, ?_⟩, fun h1 => need_sat ⟨ILeL.refl _, c18 _ ?_ ?_⟩ ⟨fun h2 => ⟨_, rfl, ?_⟩, fun h2 => need_sat ⟨ILeL.refl _, c18 _ ?_ ?_⟩ ⟨fun h3 => ⟨_, rfl, ?_⟩, fun h3 => need_sat ⟨ILeL.refl _, c18 _ ?_ ?_⟩ ⟨fun h4 => ⟨_, rfl, ?_⟩, fun h4 => ⟨fun h => (by cases h), fun _ => need_sat ⟨ILeL.refl _, c19 _ _ ?_ ?_⟩ (need_sat ⟨ILeL.refl _, c19 _ _ ?_ ?_⟩ ⟨fun h5 => ⟨_, rfl, ?_⟩, fun h5 => ⟨fun h6 => ⟨_, rfl, ?_⟩, fun h6 => need_sat ⟨ILeL.refl _, c20 _ _ ?_ ?_⟩ (need_sat ⟨ILeL.refl _, c19 _ _ ?_ ?_⟩ ⟨fun h7 => ⟨_, rfl, ?_⟩, fun h7 => ⟨fun h8 => ⟨_, rfl, ?_⟩, fun h8 => need_sat ⟨ILeL.refl _, c16 _ _ ?_⟩ ⟨fun h9 => ⟨_, rfl, ?_⟩, fun h9 => need_sat ⟨ILeL.refl _, c19 _ _ ?_ ?_⟩ ⟨fun h10 => ⟨_, rfl, ?_⟩, fun h10 => need_sat ⟨ILeL.refl _, c20 _ _ ?_ ?_⟩ (need_sat ⟨ILeL.refl _, c20 _ _ ?_ ?_⟩ (need_sat ⟨ILeL.refl _, c20 _ _ ?_ ?_⟩ (need_sat ⟨ILeL.refl _, c19 _ _ ?_ ?_⟩ ⟨fun _ => ⟨fun h11 => ⟨fun h12 => ⟨fun h13 => need_sat ⟨ILeL.refl _, c21 _ _ ?_⟩ ⟨fun h14 => ⟨fun h15 => need_sat ⟨ILeL.refl _, c16 _ _ ?_⟩ ⟨_, rfl, ?_⟩, fun h15 => ⟨_, rfl, ?_⟩⟩, fun h14 => ⟨_, rfl, ?_⟩⟩, fun h13 => ⟨_, rfl, ?_⟩⟩, fun h12 => ⟨_, rfl, ?_⟩⟩, fun h11 => ⟨_, rfl, ?_⟩⟩, fun h => (by cases h)⟩)))⟩⟩⟩⟩)⟩⟩)⟩⟩⟩⟩⟩)
  all_goals first
    | exact hp
    | exact hd.1
    | exact hd.2
    | exact hf.1
    | exact hf.2
    | exact hg.1
    | exact hg.2
    | exact apply_sm _ _
    | exact (apply_sm _ _).ok
    | exact compose_sm _ _
    | exact .refl _
    | exact great_sm h1
    | exact ⟨great_sm (Bool.or_eq_false_iff.1 h2).1, great_sm (Bool.or_eq_false_iff.1 h2).2⟩
    | exact ⟨great_sm (Bool.or_eq_false_iff.1 h3).1, great_sm (Bool.or_eq_false_iff.1 h3).2⟩
    | exact ⟨great_sm (Bool.or_eq_false_iff.1 h4).1, great_sm (Bool.or_eq_false_iff.1 h4).2⟩
    | skip
  all_goals refine ile_bo ?_
  all_goals clear hp hd hf hg
  all_goals simp_all
  all_goals
    obtain ⟨_, _, _, _, _, e1, e2⟩ := hlaw
    rw [e1] at e2
    first
      | (rw [e2]; done)
      | exact absurd (by rw [e2]) h15
end Gp
namespace Gp
/-! ### What came in -/
section
variable {H : Type} {enc : TypeId × Value → H} {w : World} {base : Nat} {spare : Nat → Bool} {held : Bool}
theorem wf_in {k : IntKind} {n : Int} (h : (Lit.int k n).wf = true) : k.min ≤ n ∧ n ≤ k.max := by simpa [Lit.wf] using h
theorem iv {k : IntKind} {n : Int} : IRep w (allF w) (.v (.int k n)) (.int k n) := by rw [IRep]; exact ⟨rfl, rfl⟩
theorem ib {b : Bool} : IRep w (allF w) (bo b) (.bool b) := by rw [bo, IRep]; exact ⟨rfl, rfl⟩
theorem ic {d : IVal} {ds : List IVal} {u : Value} {us : List Value} (h : IRep w (allF w) d u) (h' : IRepL w (allF w) ds us) : IRepL w (allF w) (d :: ds) (u :: us) := by rw [IRepL]; exact ⟨u, us, rfl, h, h'⟩
theorem in0 : IRepL w (allF w) [] [] := by rw [IRepL]
theorem ia {ds : List IVal} {us : List Value} (h : IRepL w (allF w) ds us) (ho : ds.all ione = true) : IRep w (allF w) (.agg ds) (.agg us.toArray) := by rw [IRep]; exact ⟨us.toArray, rfl, by simpa using h, ho⟩
end
end Gp
namespace Gp
/-! ### Payloads that came in -/
section
variable {H : Type} {enc : TypeId × Value → H} {w : World} {base : Nat} {spare : Nat → Bool} {held : Bool}
theorem wf_u8 {n : Int} (h : (Lit.int .u8 n).wf = true) : byteI n := by have := wf_in h; simp [IntKind.min, IntKind.max, IntKind.bits, IntKind.signed] at this; exact this
theorem wf_u32 {n : Int} (h : (Lit.int .u32 n).wf = true) : 0 ≤ n := by have := wf_in h; simp [IntKind.min, IntKind.max, IntKind.bits, IntKind.signed] at this; omega
theorem wf_u64 {n : Int} (h : (Lit.int .u64 n).wf = true) : 0 ≤ n ∧ n < 2 ^ 64 := by have := wf_in h; simp [IntKind.min, IntKind.max, IntKind.bits, IntKind.signed] at this; omega
theorem fl27 : flatT prog 5 27 = some [.int .u32] := by kernel_rfl
theorem fl47 : flatT prog 5 47 = some [.int .u32, .sl 45] := by kernel_rfl
theorem fl44 : flatT prog 5 44 = some [.int .u32, .int .u8, .int .u64, .int .u64, .int .i64, .int .i64] := by kernel_rfl
theorem fl53 : flatT prog 5 53 = some [.int .u32, .int .u8, .int .u8, .int .u8, .int .u8, .int .u8, .int .u8, .int .u8, .int .u8, .int .u8, .int .u8, .int .u8, .int .u8, .int .u8, .int .u8, .int .u8, .int .u8, .int .i64] := by kernel_rfl
theorem un45 : prog.underlying 45 = some (.slice 27) := by kernel_rfl
theorem un22 : prog.underlying 22 = some (.slice 44) := by kernel_rfl
theorem un23 : prog.underlying 23 = some (.slice 47) := by kernel_rfl
theorem un24 : prog.underlying 24 = some (.slice 53) := by kernel_rfl
theorem rd27 {fuel : Nat} {cs : List Value} {x : DataW H × List MemPlace} (_ : cs.length = 1) (h : DataW.trod enc prog w base spare held fuel 27 cs = some x) : ∃ (n : Int) (v : Value), v.cells.toList = cs ∧ IRep w (allF w) (u32 n) v ∧ 0 ≤ n := by
  obtain ⟨_, _, rfl, ⟨n, rfl, w1⟩, rfl⟩ := flat_read 5 27 _ fuel cs x fl27 h
  refine ⟨n, .int .u32 n, rfl, ?_, wf_u32 w1⟩
  rw [u32, IRep]; exact ⟨rfl, rfl⟩
theorem rd45 {fuel : Nat} {v : Value} {x : DataW H × List MemPlace} (h : DataW.trod enc prog w base spare held fuel 45 [v] = some x) : ∃ l : List Int, IRep w (allF w) (lu32 l) v ∧ (∀ n ∈ l, 0 ≤ n) ∧ l.length ≤ maxLen :=
  slice_read u32 (fun n => 0 ≤ n) un45 (by kernel_rfl) (by decide) (fun _ _ _ => rd27) h
theorem rd47 {fuel : Nat} {cs : List Value} {x : DataW H × List MemPlace} (_ : cs.length = 2) (h : DataW.trod enc prog w base spare held fuel 47 cs = some x) : ∃ (a : Attest) (v : Value), v.cells.toList = cs ∧ IRep w (allF w) (encT a) v ∧ a.rng := by
  obtain ⟨_, _, rfl, ⟨n, rfl, w1⟩, v2, _, rfl, ⟨f2, x2, h2⟩, rfl⟩ := flat_read 5 47 _ fuel cs x fl47 h
  obtain ⟨l, g1, g2, _⟩ := rd45 h2
  exact ⟨⟨n, l⟩, .agg [.int .u32 n, v2].toArray, rfl, ia (ic iv (ic g1 in0)) rfl, wf_u32 w1, g2⟩
theorem rd44 {fuel : Nat} {cs : List Value} {x : DataW H × List MemPlace} (_ : cs.length = 6) (h : DataW.trod enc prog w base spare held fuel 44 cs = some x) : ∃ (o : Origin) (v : Value), v.cells.toList = cs ∧ IRep w (allF w) (encO o) v ∧ o.pfx.addr.rng := by
  obtain ⟨_, _, rfl, ⟨n1, rfl, w1⟩, _, _, rfl, ⟨n2, rfl, w2⟩, _, _, rfl, ⟨n3, rfl, w3⟩, _, _, rfl, ⟨n4, rfl, w4⟩, _, _, rfl, ⟨n5, rfl, w5⟩, _, _, rfl, ⟨n6, rfl, w6⟩, rfl⟩ := flat_read 5 44 _ fuel cs x fl44 h
  exact ⟨⟨n1, ⟨n2, ⟨n3, n4⟩, n5⟩, n6⟩, .agg [.int .u32 n1, .int .u8 n2, .int .u64 n3, .int .u64 n4, .int .i64 n5, .int .i64 n6].toArray, rfl, ia (ic iv (ic iv (ic iv (ic iv (ic iv (ic iv in0)))))) rfl, wf_u64 w3, wf_u64 w4⟩
theorem rd53 {fuel : Nat} {cs : List Value} {x : DataW H × List MemPlace} (_ : cs.length = 18) (h : DataW.trod enc prog w base spare held fuel 53 cs = some x) : ∃ (k : RKey) (v : Value), v.cells.toList = cs ∧ IRep w (allF w) (encK k) v ∧ k.rng := by
  obtain ⟨_, _, rfl, ⟨n, rfl, _⟩, _, _, rfl, ⟨b0, rfl, w0⟩, _, _, rfl, ⟨b1, rfl, w1⟩, _, _, rfl, ⟨b2, rfl, w2⟩, _, _, rfl, ⟨b3, rfl, w3⟩, _, _, rfl, ⟨b4, rfl, w4⟩, _, _, rfl, ⟨b5, rfl, w5⟩, _, _, rfl, ⟨b6, rfl, w6⟩, _, _, rfl, ⟨b7, rfl, w7⟩,
    _, _, rfl, ⟨b8, rfl, w8⟩, _, _, rfl, ⟨b9, rfl, w9⟩, _, _, rfl, ⟨b10, rfl, w10⟩, _, _, rfl, ⟨b11, rfl, w11⟩, _, _, rfl, ⟨b12, rfl, w12⟩, _, _, rfl, ⟨b13, rfl, w13⟩, _, _, rfl, ⟨b14, rfl, w14⟩, _, _, rfl, ⟨b15, rfl, w15⟩, _, _, rfl, ⟨hh, rfl, _⟩, rfl⟩ := flat_read 5 53 _ fuel cs x fl53 h
  refine ⟨⟨n, #v[b0, b1, b2, b3, b4, b5, b6, b7, b8, b9, b10, b11, b12, b13, b14, b15], hh⟩, .agg [.int .u32 n, .int .u8 b0, .int .u8 b1, .int .u8 b2, .int .u8 b3, .int .u8 b4, .int .u8 b5, .int .u8 b6, .int .u8 b7, .int .u8 b8, .int .u8 b9, .int .u8 b10, .int .u8 b11, .int .u8 b12, .int .u8 b13, .int .u8 b14, .int .u8 b15, .int .i64 hh].toArray, rfl,
    ia (ic iv (ic iv (ic iv (ic iv (ic iv (ic iv (ic iv (ic iv (ic iv (ic iv (ic iv (ic iv (ic iv (ic iv (ic iv (ic iv (ic iv (ic iv in0)))))))))))))))))) rfl, ?_⟩
  intro z hz
  have hz : z ∈ [b0, b1, b2, b3, b4, b5, b6, b7, b8, b9, b10, b11, b12, b13, b14, b15] := hz
  simp only [List.mem_cons, List.not_mem_nil, or_false] at hz
  rcases hz with rfl | rfl | rfl | rfl | rfl | rfl | rfl | rfl | rfl | rfl | rfl | rfl | rfl | rfl | rfl | rfl
  all_goals (apply wf_u8; assumption)
theorem rdP {f1 f2 f3 : Nat} {v1 v2 v3 : Value} {x1 x2 x3 : DataW H × List MemPlace} (h1 : DataW.trod enc prog w base spare held f1 22 [v1] = some x1) (h2 : DataW.trod enc prog w base spare held f2 23 [v2] = some x2) (h3 : DataW.trod enc prog w base spare held f3 24 [v3] = some x3) :
    ∃ p : Payload, IRep w (allF w) (slE 6 encO p.origins) v1 ∧ IRep w (allF w) (slE 2 encT p.paths) v2 ∧ IRep w (allF w) (slE 18 encK p.keys) v3 ∧ p.rng ∧ p.paths.length ≤ maxLen := by
  obtain ⟨l1, a1, b1, _⟩ := slice_read encO (fun o => o.pfx.addr.rng) un22 (by kernel_rfl) (by decide) (fun _ _ _ => rd44) h1
  obtain ⟨l2, a2, b2, c2⟩ := slice_read encT Attest.rng un23 (by kernel_rfl) (by decide) (fun _ _ _ => rd47) h2
  obtain ⟨l3, a3, b3, _⟩ := slice_read encK RKey.rng un24 (by kernel_rfl) (by decide) (fun _ _ _ => rd53) h3
  exact ⟨⟨l1, l2, l3⟩, a1, a2, a3, ⟨b1, b2, b3⟩, c2⟩
theorem fl26 : flatT prog 5 26 = some [.sl 22, .sl 23, .sl 24] := by kernel_rfl
theorem fl58 : flatT prog 5 58 = some [.sl 22, .sl 23, .sl 24, .sl 22, .sl 23, .sl 24] := by kernel_rfl
theorem rd26 {fuel : Nat} {vs : Array Value} {x : DataW H × List MemPlace} (h : DataW.trod enc prog w base spare held fuel 26 (Value.agg vs).cells.toList = some x) : ∃ p : Payload, IRep w (allF w) (encL p) (.agg vs) ∧ p.rng ∧ p.paths.length ≤ maxLen := by
  obtain ⟨v1, _, e1, ⟨f1, x1, h1⟩, v2, _, rfl, ⟨f2, x2, h2⟩, v3, _, rfl, ⟨f3, x3, h3⟩, rfl⟩ := flat_read 5 26 _ fuel _ x fl26 h
  obtain ⟨p, p1, p2, p3, p4, p5⟩ := rdP h1 h2 h3
  have e2 : vs = [v1, v2, v3].toArray := by rw [← Array.toList_inj]; exact e1
  rw [e2]
  exact ⟨p, ia (ic p1 (ic p2 (ic p3 in0))) rfl, p4, p5⟩
structure Diff.rng (d : Diff) : Prop where
  g : d.gone.rng
  c : d.come.rng
theorem rd58 {fuel : Nat} {vs : Array Value} {x : DataW H × List MemPlace} (h : DataW.trod enc prog w base spare held fuel 58 (Value.agg vs).cells.toList = some x) : ∃ d : Diff, IRep w (allF w) (encD d) (.agg vs) ∧ d.rng ∧ d.gone.paths.length ≤ maxLen ∧ d.come.paths.length ≤ maxLen := by
  obtain ⟨v1, _, e1, ⟨f1, x1, h1⟩, v2, _, rfl, ⟨f2, x2, h2⟩, v3, _, rfl, ⟨f3, x3, h3⟩, v4, _, rfl, ⟨f4, x4, h4⟩, v5, _, rfl, ⟨f5, x5, h5⟩, v6, _, rfl, ⟨f6, x6, h6⟩, rfl⟩ := flat_read 5 58 _ fuel _ x fl58 h
  obtain ⟨p, p1, p2, p3, p4, p5⟩ := rdP h1 h2 h3
  obtain ⟨q, q1, q2, q3, q4, q5⟩ := rdP h4 h5 h6
  have e2 : vs = [v1, v2, v3, v4, v5, v6].toArray := by rw [← Array.toList_inj]; exact e1
  rw [e2]
  exact ⟨⟨p, q⟩, ia (ic p1 (ic p2 (ic p3 (ic q1 (ic q2 (ic q3 in0)))))) rfl, ⟨p4, q4⟩, p5, q5⟩
end
end Gp
namespace Gp
open Go.ChangeShapes Go.WideShapes Go.ChangeAt Go.RowKit
open Go.Proofs Go.Proofs.Ytcccdohpepnfjaa
theorem own : ownKnob prog.godebug = none := by kernel_rfl
theorem laidOut : laidOutB prog = true := by kernel_rfl
def isStruct : Option TypeDesc → Bool
  | some (.struct _) => true
  | _ => false
theorem isStruct_spec {x : Option TypeDesc} (h : isStruct x = true) : ∃ fs, x = some (.struct fs) := by
  unfold isStruct at h; split at h
  · exact ⟨_, rfl⟩
  · cases h
theorem us26 : ∃ fs, prog.underlying 26 = some (.struct fs) := isStruct_spec (by kernel_rfl)
theorem us58 : ∃ fs, prog.underlying 58 = some (.struct fs) := isStruct_spec (by kernel_rfl)
theorem ubool : prog.underlying 4 = some .bool := by kernel_rfl
theorem paramsL : Proofs.Try.f5.params.toList = [26, 58, 58, 58] := by kernel_rfl
set_option maxRecDepth 100000 in
theorem walk (W : World) {H : Type} {enc : TypeId × Value → H} {f0 f1 f2 f3 : Nat} {v0 v1 v2 v3 : Array Value} {x0 x1 x2 x3 : DataW H × List MemPlace} {held : Bool} {sp : Nat → Bool} (h0 : DataW.trod enc prog W 0 sp held f0 26 (Value.agg v0).cells.toList = some x0) (h1 : DataW.trod enc prog W 0 sp held f1 58 (Value.agg v1).cells.toList = some x1) (h2 : DataW.trod enc prog W 0 sp held f2 58 (Value.agg v2).cells.toList = some x2) (h3 : DataW.trod enc prog W 0 sp held f3 58 (Value.agg v3).cells.toList = some x3) :
    Calls prog 5 #[.agg v0, .agg v1, .agg v2, .agg v3] W fun e W' => e = .returned (.bool true) ∧ Below W.heap.size W W' := by
  obtain ⟨y0, r0, g0⟩ := rd26 h0
  obtain ⟨y1, r1, g1⟩ := rd58 h1
  obtain ⟨y2, r2, g2⟩ := rd58 h2
  obtain ⟨y3, r3, g3⟩ := rd58 h3
  have hm : maxLen = 2 ^ 63 - 1 := rfl
  refine ((c5 y0 y1 y2 y3 (hm ▸ g0.2) (hm ▸ g1.2) (hm ▸ g2.2) (hm ▸ g3.2)).2 W (allF W) #[.agg v0, .agg v1, .agg v2, .agg v3] (fun c b h => h.2) (fun b h => by cases h.1) (ic r0 (ic r1 (ic r2 (ic r3 in0))))).mono ?_
  rintro e W' ⟨v, F', rfl, hb, _, _, _, _, hv⟩
  rw [bo, IRep] at hv
  rw [hv.1]
  exact ⟨rfl, hb⟩
set_option maxRecDepth 100000 in
theorem lifted (os : Os) (started : os.Started) (H : Type) (enc : TypeId × Value → H) :
    ReturnsInHanded {} Proofs.Try.checked os 5 .any (Rows.diffBothSpec.pre6 enc prog Proofs.Try.f5 Rows.diffBothRow.domain false) (Rows.diffBothSpec.post enc prog Proofs.Try.f5 false true false false) := by
  refine returnsInHanded_of_change (C := Proofs.Try.checked) own started (by kernel_rfl) (show prog.funcs[5]? = some Proofs.Try.f5 by kernel_rfl)
    (ChangeSpec.witness6 (enc := enc) (C := Proofs.Try.checked) false ⟨#[], #[.agg #[.slice none 0 0, .slice none 0 0, .slice none 0 0], .agg #[.slice none 0 0, .slice none 0 0, .slice none 0 0, .slice none 0 0, .slice none 0 0, .slice none 0 0], .agg #[.slice none 0 0, .slice none 0 0, .slice none 0 0, .slice none 0 0, .slice none 0 0, .slice none 0 0], .agg #[.slice none 0 0, .slice none 0 0, .slice none 0 0, .slice none 0 0, .slice none 0 0, .slice none 0 0]], []⟩ 8 (by kernel_rfl) (by kernel_rfl) (by kernel_rfl) (by kernel_rfl)) ?_
  intro W base args ds gs before hval0 hW hcnd _
  have hval : ∀ (j : Nat) t v, Proofs.Try.f5.params[j]? = some t → args[j]? = some v → Value.okWide prog W .any base t v := hval0
  have hW' := hW
  obtain ⟨p, q, hA0, hV, rfl, hfz, hnd⟩ := hW
  have hA : DataW.TrodAll enc prog W 0 (fun _ => true) true Proofs.Try.f5.params.toList args.toList ds p := hA0
  rw [paramsL] at hA
  have hp0 : Proofs.Try.f5.params[0]? = some 26 := by kernel_rfl
  have hp1 : Proofs.Try.f5.params[1]? = some 58 := by kernel_rfl
  have hp2 : Proofs.Try.f5.params[2]? = some 58 := by kernel_rfl
  have hp3 : Proofs.Try.f5.params[3]? = some 58 := by kernel_rfl
  obtain ⟨u0, us0, d0, ds0, p0, q0, hargs, rfl, rfl, h0, r0⟩ := trodAll_cons hA
  obtain ⟨u1, us1, d1, ds1, p1, q1, rfl, rfl, rfl, h1, r1⟩ := trodAll_cons r0
  obtain ⟨u2, us2, d2, ds2, p2, q2, rfl, rfl, rfl, h2, r2⟩ := trodAll_cons r1
  obtain ⟨u3, us3, d3, ds3, p3, q3, rfl, rfl, rfl, h3, r3⟩ := trodAll_cons r2
  obtain ⟨rfl, rfl, rfl⟩ := trodAll_nil r3
  obtain rfl : args = #[u0, u1, u2, u3] := by cases args; simp_all
  obtain ⟨rfl, rfl⟩ := trodVars_none hV
  obtain ⟨fs0, uu0⟩ := us26
  obtain ⟨a0, rfl, _⟩ := okWide_struct uu0 (hval 0 26 u0 hp0 rfl)
  have k0 := h0
  have lt0 : ∀ x ∈ p0, x.block < W.heap.size := by obtain ⟨m, hm⟩ := k0; exact DataW.trod_lt m _ _ _ hm
  obtain ⟨fs1, uu1⟩ := us58
  obtain ⟨a1, rfl, _⟩ := okWide_struct uu1 (hval 1 58 u1 hp1 rfl)
  have k1 := h1
  have lt1 : ∀ x ∈ p1, x.block < W.heap.size := by obtain ⟨m, hm⟩ := k1; exact DataW.trod_lt m _ _ _ hm
  obtain ⟨fs2, uu2⟩ := us58
  obtain ⟨a2, rfl, _⟩ := okWide_struct uu2 (hval 2 58 u2 hp2 rfl)
  have k2 := h2
  have lt2 : ∀ x ∈ p2, x.block < W.heap.size := by obtain ⟨m, hm⟩ := k2; exact DataW.trod_lt m _ _ _ hm
  obtain ⟨fs3, uu3⟩ := us58
  obtain ⟨a3, rfl, _⟩ := okWide_struct uu3 (hval 3 58 u3 hp3 rfl)
  have k3 := h3
  have lt3 : ∀ x ∈ p3, x.block < W.heap.size := by obtain ⟨m, hm⟩ := k3; exact DataW.trod_lt m _ _ _ hm
  obtain ⟨ff0, e0⟩ := h0
  obtain ⟨ff1, e1⟩ := h1
  obtain ⟨ff2, e2⟩ := h2
  obtain ⟨ff3, e3⟩ := h3
  clear hA0 hval0
  refine (walk W e0 e1 e2 e3).mono fun e W' ⟨he, bel⟩ => ?_
  subst he
  exact ⟨_, rfl, _, _, _, [], _, [], hW', trodAll_mk1 (shut_bool ubool _),
    (trodAll_cons_mk (Below.trod laidOut (by kernel_rfl) (of_decide_eq_true (by kernel_rfl)) k0 bel lt0) (trodAll_cons_mk (Below.trod laidOut (by kernel_rfl) (of_decide_eq_true (by kernel_rfl)) k1 bel lt1) (trodAll_cons_mk (Below.trod laidOut (by kernel_rfl) (of_decide_eq_true (by kernel_rfl)) k2 bel lt2) (trodAll_cons_mk (Below.trod laidOut (by kernel_rfl) (of_decide_eq_true (by kernel_rfl)) k3 bel lt3) trodAll_mk0)))), rfl, bel.frame _, fun h => by cases h⟩
theorem over : Rows.diffBothRow.holds Ytcccdohpepnfjaa.Try.pinned (OpenSpec.ofChange Rows.diffBothSpec) :=
  OpenClaim.holds_of_wide 5 Proofs.Try.f5 rfl rfl rfl rfl rfl rfl rfl ⟨rfl, rfl, rfl, rfl, rfl⟩ rfl rfl rfl rfl rfl (by kernel_rfl) (show prog.funcs[5]? = some Proofs.Try.f5 by kernel_rfl) (by kernel_rfl)
    (of_decide_eq_true (by kernel_rfl)) (by unfold Func.isWrapper; first | (rw [if_pos (by decide +kernel)]; kernel_rfl) | (rw [if_neg (by decide +kernel)]; exact ⟨rfl, rfl⟩))
    (fun os started H enc _ => lifted os started H enc)
theorem proved : Rows.DiffBothSaid := over
end Gp
namespace Go.Proofs.Ytcccdohpepnfjaa
theorem diffBoth_holds : Rows.DiffBothSaid := Gp.proved
#print axioms diffBoth_holds
end Go.Proofs.Ytcccdohpepnfjaa
