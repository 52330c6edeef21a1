/- Part 5 of the walk and of the plain law of ClientTicks. -/
import Derived.Test.YtdbdfblneaokjaaW4

set_option maxRecDepth 100000
set_option maxHeartbeats 0
set_option linter.unusedVariables false
set_option linter.unusedSimpArgs false
open Go Go.Abs
namespace Gp
def T15 (r : Router) : Tell :=
  Tell.mk (fun x x_1 => false) (fun x x_1 => Orc.no) (fun x => Tree.fail (1000003 : Nat) (0 : Nat)) (fun x => (0 : Nat)) (fun x => ([], []))
  (oget
  [((2 : Nat), (1 : Nat), (4 : Nat), Orc.call [u8 r.version, encM r.timers] (IVal.tup [encR (newR r.version r.timers), i64 (newE r.version r.timers)])),
  ((13 : Nat), (2 : Nat), (5 : Nat), Orc.call [i64 r.good, i64 (0 : Int), i64 (1099511627776 : Int)] (bo (decide ((0 : Int) ≤ r.good) && decide (r.good ≤ (1099511627776 : Int))))),
  ((13 : Nat), (2 : Nat), (11 : Nat), Orc.call [i64 r.next, i64 (0 : Int), i64 (1099512676352 : Int)] (bo (decide ((0 : Int) ≤ r.next) && decide (r.next ≤ (1099512676352 : Int))))),
  ((13 : Nat), (2 : Nat), (19 : Nat), Orc.call [encL r.data, u8 r.version] (bo (holdsP r.data r.version))), ((35 : Nat), (4 : Nat), (6 : Nat), Orc.call [encL r.data] (i64 (sizeP r.data))),
  ((59 : Nat), (6 : Nat), (6 : Nat), Orc.call [encL r.build] (i64 (sizeP r.build))), ((78 : Nat), (14 : Nat), (4 : Nat), Orc.call [encL r.build, u8 r.version] (bo (holdsP r.build r.version)))])
  fun x x_1 => Tree.fail (1000003 : Nat) (0 : Nat)
theorem t15 (r : Router) : levF prog Proofs.Try.f15 [encR r] (T15 r) =
  Tree.need
  (ILeL [u8 r.version, IVal.agg [u32 r.timers.refresh, u32 r.timers.retry, u32 r.timers.expire]] [u8 r.version, encM r.timers] ∧
  ASpec prog (6 : Nat) [u8 r.version, encM r.timers] (IVal.tup [encR (newR r.version r.timers), i64 (newE r.version r.timers)]))
  (Tree.br (!decide (newE r.version r.timers = (0 : Int))) (Tree.done Exit.ret (lret (IVal.v (Value.int IntKind.i64 (8 : Int)))))
  (Tree.need
  (ILeL [i64 r.good, IVal.v (Value.int IntKind.i64 (0 : Int)), IVal.v (Value.int IntKind.i64 (1099511627776 : Int))] [i64 r.good, i64 (0 : Int), i64 (1099511627776 : Int)] ∧
  ASpec prog (30 : Nat) [i64 r.good, i64 (0 : Int), i64 (1099511627776 : Int)] (bo (decide ((0 : Int) ≤ r.good) && decide (r.good ≤ (1099511627776 : Int)))))
  (Tree.br (!(decide ((0 : Int) ≤ r.good) && decide (r.good ≤ (1099511627776 : Int)))) (Tree.done Exit.ret (lret (IVal.v (Value.int IntKind.i64 (8 : Int)))))
  (Tree.need
  (ILeL [i64 r.next, IVal.v (Value.int IntKind.i64 (0 : Int)), IVal.v (Value.int IntKind.i64 (1099512676352 : Int))] [i64 r.next, i64 (0 : Int), i64 (1099512676352 : Int)] ∧
  ASpec prog (30 : Nat) [i64 r.next, i64 (0 : Int), i64 (1099512676352 : Int)] (bo (decide ((0 : Int) ≤ r.next) && decide (r.next ≤ (1099512676352 : Int)))))
  (Tree.br (!(decide ((0 : Int) ≤ r.next) && decide (r.next ≤ (1099512676352 : Int)))) (Tree.done Exit.ret (lret (IVal.v (Value.int IntKind.i64 (8 : Int)))))
  (Tree.need
  (ILeL [IVal.agg [slE (6 : Nat) encO r.data.origins, slE (2 : Nat) encT r.data.paths, slE (18 : Nat) encK r.data.keys], u8 r.version] [encL r.data, u8 r.version] ∧
  ASpec prog (31 : Nat) [encL r.data, u8 r.version] (bo (holdsP r.data r.version)))
  (Tree.br (!holdsP r.data r.version) (Tree.done Exit.ret (lret (IVal.v (Value.int IntKind.i64 (8 : Int)))))
  (Tree.br (!r.has)
  (Tree.need (ILeL [IVal.agg [slE (6 : Nat) encO r.data.origins, slE (2 : Nat) encT r.data.paths, slE (18 : Nat) encK r.data.keys]] [encL r.data] ∧ ASpec prog (32 : Nat) [encL r.data] (i64 (sizeP r.data)))
  (Tree.br (decide ((0 : Int) < sizeP r.data)) (Tree.done Exit.ret (lret (IVal.v (Value.int IntKind.i64 (8 : Int)))))
  (Tree.br (!decide (r.session = (0 : Int))) (Tree.done Exit.ret (lret (IVal.v (Value.int IntKind.i64 (8 : Int)))))
  (Tree.br (!decide (r.serial = (0 : Int))) (Tree.done Exit.ret (lret (IVal.v (Value.int IntKind.i64 (8 : Int)))))
  (Tree.br (!decide (r.good = (0 : Int))) (Tree.done Exit.ret (lret (IVal.v (Value.int IntKind.i64 (8 : Int)))))
  (Tree.br (decide (r.heard = (0 : Int)))
  (Tree.need (ILeL [IVal.agg [slE (6 : Nat) encO r.build.origins, slE (2 : Nat) encT r.build.paths, slE (18 : Nat) encK r.build.keys]] [encL r.build] ∧ ASpec prog (32 : Nat) [encL r.build] (i64 (sizeP r.build)))
  (Tree.br (decide (r.state = (0 : Int)))
  (Tree.br (decide (sizeP r.build = (0 : Int)))
  (Tree.br (!!r.full) (Tree.done Exit.ret (lret (IVal.v (Value.int IntKind.i64 (8 : Int))))) (Tree.done Exit.ret (lret (IVal.v (Value.int IntKind.i64 (0 : Int))))))
  (Tree.done Exit.ret (lret (IVal.v (Value.int IntKind.i64 (8 : Int))))))
  (Tree.br (decide (r.state = (1 : Int)))
  (Tree.br (decide (sizeP r.build = (0 : Int)))
  (Tree.br r.full (Tree.done Exit.ret (lret (IVal.v (Value.int IntKind.i64 (0 : Int)))))
  (Tree.br (!r.has) (Tree.done Exit.ret (lret (IVal.v (Value.int IntKind.i64 (8 : Int))))) (Tree.done Exit.ret (lret (IVal.v (Value.int IntKind.i64 (0 : Int)))))))
  (Tree.done Exit.ret (lret (IVal.v (Value.int IntKind.i64 (8 : Int))))))
  (Tree.br (decide (r.state = (2 : Int)))
  (Tree.need
  (ILeL [IVal.agg [slE (6 : Nat) encO r.build.origins, slE (2 : Nat) encT r.build.paths, slE (18 : Nat) encK r.build.keys], u8 r.version] [encL r.build, u8 r.version] ∧
  ASpec prog (31 : Nat) [encL r.build, u8 r.version] (bo (holdsP r.build r.version)))
  (Tree.br (holdsP r.build r.version)
  (Tree.br r.full (Tree.done Exit.ret (lret (IVal.v (Value.int IntKind.i64 (0 : Int)))))
  (Tree.br r.has
  (Tree.br (!decide (r.heard = r.session)) (Tree.done Exit.ret (lret (IVal.v (Value.int IntKind.i64 (8 : Int))))) (Tree.done Exit.ret (lret (IVal.v (Value.int IntKind.i64 (0 : Int))))))
  (Tree.done Exit.ret (lret (IVal.v (Value.int IntKind.i64 (8 : Int)))))))
  (Tree.done Exit.ret (lret (IVal.v (Value.int IntKind.i64 (8 : Int)))))))
  (Tree.done Exit.ret (lret (IVal.v (Value.int IntKind.i64 (8 : Int)))))))))
  (Tree.br (decide (r.state = (0 : Int))) (Tree.done Exit.ret (lret (IVal.v (Value.int IntKind.i64 (8 : Int)))))
  (Tree.br (decide (r.state = (1 : Int))) (Tree.done Exit.ret (lret (IVal.v (Value.int IntKind.i64 (8 : Int)))))
  (Tree.br (decide (r.state = (2 : Int)))
  (Tree.need
  (ILeL [IVal.agg [slE (6 : Nat) encO r.build.origins, slE (2 : Nat) encT r.build.paths, slE (18 : Nat) encK r.build.keys], u8 r.version] [encL r.build, u8 r.version] ∧
  ASpec prog (31 : Nat) [encL r.build, u8 r.version] (bo (holdsP r.build r.version)))
  (Tree.br (holdsP r.build r.version)
  (Tree.br r.full (Tree.done Exit.ret (lret (IVal.v (Value.int IntKind.i64 (0 : Int)))))
  (Tree.br r.has (Tree.br (!decide (r.heard = r.session)) (Tree.done Exit.ret (lret (IVal.v (Value.int IntKind.i64 (8 : Int))))) (Tree.done Exit.ret (lret (IVal.v (Value.int IntKind.i64 (0 : Int))))))
  (Tree.done Exit.ret (lret (IVal.v (Value.int IntKind.i64 (8 : Int)))))))
  (Tree.done Exit.ret (lret (IVal.v (Value.int IntKind.i64 (8 : Int)))))))
  (Tree.done Exit.ret (lret (IVal.v (Value.int IntKind.i64 (8 : Int))))))))))))))
  (Tree.br (decide (r.heard = (0 : Int)))
  (Tree.need (ILeL [IVal.agg [slE (6 : Nat) encO r.build.origins, slE (2 : Nat) encT r.build.paths, slE (18 : Nat) encK r.build.keys]] [encL r.build] ∧ ASpec prog (32 : Nat) [encL r.build] (i64 (sizeP r.build)))
  (Tree.br (decide (r.state = (0 : Int)))
  (Tree.br (decide (sizeP r.build = (0 : Int))) (Tree.br (!!r.full) (Tree.done Exit.ret (lret (IVal.v (Value.int IntKind.i64 (8 : Int))))) (Tree.done Exit.ret (lret (IVal.v (Value.int IntKind.i64 (0 : Int))))))
  (Tree.done Exit.ret (lret (IVal.v (Value.int IntKind.i64 (8 : Int))))))
  (Tree.br (decide (r.state = (1 : Int)))
  (Tree.br (decide (sizeP r.build = (0 : Int)))
  (Tree.br r.full (Tree.done Exit.ret (lret (IVal.v (Value.int IntKind.i64 (0 : Int)))))
  (Tree.br (!r.has) (Tree.done Exit.ret (lret (IVal.v (Value.int IntKind.i64 (8 : Int))))) (Tree.done Exit.ret (lret (IVal.v (Value.int IntKind.i64 (0 : Int)))))))
  (Tree.done Exit.ret (lret (IVal.v (Value.int IntKind.i64 (8 : Int))))))
  (Tree.br (decide (r.state = (2 : Int)))
  (Tree.need
  (ILeL [IVal.agg [slE (6 : Nat) encO r.build.origins, slE (2 : Nat) encT r.build.paths, slE (18 : Nat) encK r.build.keys], u8 r.version] [encL r.build, u8 r.version] ∧
  ASpec prog (31 : Nat) [encL r.build, u8 r.version] (bo (holdsP r.build r.version)))
  (Tree.br (holdsP r.build r.version)
  (Tree.br r.full (Tree.done Exit.ret (lret (IVal.v (Value.int IntKind.i64 (0 : Int)))))
  (Tree.br r.has (Tree.br (!decide (r.heard = r.session)) (Tree.done Exit.ret (lret (IVal.v (Value.int IntKind.i64 (8 : Int))))) (Tree.done Exit.ret (lret (IVal.v (Value.int IntKind.i64 (0 : Int))))))
  (Tree.done Exit.ret (lret (IVal.v (Value.int IntKind.i64 (8 : Int)))))))
  (Tree.done Exit.ret (lret (IVal.v (Value.int IntKind.i64 (8 : Int)))))))
  (Tree.done Exit.ret (lret (IVal.v (Value.int IntKind.i64 (8 : Int)))))))))
  (Tree.br (decide (r.state = (0 : Int))) (Tree.done Exit.ret (lret (IVal.v (Value.int IntKind.i64 (8 : Int)))))
  (Tree.br (decide (r.state = (1 : Int))) (Tree.done Exit.ret (lret (IVal.v (Value.int IntKind.i64 (8 : Int)))))
  (Tree.br (decide (r.state = (2 : Int)))
  (Tree.need
  (ILeL [IVal.agg [slE (6 : Nat) encO r.build.origins, slE (2 : Nat) encT r.build.paths, slE (18 : Nat) encK r.build.keys], u8 r.version] [encL r.build, u8 r.version] ∧
  ASpec prog (31 : Nat) [encL r.build, u8 r.version] (bo (holdsP r.build r.version)))
  (Tree.br (holdsP r.build r.version)
  (Tree.br r.full (Tree.done Exit.ret (lret (IVal.v (Value.int IntKind.i64 (0 : Int)))))
  (Tree.br r.has (Tree.br (!decide (r.heard = r.session)) (Tree.done Exit.ret (lret (IVal.v (Value.int IntKind.i64 (8 : Int))))) (Tree.done Exit.ret (lret (IVal.v (Value.int IntKind.i64 (0 : Int))))))
  (Tree.done Exit.ret (lret (IVal.v (Value.int IntKind.i64 (8 : Int)))))))
  (Tree.done Exit.ret (lret (IVal.v (Value.int IntKind.i64 (8 : Int)))))))
  (Tree.done Exit.ret (lret (IVal.v (Value.int IntKind.i64 (8 : Int))))))))))))))))) := by kernel_rfl
def holdsP' (p : Payload) (v : Int) : Bool := decide (ckL' p = 0) && decide (shortP p v = p)
def T33 (p : Payload) (v : Int) : Tell :=
  Tell.mk (fun x x_1 => false) (fun x x_1 => Orc.no) (fun x => Tree.fail (1000003 : Nat) (0 : Nat)) (fun x => (0 : Nat)) (fun x => ([], []))
  (oget
  [((2 : Nat), (1 : Nat), (1 : Nat), Orc.call [encL p] (i64 (ckL' p))), ((2 : Nat), (1 : Nat), (6 : Nat), Orc.call [encL p, u8 v] (encL (shortP p v))),
  ((2 : Nat), (1 : Nat), (8 : Nat), Orc.call [encL (shortP p v), encL p] (bo (decide (shortP p v = p))))])
  fun x x_1 => Tree.fail (1000003 : Nat) (0 : Nat)
theorem t33 (p : Payload) (v : Int) : levF prog Proofs.Try.f33 [encL p, u8 v] (T33 p v) =
  Tree.need (ILeL [encL p] [encL p] ∧ ASpec prog (44 : Nat) [encL p] (i64 (ckL' p)))
  (Tree.br (decide (ckL' p = (0 : Int)))
  (Tree.need (ILeL [encL p, u8 v] [encL p, u8 v] ∧ ASpec prog (45 : Nat) [encL p, u8 v] (encL (shortP p v)))
  (Tree.need (ILeL [encL (shortP p v), encL p] [encL (shortP p v), encL p] ∧ ASpec prog (18 : Nat) [encL (shortP p v), encL p] (bo (decide (shortP p v = p)))) (Tree.done Exit.ret (lret (IVal.v (Value.bool (decide (shortP p v = p))))))))
  (Tree.done Exit.ret (lret (IVal.v (Value.bool false))))) := by kernel_rfl
theorem c33 (p : Payload) (v : Int) (hp : p.ok) : ASpec prog 33 [encL p, u8 v] (bo (holdsP' p v)) := by
  have hs : (shortP p v).ok := by
    unfold shortP
    refine ⟨hp.o, ?_, ?_, ?_⟩
    · simp only; split
      · simp
      · exact hp.t
    · simp only; split
      · simp
      · exact hp.k
    · simp only; split
      · intro a ha; cases ha
      · exact hp.p
  refine ASpec.treeW Proofs.Try.f33 (T33 p v) (by kernel_rfl) (by kernel_rfl) (t33 p v) ?_
  refine ⟨⟨ILeL.refl _, c44 _⟩, fun _ => ⟨fun h1 => ⟨⟨ILeL.refl _, c45 _ _ ?_⟩, fun _ => ⟨⟨ILeL.refl _, c18 _ _ ?_⟩, fun _ => ⟨_, rfl, ?_⟩⟩⟩, fun h1 => ⟨_, rfl, ?_⟩⟩⟩
  · exact hp
  · exact hs
  · exact ile_bo (by simp [holdsP', *])
  · exact ile_bo (by simp [holdsP', *])
def T16 (r : Router) : Tell :=
  Tell.mk (fun x x_1 => false) (fun x x_1 => Orc.no) (fun x => Tree.fail (1000003 : Nat) (0 : Nat)) (fun x => (0 : Nat)) (fun x => ([], []))
  (oget
  [((2 : Nat), (1 : Nat), (6 : Nat), Orc.call [encM r.timers] (bo (timedB r.timers))), ((31 : Nat), (3 : Nat), (4 : Nat), Orc.call [encL r.data, u8 r.version] (bo (holdsP' r.data r.version))),
  ((31 : Nat), (3 : Nat), (13 : Nat), Orc.call [encL r.data] (i64 (sizeP r.data))), ((63 : Nat), (5 : Nat), (6 : Nat), Orc.call [encL r.build] (i64 (sizeP r.build))),
  ((82 : Nat), (13 : Nat), (4 : Nat), Orc.call [encL r.build, u8 r.version] (bo (holdsP' r.build r.version)))])
  fun x x_1 => Tree.fail (1000003 : Nat) (0 : Nat)
theorem t16 (r : Router) : levF prog Proofs.Try.f16 [encR r] (T16 r) =
  Tree.br (decide ((2 : Int) < r.version)) (Tree.done Exit.ret (lret (IVal.v (Value.int IntKind.i64 (8 : Int)))))
  (Tree.need (ILeL [IVal.agg [u32 r.timers.refresh, u32 r.timers.retry, u32 r.timers.expire]] [encM r.timers] ∧ ASpec prog (22 : Nat) [encM r.timers] (bo (timedB r.timers)))
  (Tree.br (!timedB r.timers) (Tree.done Exit.ret (lret (IVal.v (Value.int IntKind.i64 (8 : Int)))))
  (Tree.br (decide (r.good < (0 : Int))) (Tree.done Exit.ret (lret (IVal.v (Value.int IntKind.i64 (8 : Int)))))
  (Tree.br (decide ((1099511627776 : Int) < r.good)) (Tree.done Exit.ret (lret (IVal.v (Value.int IntKind.i64 (8 : Int)))))
  (Tree.br (decide (r.next < (0 : Int))) (Tree.done Exit.ret (lret (IVal.v (Value.int IntKind.i64 (8 : Int)))))
  (Tree.br (decide ((1099512676352 : Int) < r.next)) (Tree.done Exit.ret (lret (IVal.v (Value.int IntKind.i64 (8 : Int)))))
  (Tree.need
  (ILeL [IVal.agg [slE (6 : Nat) encO r.data.origins, slE (2 : Nat) encT r.data.paths, slE (18 : Nat) encK r.data.keys], u8 r.version] [encL r.data, u8 r.version] ∧
  ASpec prog (33 : Nat) [encL r.data, u8 r.version] (bo (holdsP' r.data r.version)))
  (Tree.br (!holdsP' r.data r.version) (Tree.done Exit.ret (lret (IVal.v (Value.int IntKind.i64 (8 : Int)))))
  (Tree.br (!r.has)
  (Tree.need (ILeL [IVal.agg [slE (6 : Nat) encO r.data.origins, slE (2 : Nat) encT r.data.paths, slE (18 : Nat) encK r.data.keys]] [encL r.data] ∧ ASpec prog (34 : Nat) [encL r.data] (i64 (sizeP r.data)))
  (Tree.br (decide ((0 : Int) < sizeP r.data)) (Tree.done Exit.ret (lret (IVal.v (Value.int IntKind.i64 (8 : Int)))))
  (Tree.br (!decide (r.session = (0 : Int))) (Tree.done Exit.ret (lret (IVal.v (Value.int IntKind.i64 (8 : Int)))))
  (Tree.br (!decide (r.serial = (0 : Int))) (Tree.done Exit.ret (lret (IVal.v (Value.int IntKind.i64 (8 : Int)))))
  (Tree.br (!decide (r.good = (0 : Int))) (Tree.done Exit.ret (lret (IVal.v (Value.int IntKind.i64 (8 : Int)))))
  (Tree.br (decide (r.heard = (0 : Int)))
  (Tree.need
  (ILeL [IVal.agg [slE (6 : Nat) encO r.build.origins, slE (2 : Nat) encT r.build.paths, slE (18 : Nat) encK r.build.keys]] [encL r.build] ∧ ASpec prog (34 : Nat) [encL r.build] (i64 (sizeP r.build)))
  (Tree.br (decide (r.state = (0 : Int)))
  (Tree.br (decide (sizeP r.build = (0 : Int)))
  (Tree.br (!!r.full) (Tree.done Exit.ret (lret (IVal.v (Value.int IntKind.i64 (8 : Int))))) (Tree.done Exit.ret (lret (IVal.v (Value.int IntKind.i64 (0 : Int))))))
  (Tree.done Exit.ret (lret (IVal.v (Value.int IntKind.i64 (8 : Int))))))
  (Tree.br (decide (r.state = (1 : Int)))
  (Tree.br (decide (sizeP r.build = (0 : Int)))
  (Tree.br r.full (Tree.done Exit.ret (lret (IVal.v (Value.int IntKind.i64 (0 : Int)))))
  (Tree.br (!r.has) (Tree.done Exit.ret (lret (IVal.v (Value.int IntKind.i64 (8 : Int))))) (Tree.done Exit.ret (lret (IVal.v (Value.int IntKind.i64 (0 : Int)))))))
  (Tree.done Exit.ret (lret (IVal.v (Value.int IntKind.i64 (8 : Int))))))
  (Tree.br (decide (r.state = (2 : Int)))
  (Tree.need
  (ILeL [IVal.agg [slE (6 : Nat) encO r.build.origins, slE (2 : Nat) encT r.build.paths, slE (18 : Nat) encK r.build.keys], u8 r.version] [encL r.build, u8 r.version] ∧
  ASpec prog (33 : Nat) [encL r.build, u8 r.version] (bo (holdsP' r.build r.version)))
  (Tree.br (holdsP' r.build r.version)
  (Tree.br r.full (Tree.done Exit.ret (lret (IVal.v (Value.int IntKind.i64 (0 : Int)))))
  (Tree.br r.has
  (Tree.br (!decide (r.heard = r.session)) (Tree.done Exit.ret (lret (IVal.v (Value.int IntKind.i64 (8 : Int))))) (Tree.done Exit.ret (lret (IVal.v (Value.int IntKind.i64 (0 : Int))))))
  (Tree.done Exit.ret (lret (IVal.v (Value.int IntKind.i64 (8 : Int)))))))
  (Tree.done Exit.ret (lret (IVal.v (Value.int IntKind.i64 (8 : Int)))))))
  (Tree.done Exit.ret (lret (IVal.v (Value.int IntKind.i64 (8 : Int)))))))))
  (Tree.br (decide (r.state = (0 : Int))) (Tree.done Exit.ret (lret (IVal.v (Value.int IntKind.i64 (8 : Int)))))
  (Tree.br (decide (r.state = (1 : Int))) (Tree.done Exit.ret (lret (IVal.v (Value.int IntKind.i64 (8 : Int)))))
  (Tree.br (decide (r.state = (2 : Int)))
  (Tree.need
  (ILeL [IVal.agg [slE (6 : Nat) encO r.build.origins, slE (2 : Nat) encT r.build.paths, slE (18 : Nat) encK r.build.keys], u8 r.version] [encL r.build, u8 r.version] ∧
  ASpec prog (33 : Nat) [encL r.build, u8 r.version] (bo (holdsP' r.build r.version)))
  (Tree.br (holdsP' r.build r.version)
  (Tree.br r.full (Tree.done Exit.ret (lret (IVal.v (Value.int IntKind.i64 (0 : Int)))))
  (Tree.br r.has
  (Tree.br (!decide (r.heard = r.session)) (Tree.done Exit.ret (lret (IVal.v (Value.int IntKind.i64 (8 : Int))))) (Tree.done Exit.ret (lret (IVal.v (Value.int IntKind.i64 (0 : Int))))))
  (Tree.done Exit.ret (lret (IVal.v (Value.int IntKind.i64 (8 : Int)))))))
  (Tree.done Exit.ret (lret (IVal.v (Value.int IntKind.i64 (8 : Int)))))))
  (Tree.done Exit.ret (lret (IVal.v (Value.int IntKind.i64 (8 : Int))))))))))))))
  (Tree.br (decide (r.heard = (0 : Int)))
  (Tree.need (ILeL [IVal.agg [slE (6 : Nat) encO r.build.origins, slE (2 : Nat) encT r.build.paths, slE (18 : Nat) encK r.build.keys]] [encL r.build] ∧ ASpec prog (34 : Nat) [encL r.build] (i64 (sizeP r.build)))
  (Tree.br (decide (r.state = (0 : Int)))
  (Tree.br (decide (sizeP r.build = (0 : Int))) (Tree.br (!!r.full) (Tree.done Exit.ret (lret (IVal.v (Value.int IntKind.i64 (8 : Int))))) (Tree.done Exit.ret (lret (IVal.v (Value.int IntKind.i64 (0 : Int))))))
  (Tree.done Exit.ret (lret (IVal.v (Value.int IntKind.i64 (8 : Int))))))
  (Tree.br (decide (r.state = (1 : Int)))
  (Tree.br (decide (sizeP r.build = (0 : Int)))
  (Tree.br r.full (Tree.done Exit.ret (lret (IVal.v (Value.int IntKind.i64 (0 : Int)))))
  (Tree.br (!r.has) (Tree.done Exit.ret (lret (IVal.v (Value.int IntKind.i64 (8 : Int))))) (Tree.done Exit.ret (lret (IVal.v (Value.int IntKind.i64 (0 : Int)))))))
  (Tree.done Exit.ret (lret (IVal.v (Value.int IntKind.i64 (8 : Int))))))
  (Tree.br (decide (r.state = (2 : Int)))
  (Tree.need
  (ILeL [IVal.agg [slE (6 : Nat) encO r.build.origins, slE (2 : Nat) encT r.build.paths, slE (18 : Nat) encK r.build.keys], u8 r.version] [encL r.build, u8 r.version] ∧
  ASpec prog (33 : Nat) [encL r.build, u8 r.version] (bo (holdsP' r.build r.version)))
  (Tree.br (holdsP' r.build r.version)
  (Tree.br r.full (Tree.done Exit.ret (lret (IVal.v (Value.int IntKind.i64 (0 : Int)))))
  (Tree.br r.has (Tree.br (!decide (r.heard = r.session)) (Tree.done Exit.ret (lret (IVal.v (Value.int IntKind.i64 (8 : Int))))) (Tree.done Exit.ret (lret (IVal.v (Value.int IntKind.i64 (0 : Int))))))
  (Tree.done Exit.ret (lret (IVal.v (Value.int IntKind.i64 (8 : Int)))))))
  (Tree.done Exit.ret (lret (IVal.v (Value.int IntKind.i64 (8 : Int)))))))
  (Tree.done Exit.ret (lret (IVal.v (Value.int IntKind.i64 (8 : Int)))))))))
  (Tree.br (decide (r.state = (0 : Int))) (Tree.done Exit.ret (lret (IVal.v (Value.int IntKind.i64 (8 : Int)))))
  (Tree.br (decide (r.state = (1 : Int))) (Tree.done Exit.ret (lret (IVal.v (Value.int IntKind.i64 (8 : Int)))))
  (Tree.br (decide (r.state = (2 : Int)))
  (Tree.need
  (ILeL [IVal.agg [slE (6 : Nat) encO r.build.origins, slE (2 : Nat) encT r.build.paths, slE (18 : Nat) encK r.build.keys], u8 r.version] [encL r.build, u8 r.version] ∧
  ASpec prog (33 : Nat) [encL r.build, u8 r.version] (bo (holdsP' r.build r.version)))
  (Tree.br (holdsP' r.build r.version)
  (Tree.br r.full (Tree.done Exit.ret (lret (IVal.v (Value.int IntKind.i64 (0 : Int)))))
  (Tree.br r.has (Tree.br (!decide (r.heard = r.session)) (Tree.done Exit.ret (lret (IVal.v (Value.int IntKind.i64 (8 : Int))))) (Tree.done Exit.ret (lret (IVal.v (Value.int IntKind.i64 (0 : Int))))))
  (Tree.done Exit.ret (lret (IVal.v (Value.int IntKind.i64 (8 : Int)))))))
  (Tree.done Exit.ret (lret (IVal.v (Value.int IntKind.i64 (8 : Int)))))))
  (Tree.done Exit.ret (lret (IVal.v (Value.int IntKind.i64 (8 : Int)))))))))))))))))) := by kernel_rfl
end Gp
namespace Gp
def quietB (r : Router) : Bool := decide (r.heard = 0) && decide (sizeP r.build = 0)
def isB (h : Payload → Int → Bool) (r : Router) : Bool :=
  if r.state = 0 then quietB r && !r.full else if r.state = 1 then quietB r && (r.full || r.has) else if r.state = 2 then h r.build r.version && (r.full || (r.has && decide (r.heard = r.session))) else false
def baseB (h : Payload → Int → Bool) (r : Router) : Bool :=
  decide (r.version ≤ 2) && timedB r.timers && decide (0 ≤ r.good) && decide (r.good ≤ 1099511627776) && decide (0 ≤ r.next) && decide (r.next ≤ 1099512676352) && h r.data r.version
def emptyB (r : Router) : Bool := r.has || (decide (sizeP r.data ≤ 0) && decide (r.session = 0) && decide (r.serial = 0) && decide (r.good = 0))
def okR (h : Payload → Int → Bool) (r : Router) : Bool := baseB h r && emptyB r && isB h r
def ckR (h : Payload → Int → Bool) (r : Router) : Int := if okR h r = true then 0 else 8
theorem ckR_bad {h : Payload → Int → Bool} {r : Router} (hb : okR h r = false) : ILe (.v (.int .i64 8)) (i64 (ckR h r)) := ile_i64 (by unfold ckR; rw [hb]; rfl)
theorem ckR_good {h : Payload → Int → Bool} {r : Router} (hb : okR h r = true) : ILe (.v (.int .i64 0)) (i64 (ckR h r)) := ile_i64 (by unfold ckR; rw [hb]; rfl)
theorem c16 (r : Router) (hr : r.ok) : ASpec prog 16 [encR r] (i64 (ckR holdsP' r)) := by
  refine ASpec.treeW Proofs.Try.f16 (T16 r) (by kernel_rfl) (by kernel_rfl) (t16 r) ?_
  refine ⟨fun h1 => ⟨_, rfl, ?_⟩, fun h1 => ⟨⟨ILeL.refl _, c22 _⟩, fun _ => ⟨fun h2 => ⟨_, rfl, ?_⟩, fun h2 => ⟨fun h3 => ⟨_, rfl, ?_⟩, fun h3 => ⟨fun h4 => ⟨_, rfl, ?_⟩, fun h4 => ⟨fun h5 => ⟨_, rfl, ?_⟩, fun h5 => ⟨fun h6 => ⟨_, rfl, ?_⟩, fun h6 => ⟨⟨ILeL.refl _, c33 _ _ ?_⟩, fun _ => ⟨fun h7 => ⟨_, rfl, ?_⟩, fun h7 => ⟨fun h8 => ⟨⟨ILeL.refl _, c34 _ ?_⟩, fun _ => ⟨fun h9 => ⟨_, rfl, ?_⟩, fun h9 => ⟨fun h10 => ⟨_, rfl, ?_⟩, fun h10 => ⟨fun h11 => ⟨_, rfl, ?_⟩, fun h11 => ⟨fun h12 => ⟨_, rfl, ?_⟩, fun h12 => ⟨fun h13 => ⟨⟨ILeL.refl _, c34 _ ?_⟩, fun _ => ⟨fun h14 => ⟨fun h15 => ⟨fun h16 => ⟨_, rfl, ?_⟩, fun h16 => ⟨_, rfl, ?_⟩⟩, fun h15 => ⟨_, rfl, ?_⟩⟩, fun h14 => ⟨fun h15 => ⟨fun h16 => ⟨fun h17 => ⟨_, rfl, ?_⟩, fun h17 => ⟨fun h18 => ⟨_, rfl, ?_⟩, fun h18 => ⟨_, rfl, ?_⟩⟩⟩, fun h16 => ⟨_, rfl, ?_⟩⟩, fun h15 => ⟨fun h16 => ⟨⟨ILeL.refl _, c33 _ _ ?_⟩, fun _ => ⟨fun h17 => ⟨fun h18 => ⟨_, rfl, ?_⟩, fun h18 => ⟨fun h19 => ⟨fun h20 => ⟨_, rfl, ?_⟩, fun h20 => ⟨_, rfl, ?_⟩⟩, fun h19 => ⟨_, rfl, ?_⟩⟩⟩, fun h17 => ⟨_, rfl, ?_⟩⟩⟩, fun h16 => ⟨_, rfl, ?_⟩⟩⟩⟩⟩, fun h13 => ⟨fun h14 => ⟨_, rfl, ?_⟩, fun h14 => ⟨fun h15 => ⟨_, rfl, ?_⟩, fun h15 => ⟨fun h16 => ⟨⟨ILeL.refl _, c33 _ _ ?_⟩, fun _ => ⟨fun h17 => ⟨fun h18 => ⟨_, rfl, ?_⟩, fun h18 => ⟨fun h19 => ⟨fun h20 => ⟨_, rfl, ?_⟩, fun h20 => ⟨_, rfl, ?_⟩⟩, fun h19 => ⟨_, rfl, ?_⟩⟩⟩, fun h17 => ⟨_, rfl, ?_⟩⟩⟩, fun h16 => ⟨_, rfl, ?_⟩⟩⟩⟩⟩⟩⟩⟩⟩⟩, fun h8 => ⟨fun h9 => ⟨⟨ILeL.refl _, c34 _ ?_⟩, fun _ => ⟨fun h10 => ⟨fun h11 => ⟨fun h12 => ⟨_, rfl, ?_⟩, fun h12 => ⟨_, rfl, ?_⟩⟩, fun h11 => ⟨_, rfl, ?_⟩⟩, fun h10 => ⟨fun h11 => ⟨fun h12 => ⟨fun h13 => ⟨_, rfl, ?_⟩, fun h13 => ⟨fun h14 => ⟨_, rfl, ?_⟩, fun h14 => ⟨_, rfl, ?_⟩⟩⟩, fun h12 => ⟨_, rfl, ?_⟩⟩, fun h11 => ⟨fun h12 => ⟨⟨ILeL.refl _, c33 _ _ ?_⟩, fun _ => ⟨fun h13 => ⟨fun h14 => ⟨_, rfl, ?_⟩, fun h14 => ⟨fun h15 => ⟨fun h16 => ⟨_, rfl, ?_⟩, fun h16 => ⟨_, rfl, ?_⟩⟩, fun h15 => ⟨_, rfl, ?_⟩⟩⟩, fun h13 => ⟨_, rfl, ?_⟩⟩⟩, fun h12 => ⟨_, rfl, ?_⟩⟩⟩⟩⟩, fun h9 => ⟨fun h10 => ⟨_, rfl, ?_⟩, fun h10 => ⟨fun h11 => ⟨_, rfl, ?_⟩, fun h11 => ⟨fun h12 => ⟨⟨ILeL.refl _, c33 _ _ ?_⟩, fun _ => ⟨fun h13 => ⟨fun h14 => ⟨_, rfl, ?_⟩, fun h14 => ⟨fun h15 => ⟨fun h16 => ⟨_, rfl, ?_⟩, fun h16 => ⟨_, rfl, ?_⟩⟩, fun h15 => ⟨_, rfl, ?_⟩⟩⟩, fun h13 => ⟨_, rfl, ?_⟩⟩⟩, fun h12 => ⟨_, rfl, ?_⟩⟩⟩⟩⟩⟩⟩⟩⟩⟩⟩⟩⟩⟩⟩
  all_goals (first | exact hr.d | exact hr.b | skip)
  all_goals simp only [decide_eq_true_eq, decide_eq_false_iff_not, Bool.not_eq_true', Bool.not_eq_false', Bool.not_not, Int.not_lt] at *
  all_goals (first | refine ckR_bad ?_ | refine ckR_good ?_)
  all_goals (simp [okR, baseB, emptyB, isB, quietB, *] <;> (intros; first | omega | (simp_all <;> omega)))
theorem newE_eq (v : Int) (t : Timers) : (newE v t = 0) = (v ≤ 2 ∧ timedB t = true) := by
  unfold newE
  split
  · rename_i h; simp [h]
  · rename_i h; simp [h]
theorem c15 (r : Router) (hr : r.ok) : ASpec prog 15 [encR r] (i64 (ckR holdsP r)) := by
  refine ASpec.treeW Proofs.Try.f15 (T15 r) (by kernel_rfl) (by kernel_rfl) (t15 r) ?_
  refine ⟨⟨ILeL.refl _, c6 _ _⟩, fun _ => ⟨fun h1 => ⟨_, rfl, ?_⟩, fun h1 => ⟨⟨ILeL.refl _, c30 _ _ _⟩, fun _ => ⟨fun h2 => ⟨_, rfl, ?_⟩, fun h2 => ⟨⟨ILeL.refl _, c30 _ _ _⟩, fun _ => ⟨fun h3 => ⟨_, rfl, ?_⟩, fun h3 => ⟨⟨ILeL.refl _, c31 _ _ ?_⟩, fun _ => ⟨fun h4 => ⟨_, rfl, ?_⟩, fun h4 => ⟨fun h5 => ⟨⟨ILeL.refl _, c32 _ ?_⟩, fun _ => ⟨fun h6 => ⟨_, rfl, ?_⟩, fun h6 => ⟨fun h7 => ⟨_, rfl, ?_⟩, fun h7 => ⟨fun h8 => ⟨_, rfl, ?_⟩, fun h8 => ⟨fun h9 => ⟨_, rfl, ?_⟩, fun h9 => ⟨fun h10 => ⟨⟨ILeL.refl _, c32 _ ?_⟩, fun _ => ⟨fun h11 => ⟨fun h12 => ⟨fun h13 => ⟨_, rfl, ?_⟩, fun h13 => ⟨_, rfl, ?_⟩⟩, fun h12 => ⟨_, rfl, ?_⟩⟩, fun h11 => ⟨fun h12 => ⟨fun h13 => ⟨fun h14 => ⟨_, rfl, ?_⟩, fun h14 => ⟨fun h15 => ⟨_, rfl, ?_⟩, fun h15 => ⟨_, rfl, ?_⟩⟩⟩, fun h13 => ⟨_, rfl, ?_⟩⟩, fun h12 => ⟨fun h13 => ⟨⟨ILeL.refl _, c31 _ _ ?_⟩, fun _ => ⟨fun h14 => ⟨fun h15 => ⟨_, rfl, ?_⟩, fun h15 => ⟨fun h16 => ⟨fun h17 => ⟨_, rfl, ?_⟩, fun h17 => ⟨_, rfl, ?_⟩⟩, fun h16 => ⟨_, rfl, ?_⟩⟩⟩, fun h14 => ⟨_, rfl, ?_⟩⟩⟩, fun h13 => ⟨_, rfl, ?_⟩⟩⟩⟩⟩, fun h10 => ⟨fun h11 => ⟨_, rfl, ?_⟩, fun h11 => ⟨fun h12 => ⟨_, rfl, ?_⟩, fun h12 => ⟨fun h13 => ⟨⟨ILeL.refl _, c31 _ _ ?_⟩, fun _ => ⟨fun h14 => ⟨fun h15 => ⟨_, rfl, ?_⟩, fun h15 => ⟨fun h16 => ⟨fun h17 => ⟨_, rfl, ?_⟩, fun h17 => ⟨_, rfl, ?_⟩⟩, fun h16 => ⟨_, rfl, ?_⟩⟩⟩, fun h14 => ⟨_, rfl, ?_⟩⟩⟩, fun h13 => ⟨_, rfl, ?_⟩⟩⟩⟩⟩⟩⟩⟩⟩⟩, fun h5 => ⟨fun h6 => ⟨⟨ILeL.refl _, c32 _ ?_⟩, fun _ => ⟨fun h7 => ⟨fun h8 => ⟨fun h9 => ⟨_, rfl, ?_⟩, fun h9 => ⟨_, rfl, ?_⟩⟩, fun h8 => ⟨_, rfl, ?_⟩⟩, fun h7 => ⟨fun h8 => ⟨fun h9 => ⟨fun h10 => ⟨_, rfl, ?_⟩, fun h10 => ⟨fun h11 => ⟨_, rfl, ?_⟩, fun h11 => ⟨_, rfl, ?_⟩⟩⟩, fun h9 => ⟨_, rfl, ?_⟩⟩, fun h8 => ⟨fun h9 => ⟨⟨ILeL.refl _, c31 _ _ ?_⟩, fun _ => ⟨fun h10 => ⟨fun h11 => ⟨_, rfl, ?_⟩, fun h11 => ⟨fun h12 => ⟨fun h13 => ⟨_, rfl, ?_⟩, fun h13 => ⟨_, rfl, ?_⟩⟩, fun h12 => ⟨_, rfl, ?_⟩⟩⟩, fun h10 => ⟨_, rfl, ?_⟩⟩⟩, fun h9 => ⟨_, rfl, ?_⟩⟩⟩⟩⟩, fun h6 => ⟨fun h7 => ⟨_, rfl, ?_⟩, fun h7 => ⟨fun h8 => ⟨_, rfl, ?_⟩, fun h8 => ⟨fun h9 => ⟨⟨ILeL.refl _, c31 _ _ ?_⟩, fun _ => ⟨fun h10 => ⟨fun h11 => ⟨_, rfl, ?_⟩, fun h11 => ⟨fun h12 => ⟨fun h13 => ⟨_, rfl, ?_⟩, fun h13 => ⟨_, rfl, ?_⟩⟩, fun h12 => ⟨_, rfl, ?_⟩⟩⟩, fun h10 => ⟨_, rfl, ?_⟩⟩⟩, fun h9 => ⟨_, rfl, ?_⟩⟩⟩⟩⟩⟩⟩⟩⟩⟩⟩⟩⟩⟩
  all_goals (first | exact hr.d | exact hr.b | skip)
  all_goals simp only [decide_eq_true_eq, decide_eq_false_iff_not, Bool.not_eq_true', Bool.not_eq_false', Bool.not_not, Int.not_lt, newE_eq, Bool.and_eq_true, Bool.and_eq_false_imp] at *
  all_goals (first | refine ckR_bad ?_ | refine ckR_good ?_)
  all_goals (simp [okR, baseB, emptyB, isB, quietB, *] <;> (intros; simp_all <;> omega))
/-! times -/
def oldB (r : Router) (now : Int) : Bool := r.has && decide (r.timers.expire ≤ now - r.good)
def ckT (h : Payload → Int → Bool) (r : Router) (now : Int) : Int := if okR h r = true then (if r.good ≤ now ∧ now ≤ 1099511627776 then 0 else 20) else 8
def T23 (r : Router) (now : Int) : Tell :=
  Tell.mk (fun x x_1 => false) (fun x x_1 => Orc.no) (fun x => Tree.fail (1000003 : Nat) (0 : Nat)) (fun x => (0 : Nat)) (fun x => ([], []))
  (oget
  [((2 : Nat), (1 : Nat), (1 : Nat), Orc.call [encR r] (i64 (ckR holdsP r))),
  ((5 : Nat), (2 : Nat), (6 : Nat), Orc.call [i64 now, i64 r.good, i64 (1099511627776 : Int)] (bo (decide (r.good ≤ now) && decide (now ≤ (1099511627776 : Int)))))])
  fun x x_1 => Tree.fail (1000003 : Nat) (0 : Nat)
theorem t23 (r : Router) (now : Int) : levF prog Proofs.Try.f23 [encR r, i64 now] (T23 r now) =
  Tree.need (ILeL [encR r] [encR r] ∧ ASpec prog (15 : Nat) [encR r] (i64 (ckR holdsP r)))
  (Tree.br (decide (ckR holdsP r = (0 : Int)))
  (Tree.need
  (ILeL [i64 now, i64 r.good, IVal.v (Value.int IntKind.i64 (1099511627776 : Int))] [i64 now, i64 r.good, i64 (1099511627776 : Int)] ∧
  ASpec prog (30 : Nat) [i64 now, i64 r.good, i64 (1099511627776 : Int)] (bo (decide (r.good ≤ now) && decide (now ≤ (1099511627776 : Int)))))
  (Tree.br (!(decide (r.good ≤ now) && decide (now ≤ (1099511627776 : Int)))) (Tree.done Exit.ret (lret (IVal.v (Value.int IntKind.i64 (20 : Int))))) (Tree.done Exit.ret (lret (IVal.v (Value.int IntKind.i64 (ckR holdsP r)))))))
  (Tree.done Exit.ret (lret (IVal.v (Value.int IntKind.i64 (ckR holdsP r)))))) := by kernel_rfl
theorem c23 (r : Router) (now : Int) (hr : r.ok) : ASpec prog 23 [encR r, i64 now] (i64 (ckT holdsP r now)) := by
  refine ASpec.treeW Proofs.Try.f23 (T23 r now) (by kernel_rfl) (by kernel_rfl) (t23 r now) ?_
  refine ⟨⟨ILeL.refl _, c15 _ ?_⟩, fun _ => ⟨fun h1 => ⟨⟨ILeL.refl _, c30 _ _ _⟩, fun _ => ⟨fun h2 => ⟨_, rfl, ?_⟩, fun h2 => ⟨_, rfl, ?_⟩⟩⟩, fun h1 => ⟨_, rfl, ?_⟩⟩⟩
  all_goals (first | exact hr | skip)
  all_goals (refine ile_i64 ?_; simp only [ckR, ckT] at *; simp_all <;> (intros; omega))
def T27 (r : Router) (now : Int) : Tell :=
  Tell.mk (fun x x_1 => false) (fun x x_1 => Orc.no) (fun x => Tree.fail (1000003 : Nat) (0 : Nat)) (fun x => (0 : Nat)) (fun x => ([], [])) (oget [((2 : Nat), (1 : Nat), (1 : Nat), Orc.call [encR r] (i64 (ckR holdsP' r)))]) fun x x_1 =>
  Tree.fail (1000003 : Nat) (0 : Nat)
theorem t27 (r : Router) (now : Int) : levF prog Proofs.Try.f27 [encR r, i64 now] (T27 r now) =
  Tree.need (ILeL [encR r] [encR r] ∧ ASpec prog (16 : Nat) [encR r] (i64 (ckR holdsP' r)))
  (Tree.br (decide (ckR holdsP' r = (0 : Int)))
  (Tree.br (decide (now < r.good)) (Tree.done Exit.ret (lret (IVal.v (Value.int IntKind.i64 (20 : Int)))))
  (Tree.br (decide ((1099511627776 : Int) < now)) (Tree.done Exit.ret (lret (IVal.v (Value.int IntKind.i64 (20 : Int))))) (Tree.done Exit.ret (lret (IVal.v (Value.int IntKind.i64 (ckR holdsP' r)))))))
  (Tree.done Exit.ret (lret (IVal.v (Value.int IntKind.i64 (ckR holdsP' r)))))) := by kernel_rfl
theorem c27 (r : Router) (now : Int) (hr : r.ok) : ASpec prog 27 [encR r, i64 now] (i64 (ckT holdsP' r now)) := by
  refine ASpec.treeW Proofs.Try.f27 (T27 r now) (by kernel_rfl) (by kernel_rfl) (t27 r now) ?_
  refine ⟨⟨ILeL.refl _, c16 _ ?_⟩, fun _ => ⟨fun h1 => ⟨fun h2 => ⟨_, rfl, ?_⟩, fun h2 => ⟨fun h3 => ⟨_, rfl, ?_⟩, fun h3 => ⟨_, rfl, ?_⟩⟩⟩, fun h1 => ⟨_, rfl, ?_⟩⟩⟩
  all_goals (first | exact hr | skip)
  all_goals (refine ile_i64 ?_; simp only [ckR, ckT] at *; simp_all <;> (intros; omega))
theorem c25 (r : Router) (now : Int) (h0 : 0 ≤ r.good ∧ r.good ≤ 1099511627776 ∧ 0 ≤ now ∧ now ≤ 1099511627776) (hx : 0 ≤ r.timers.expire ∧ r.timers.expire ≤ 4294967295) : ASpec prog 25 [encR r, i64 now] (bo (oldB r now)) := by
  refine ASpec.treeW Proofs.Try.f25 {} (by kernel_rfl) (by kernel_rfl) (t25 r now) ?_
  have e1 : IntKind.i64.wrap (now - r.good) = now - r.good := IntWalk.i64_in _ (by omega)
  have e2 : IntKind.i64.wrap r.timers.expire = r.timers.expire := IntWalk.i64_in _ (by omega)
  refine ⟨fun h1 => ⟨_, rfl, ?_⟩, fun h1 => ⟨_, rfl, ?_⟩⟩
  all_goals (refine ile_bo ?_; simp [oldB, e1, e2, *])
end Gp
namespace Gp
def T11 (r : Router) (now : Int) : Tell :=
  Tell.mk (fun x x_1 => false) (fun x x_1 => Orc.no) (fun x => Tree.fail (1000003 : Nat) (0 : Nat)) (fun x => (0 : Nat)) (fun x => ([], []))
  (oget [((3 : Nat), (1 : Nat), (2 : Nat), Orc.call [encR r, i64 now] (i64 (ckT holdsP' r now))), ((9 : Nat), (4 : Nat), (2 : Nat), Orc.call [encR r, i64 now] (encR (restR r now)))]) fun x x_1 => Tree.fail (1000003 : Nat) (0 : Nat)
theorem t11 (r : Router) (now : Int) : levF prog Proofs.Try.f11 [encR r, i64 now] (T11 r now) =
  Tree.need (ILeL [encR r, i64 now] [encR r, i64 now] ∧ ASpec prog (27 : Nat) [encR r, i64 now] (i64 (ckT holdsP' r now)))
  (Tree.br (!decide (ckT holdsP' r now = (0 : Int)))
  (Tree.done Exit.ret
  (lret
  (IVal.tup
  [IVal.agg
  [IVal.v (Value.int IntKind.u8 (0 : Int)), IVal.v (Value.int IntKind.u8 (0 : Int)), IVal.v (Value.bool false), IVal.v (Value.int IntKind.u16 (0 : Int)), IVal.v (Value.int IntKind.u32 (0 : Int)),
  IVal.v (Value.slice none (0 : Nat) (0 : Nat)), IVal.v (Value.slice none (0 : Nat) (0 : Nat)), IVal.v (Value.slice none (0 : Nat) (0 : Nat)), IVal.v (Value.int IntKind.u32 (0 : Int)), IVal.v (Value.int IntKind.u32 (0 : Int)),
  IVal.v (Value.int IntKind.u32 (0 : Int)), IVal.v (Value.int IntKind.i64 (0 : Int)), IVal.v (Value.int IntKind.i64 (0 : Int)), IVal.v (Value.bool false), IVal.v (Value.int IntKind.u16 (0 : Int)),
  IVal.v (Value.slice none (0 : Nat) (0 : Nat)), IVal.v (Value.slice none (0 : Nat) (0 : Nat)), IVal.v (Value.slice none (0 : Nat) (0 : Nat))],
  i64 (ckT holdsP' r now)])))
  (Tree.need (ILeL [encR r, i64 now] [encR r, i64 now] ∧ ASpec prog (28 : Nat) [encR r, i64 now] (encR (restR r now))) (Tree.done Exit.ret (lret (IVal.tup [encR (restR r now), IVal.v (Value.int IntKind.i64 (0 : Int))]))))) := by kernel_rfl
def T10 (r : Router) (now : Int) : Tell :=
  Tell.mk (fun x x_1 => false) (fun x x_1 => Orc.no) (fun x => Tree.fail (1000003 : Nat) (0 : Nat)) (fun x => (0 : Nat)) (fun x => ([], []))
  (oget
  [((3 : Nat), (1 : Nat), (2 : Nat), Orc.call [encR r, i64 now] (i64 (ckT holdsP r now))), ((9 : Nat), (4 : Nat), (1 : Nat), Orc.call [encR r] (encR r)), ((9 : Nat), (4 : Nat), (3 : Nat), Orc.call [encR r, i64 now] (encR (restR r now)))])
  fun x x_1 => Tree.fail (1000003 : Nat) (0 : Nat)
theorem t10 (r : Router) (now : Int) : levF prog Proofs.Try.f10 [encR r, i64 now] (T10 r now) =
  Tree.need (ILeL [encR r, i64 now] [encR r, i64 now] ∧ ASpec prog (23 : Nat) [encR r, i64 now] (i64 (ckT holdsP r now)))
  (Tree.br (!decide (ckT holdsP r now = (0 : Int)))
  (Tree.done Exit.ret
  (lret
  (IVal.tup
  [IVal.agg
  [IVal.v (Value.int IntKind.u8 (0 : Int)), IVal.v (Value.int IntKind.u8 (0 : Int)), IVal.v (Value.bool false), IVal.v (Value.int IntKind.u16 (0 : Int)), IVal.v (Value.int IntKind.u32 (0 : Int)),
  IVal.v (Value.slice none (0 : Nat) (0 : Nat)), IVal.v (Value.slice none (0 : Nat) (0 : Nat)), IVal.v (Value.slice none (0 : Nat) (0 : Nat)), IVal.v (Value.int IntKind.u32 (0 : Int)), IVal.v (Value.int IntKind.u32 (0 : Int)),
  IVal.v (Value.int IntKind.u32 (0 : Int)), IVal.v (Value.int IntKind.i64 (0 : Int)), IVal.v (Value.int IntKind.i64 (0 : Int)), IVal.v (Value.bool false), IVal.v (Value.int IntKind.u16 (0 : Int)),
  IVal.v (Value.slice none (0 : Nat) (0 : Nat)), IVal.v (Value.slice none (0 : Nat) (0 : Nat)), IVal.v (Value.slice none (0 : Nat) (0 : Nat))],
  i64 (ckT holdsP r now)])))
  (Tree.need (ILeL [encR r] [encR r] ∧ ASpec prog (24 : Nat) [encR r] (encR r))
  (Tree.need (ILeL [encR r, i64 now] [encR r, i64 now] ∧ ASpec prog (26 : Nat) [encR r, i64 now] (encR (restR r now))) (Tree.done Exit.ret (lret (IVal.tup [encR (restR r now), IVal.v (Value.int IntKind.i64 (0 : Int))])))))) := by kernel_rfl
def T12 (r : Router) (now : Int) : Tell :=
  Tell.mk (fun x x_1 => false) (fun x x_1 => Orc.no) (fun x => Tree.fail (1000003 : Nat) (0 : Nat)) (fun x => (0 : Nat)) (fun x => ([], []))
  (oget
  [((4 : Nat), (1 : Nat), (2 : Nat), Orc.call [encR r, i64 now] (i64 (ckT holdsP r now))), ((10 : Nat), (4 : Nat), (6 : Nat), Orc.call [encR r, i64 now] (bo (oldB r now))),
  ((18 : Nat), (6 : Nat), (2 : Nat), Orc.call [encL r.data] (encL r.data))])
  fun x x_1 => Tree.fail (1000003 : Nat) (0 : Nat)
theorem t12 (r : Router) (now : Int) : levF prog Proofs.Try.f12 [encR r, i64 now] (T12 r now) =
  Tree.need (ILeL [encR r, i64 now] [encR r, i64 now] ∧ ASpec prog (23 : Nat) [encR r, i64 now] (i64 (ckT holdsP r now)))
  (Tree.br (!decide (ckT holdsP r now = (0 : Int)))
  (Tree.done Exit.ret
  (lret (IVal.tup [IVal.agg [IVal.v (Value.slice none (0 : Nat) (0 : Nat)), IVal.v (Value.slice none (0 : Nat) (0 : Nat)), IVal.v (Value.slice none (0 : Nat) (0 : Nat))], IVal.v (Value.bool false), i64 (ckT holdsP r now)])))
  (Tree.br (!r.has)
  (Tree.done Exit.ret
  (lret
  (IVal.tup
  [IVal.agg [IVal.v (Value.slice none (0 : Nat) (0 : Nat)), IVal.v (Value.slice none (0 : Nat) (0 : Nat)), IVal.v (Value.slice none (0 : Nat) (0 : Nat))], IVal.v (Value.bool false), IVal.v (Value.int IntKind.i64 (0 : Int))])))
  (Tree.need (ILeL [encR r, i64 now] [encR r, i64 now] ∧ ASpec prog (25 : Nat) [encR r, i64 now] (bo (oldB r now)))
  (Tree.br (oldB r now)
  (Tree.done Exit.ret
  (lret
  (IVal.tup
  [IVal.agg [IVal.v (Value.slice none (0 : Nat) (0 : Nat)), IVal.v (Value.slice none (0 : Nat) (0 : Nat)), IVal.v (Value.slice none (0 : Nat) (0 : Nat))], IVal.v (Value.bool false), IVal.v (Value.int IntKind.i64 (0 : Int))])))
  (Tree.need (ILeL [IVal.agg [slE (6 : Nat) encO r.data.origins, slE (2 : Nat) encT r.data.paths, slE (18 : Nat) encK r.data.keys]] [encL r.data] ∧ ASpec prog (29 : Nat) [encL r.data] (encL r.data))
  (Tree.done Exit.ret (lret (IVal.tup [encL r.data, IVal.v (Value.bool true), IVal.v (Value.int IntKind.i64 (0 : Int))])))))))) := by kernel_rfl
def T13 (r : Router) (now : Int) : Tell :=
  Tell.mk (fun x x_1 => false) (fun x x_1 => Orc.no) (fun x => Tree.fail (1000003 : Nat) (0 : Nat)) (fun x => (0 : Nat)) (fun x => ([], []))
  (oget [((4 : Nat), (1 : Nat), (2 : Nat), Orc.call [encR r, i64 now] (i64 (ckT holdsP' r now))), ((24 : Nat), (6 : Nat), (2 : Nat), Orc.call [encL r.data] (encL r.data))]) fun x x_1 => Tree.fail (1000003 : Nat) (0 : Nat)
theorem t13 (r : Router) (now : Int) : levF prog Proofs.Try.f13 [encR r, i64 now] (T13 r now) =
  Tree.need (ILeL [encR r, i64 now] [encR r, i64 now] ∧ ASpec prog (27 : Nat) [encR r, i64 now] (i64 (ckT holdsP' r now)))
  (Tree.br (!decide (ckT holdsP' r now = (0 : Int)))
  (Tree.done Exit.ret
  (lret (IVal.tup [IVal.agg [IVal.v (Value.slice none (0 : Nat) (0 : Nat)), IVal.v (Value.slice none (0 : Nat) (0 : Nat)), IVal.v (Value.slice none (0 : Nat) (0 : Nat))], IVal.v (Value.bool false), i64 (ckT holdsP' r now)])))
  (Tree.br (!r.has)
  (Tree.done Exit.ret
  (lret
  (IVal.tup
  [IVal.agg [IVal.v (Value.slice none (0 : Nat) (0 : Nat)), IVal.v (Value.slice none (0 : Nat) (0 : Nat)), IVal.v (Value.slice none (0 : Nat) (0 : Nat))], IVal.v (Value.bool false), IVal.v (Value.int IntKind.i64 (0 : Int))])))
  (Tree.br (decide (IntKind.wrap IntKind.i64 (r.good + IntKind.wrap IntKind.i64 r.timers.expire) ≤ now))
  (Tree.done Exit.ret
  (lret
  (IVal.tup
  [IVal.agg [IVal.v (Value.slice none (0 : Nat) (0 : Nat)), IVal.v (Value.slice none (0 : Nat) (0 : Nat)), IVal.v (Value.slice none (0 : Nat) (0 : Nat))], IVal.v (Value.bool false), IVal.v (Value.int IntKind.i64 (0 : Int))])))
  (Tree.need (ILeL [IVal.agg [slE (6 : Nat) encO r.data.origins, slE (2 : Nat) encT r.data.paths, slE (18 : Nat) encK r.data.keys]] [encL r.data] ∧ ASpec prog (20 : Nat) [encL r.data] (encL r.data))
  (Tree.done Exit.ret (lret (IVal.tup [encL r.data, IVal.v (Value.bool true), IVal.v (Value.int IntKind.i64 (0 : Int))]))))))) := by kernel_rfl
def breakR (h : Payload → Int → Bool) (r : Router) (now : Int) : Router := if ckT h r now = 0 then restR r now else zeroR
theorem brk (h : Payload → Int → Bool) (r : Router) (now : Int) (hc : ¬ ckT h r now = 0) : ILe (.tup [encR zeroR, i64 (ckT h r now)]) (.tup [encR (breakR h r now), i64 (ckT h r now)]) := by
  unfold breakR; rw [if_neg hc]; exact .refl _
theorem zeroR_le : ILe (.agg [u8 0, u8 0, bo false, u16 0, u32 0, .v (.slice none 0 0), .v (.slice none 0 0), .v (.slice none 0 0), u32 0, u32 0, u32 0, i64 0, i64 0, bo false, u16 0, .v (.slice none 0 0), .v (.slice none 0 0), .v (.slice none 0 0)]) (encR zeroR) := rnil_le _ _ _ _ _ _ _ _ _ _ _ _
theorem c11 (r : Router) (now : Int) (hr : r.ok) : ASpec prog 11 [encR r, i64 now] (.tup [encR (breakR holdsP' r now), i64 (ckT holdsP' r now)]) := by
  refine ASpec.treeW Proofs.Try.f11 (T11 r now) (by kernel_rfl) (by kernel_rfl) (t11 r now) ?_
  refine ⟨⟨ILeL.refl _, c27 _ _ ?_⟩, fun _ => ⟨fun h1 => ⟨_, rfl, ?_⟩, fun h1 => ⟨⟨ILeL.refl _, c28 _ _ ?_⟩, fun _ => ⟨_, rfl, ?_⟩⟩⟩⟩
  all_goals (first | exact hr | skip)
  · simp only [Bool.not_eq_true', decide_eq_false_iff_not] at h1
    unfold breakR; rw [if_neg h1]; exact .tup (.cons zeroR_le (.refl _))
  · simp only [Bool.not_eq_false', decide_eq_true_eq] at h1
    unfold breakR; rw [if_pos h1, h1]; exact .refl _
theorem c10 (r : Router) (now : Int) (hr : r.ok) : ASpec prog 10 [encR r, i64 now] (.tup [encR (breakR holdsP r now), i64 (ckT holdsP r now)]) := by
  refine ASpec.treeW Proofs.Try.f10 (T10 r now) (by kernel_rfl) (by kernel_rfl) (t10 r now) ?_
  refine ⟨⟨ILeL.refl _, c23 _ _ ?_⟩, fun _ => ⟨fun h1 => ⟨_, rfl, ?_⟩, fun h1 => ⟨⟨ILeL.refl _, c24 _ ?_⟩, fun _ => ⟨⟨ILeL.refl _, c26 _ _⟩, fun _ => ⟨_, rfl, ?_⟩⟩⟩⟩⟩
  all_goals (first | exact hr | skip)
  · simp only [Bool.not_eq_true', decide_eq_false_iff_not] at h1
    unfold breakR; rw [if_neg h1]; exact .tup (.cons zeroR_le (.refl _))
  · simp only [Bool.not_eq_false', decide_eq_true_eq] at h1
    unfold breakR; rw [if_pos h1, h1]; exact .refl _
end Gp
