/- Part 6 of the walk and of the plain law of ClientTicks. -/
import Derived.Test.YtdbdfblneaokjaaW5

set_option maxRecDepth 100000
set_option maxHeartbeats 0
set_option linter.unusedVariables false
set_option linter.unusedSimpArgs false
open Go Go.Abs
namespace Gp
theorem ckT_ok {h : Payload → Int → Bool} {r : Router} {now : Int} (hc : ckT h r now = 0) : 0 ≤ r.good ∧ r.good ≤ now ∧ now ≤ 1099511627776 ∧ 1 ≤ r.timers.expire ∧ r.timers.expire ≤ 1048576 ∧ 1 ≤ r.timers.retry ∧ r.timers.retry ≤ 1048576 ∧ 0 ≤ r.next := by
  unfold ckT at hc
  split at hc
  · rename_i hk
    split at hc
    · rename_i hg
      simp only [okR, baseB, timedB, Bool.and_eq_true, decide_eq_true_eq] at hk
      omega
    · cases hc
  · cases hc
def viewP (h : Payload → Int → Bool) (r : Router) (now : Int) : Payload := if ckT h r now = 0 ∧ r.has = true ∧ oldB r now = false then r.data else noP
def viewB (h : Payload → Int → Bool) (r : Router) (now : Int) : Bool := decide (ckT h r now = 0) && r.has && !oldB r now
theorem c12 (r : Router) (now : Int) (hr : r.ok) : ASpec prog 12 [encR r, i64 now] (.tup [encL (viewP holdsP r now), bo (viewB holdsP r now), i64 (ckT holdsP r now)]) := by
  refine ASpec.treeW Proofs.Try.f12 (T12 r now) (by kernel_rfl) (by kernel_rfl) (t12 r now) ?_
  refine ⟨⟨ILeL.refl _, c23 _ _ ?_⟩, fun _ => ⟨fun h1 => ⟨_, rfl, ?_⟩, fun h1 => ⟨fun h2 => ⟨_, rfl, ?_⟩, fun h2 => ⟨⟨ILeL.refl _, c25 _ _ ?_ ?_⟩, fun _ => ⟨fun h3 => ⟨_, rfl, ?_⟩, fun h3 => ⟨⟨ILeL.refl _, c29 _ ?_⟩, fun _ => ⟨_, rfl, ?_⟩⟩⟩⟩⟩⟩⟩
  all_goals (first | exact hr | exact hr.d | skip)
  all_goals simp only [Bool.not_eq_true', Bool.not_eq_false', decide_eq_true_eq, decide_eq_false_iff_not] at *
  · rw [show viewP holdsP r now = noP from by simp [viewP, h1], show viewB holdsP r now = false from by simp [viewB, h1]]
    exact .tup (.cons nil_le (.refl _))
  · rw [show viewP holdsP r now = noP from by simp [viewP, h2], show viewB holdsP r now = false from by simp [viewB, h2], h1]
    exact .tup (.cons nil_le (.refl _))
  · have := ckT_ok h1; omega
  · have := ckT_ok h1; omega
  · rw [show viewP holdsP r now = noP from by simp [viewP, h3], show viewB holdsP r now = false from by simp [viewB, h3], h1]
    exact .tup (.cons nil_le (.refl _))
  · rw [show viewP holdsP r now = r.data from by simp [viewP, h1, h2, h3], show viewB holdsP r now = true from by simp [viewB, h1, h2, h3], h1]
    exact .refl _
theorem c13 (r : Router) (now : Int) (hr : r.ok) : ASpec prog 13 [encR r, i64 now] (.tup [encL (viewP holdsP' r now), bo (viewB holdsP' r now), i64 (ckT holdsP' r now)]) := by
  refine ASpec.treeW Proofs.Try.f13 (T13 r now) (by kernel_rfl) (by kernel_rfl) (t13 r now) ?_
  refine ⟨⟨ILeL.refl _, c27 _ _ ?_⟩, fun _ => ⟨fun h1 => ⟨_, rfl, ?_⟩, fun h1 => ⟨fun h2 => ⟨_, rfl, ?_⟩, fun h2 => ⟨fun h3 => ⟨_, rfl, ?_⟩, fun h3 => ⟨⟨ILeL.refl _, c20 _ ?_⟩, fun _ => ⟨_, rfl, ?_⟩⟩⟩⟩⟩⟩
  all_goals (first | exact hr | exact hr.d | skip)
  all_goals simp only [Bool.not_eq_true', Bool.not_eq_false', decide_eq_true_eq, decide_eq_false_iff_not] at *
  · rw [show viewP holdsP' r now = noP from by simp [viewP, h1], show viewB holdsP' r now = false from by simp [viewB, h1]]
    exact .tup (.cons nil_le (.refl _))
  · rw [show viewP holdsP' r now = noP from by simp [viewP, h2], show viewB holdsP' r now = false from by simp [viewB, h2], h1]
    exact .tup (.cons nil_le (.refl _))
  all_goals
    have hk := ckT_ok h1
    have e2 : IntKind.i64.wrap r.timers.expire = r.timers.expire := IntWalk.i64_in _ (by omega)
    have e1 : IntKind.i64.wrap (r.good + r.timers.expire) = r.good + r.timers.expire := IntWalk.i64_in _ (by omega)
    rw [e2, e1] at h3
  · have h3 : oldB r now = true := by simp [oldB, h2]; omega
    rw [show viewP holdsP' r now = noP from by simp [viewP, h3], show viewB holdsP' r now = false from by simp [viewB, h3], h1]
    exact .tup (.cons nil_le (.refl _))
  · have h3 : oldB r now = false := by simp [oldB, h2]; omega
    rw [show viewP holdsP' r now = r.data from by simp [viewP, h1, h2, h3], show viewB holdsP' r now = true from by simp [viewB, h1, h2, h3], h1]
    exact .refl _
def T8 (r : Router) (now : Int) : Tell :=
  Tell.mk (fun x x_1 => false) (fun x x_1 => Orc.no) (fun x => Tree.fail (1000003 : Nat) (0 : Nat)) (fun x => (0 : Nat)) (fun x => ([], []))
  (oget
  [((5 : Nat), (1 : Nat), (2 : Nat), Orc.call [encR r, i64 now] (i64 (ckT holdsP r now))), ((11 : Nat), (4 : Nat), (1 : Nat), Orc.call [encR r] (encR r)), ((24 : Nat), (6 : Nat), (2 : Nat), Orc.call [encR r, i64 now] (bo (oldB r now))),
  ((43 : Nat), (10 : Nat), (2 : Nat),
  Orc.call [encR (Router.mk r.version r.state false (0 : Int) (0 : Int) (Payload.mk [] [] []) r.timers (0 : Int) r.next r.full r.heard r.build), i64 now]
  (encR (restR (Router.mk r.version r.state false (0 : Int) (0 : Int) (Payload.mk [] [] []) r.timers (0 : Int) r.next r.full r.heard r.build) now))),
  ((28 : Nat), (10 : Nat), (2 : Nat), Orc.call [encR r, i64 now] (encR (restR r now)))])
  fun x x_1 => Tree.fail (1000003 : Nat) (0 : Nat)
theorem t8 (r : Router) (now : Int) : levF prog Proofs.Try.f8 [encR r, i64 now] (T8 r now) =
  Tree.need (ILeL [encR r, i64 now] [encR r, i64 now] ∧ ASpec prog (23 : Nat) [encR r, i64 now] (i64 (ckT holdsP r now)))
  (Tree.br (!decide (ckT holdsP r now = (0 : Int)))
  (Tree.done Exit.ret
  (lret
  (IVal.tup
  [IVal.agg
  [IVal.v (Value.int IntKind.u8 (0 : Int)), IVal.v (Value.int IntKind.u8 (0 : Int)), IVal.v (Value.bool false), IVal.v (Value.int IntKind.u16 (0 : Int)), IVal.v (Value.int IntKind.u32 (0 : Int)),
  IVal.v (Value.slice none (0 : Nat) (0 : Nat)), IVal.v (Value.slice none (0 : Nat) (0 : Nat)), IVal.v (Value.slice none (0 : Nat) (0 : Nat)), IVal.v (Value.int IntKind.u32 (0 : Int)), IVal.v (Value.int IntKind.u32 (0 : Int)),
  IVal.v (Value.int IntKind.u32 (0 : Int)), IVal.v (Value.int IntKind.i64 (0 : Int)), IVal.v (Value.int IntKind.i64 (0 : Int)), IVal.v (Value.bool false), IVal.v (Value.int IntKind.u16 (0 : Int)),
  IVal.v (Value.slice none (0 : Nat) (0 : Nat)), IVal.v (Value.slice none (0 : Nat) (0 : Nat)), IVal.v (Value.slice none (0 : Nat) (0 : Nat))],
  IVal.v (Value.slice none (0 : Nat) (0 : Nat)), IVal.v (Value.bool false), i64 (ckT holdsP r now)])))
  (Tree.need (ILeL [encR r] [encR r] ∧ ASpec prog (24 : Nat) [encR r] (encR r))
  (Tree.br (!decide (r.state = (0 : Int)))
  (Tree.need (ILeL [encR r, i64 now] [encR r, i64 now] ∧ ASpec prog (25 : Nat) [encR r, i64 now] (bo (oldB r now)))
  (Tree.br (oldB r now)
  (Tree.br (!decide (r.state = (0 : Int)))
  (Tree.need
  (ILeL
  [IVal.agg
  [u8 r.version, u8 r.state, IVal.v (Value.bool false), IVal.v (Value.int IntKind.u16 (0 : Int)), IVal.v (Value.int IntKind.u32 (0 : Int)), IVal.v (Value.slice none (0 : Nat) (0 : Nat)),
  IVal.v (Value.slice none (0 : Nat) (0 : Nat)), IVal.v (Value.slice none (0 : Nat) (0 : Nat)), u32 r.timers.refresh, u32 r.timers.retry, u32 r.timers.expire, IVal.v (Value.int IntKind.i64 (0 : Int)), i64 r.next,
  bo r.full, u16 r.heard, slE (6 : Nat) encO r.build.origins, slE (2 : Nat) encT r.build.paths, slE (18 : Nat) encK r.build.keys],
  i64 now]
  [encR (Router.mk r.version r.state false (0 : Int) (0 : Int) (Payload.mk [] [] []) r.timers (0 : Int) r.next r.full r.heard r.build), i64 now] ∧
  ASpec prog (26 : Nat) [encR (Router.mk r.version r.state false (0 : Int) (0 : Int) (Payload.mk [] [] []) r.timers (0 : Int) r.next r.full r.heard r.build), i64 now]
  (encR (restR (Router.mk r.version r.state false (0 : Int) (0 : Int) (Payload.mk [] [] []) r.timers (0 : Int) r.next r.full r.heard r.build) now)))
  (Tree.done Exit.ret
  (lret
  (IVal.tup
  [encR (restR (Router.mk r.version r.state false (0 : Int) (0 : Int) (Payload.mk [] [] []) r.timers (0 : Int) r.next r.full r.heard r.build) now), IVal.v (Value.slice none (0 : Nat) (0 : Nat)), IVal.v (Value.bool true),
  IVal.v (Value.int IntKind.i64 (0 : Int))]))))
  (Tree.br (!decide (r.state = (0 : Int)))
  (Tree.done Exit.ret
  (lret
  (IVal.tup
  [IVal.agg
  [u8 r.version, u8 r.state, IVal.v (Value.bool false), IVal.v (Value.int IntKind.u16 (0 : Int)), IVal.v (Value.int IntKind.u32 (0 : Int)), IVal.v (Value.slice none (0 : Nat) (0 : Nat)),
  IVal.v (Value.slice none (0 : Nat) (0 : Nat)), IVal.v (Value.slice none (0 : Nat) (0 : Nat)), u32 r.timers.refresh, u32 r.timers.retry, u32 r.timers.expire, IVal.v (Value.int IntKind.i64 (0 : Int)), i64 r.next,
  bo r.full, u16 r.heard, slE (6 : Nat) encO r.build.origins, slE (2 : Nat) encT r.build.paths, slE (18 : Nat) encK r.build.keys],
  IVal.v (Value.slice none (0 : Nat) (0 : Nat)), IVal.v (Value.bool false), IVal.v (Value.int IntKind.i64 (0 : Int))])))
  (Tree.br (decide (now < r.next))
  (Tree.done Exit.ret
  (lret
  (IVal.tup
  [IVal.agg
  [u8 r.version, u8 r.state, IVal.v (Value.bool false), IVal.v (Value.int IntKind.u16 (0 : Int)), IVal.v (Value.int IntKind.u32 (0 : Int)), IVal.v (Value.slice none (0 : Nat) (0 : Nat)),
  IVal.v (Value.slice none (0 : Nat) (0 : Nat)), IVal.v (Value.slice none (0 : Nat) (0 : Nat)), u32 r.timers.refresh, u32 r.timers.retry, u32 r.timers.expire, IVal.v (Value.int IntKind.i64 (0 : Int)), i64 r.next,
  bo r.full, u16 r.heard, slE (6 : Nat) encO r.build.origins, slE (2 : Nat) encT r.build.paths, slE (18 : Nat) encK r.build.keys],
  IVal.v (Value.slice none (0 : Nat) (0 : Nat)), IVal.v (Value.bool false), IVal.v (Value.int IntKind.i64 (0 : Int))])))
  (Tree.br false
  (Tree.need (eqs [((1 : Nat), (1 : Nat))])
  (Tree.done Exit.ret
  (lret
  (IVal.tup
  [IVal.agg
  [u8 r.version, IVal.v (Value.int IntKind.u8 (1 : Int)), IVal.v (Value.bool false), IVal.v (Value.int IntKind.u16 (0 : Int)), IVal.v (Value.int IntKind.u32 (0 : Int)),
  IVal.v (Value.slice none (0 : Nat) (0 : Nat)), IVal.v (Value.slice none (0 : Nat) (0 : Nat)), IVal.v (Value.slice none (0 : Nat) (0 : Nat)), u32 r.timers.refresh, u32 r.timers.retry, u32 r.timers.expire,
  IVal.v (Value.int IntKind.i64 (0 : Int)), IVal.v (Value.int IntKind.i64 (IntKind.wrap IntKind.i64 (now + IntKind.wrap IntKind.i64 r.timers.retry))), bo r.full, u16 r.heard,
  slE (6 : Nat) encO r.build.origins, slE (2 : Nat) encT r.build.paths, slE (18 : Nat) encK r.build.keys],
  IVal.sl true false (37 : Nat)
  [IVal.agg
  [u8 r.version, IVal.v (Value.int IntKind.u8 (1 : Int)), IVal.v (Value.int IntKind.u16 (0 : Int)), IVal.v (Value.int IntKind.u32 (0 : Int)), IVal.v (Value.bool false),
  IVal.v (Value.int IntKind.u32 (0 : Int)), IVal.v (Value.int IntKind.u8 (0 : Int)), IVal.v (Value.int IntKind.u64 (0 : Int)), IVal.v (Value.int IntKind.u64 (0 : Int)),
  IVal.v (Value.int IntKind.i64 (0 : Int)), IVal.v (Value.int IntKind.i64 (0 : Int)), IVal.v (Value.int IntKind.u32 (0 : Int)), IVal.v (Value.slice none (0 : Nat) (0 : Nat)),
  IVal.v (Value.int IntKind.u32 (0 : Int)), IVal.v (Value.int IntKind.u8 (0 : Int)), IVal.v (Value.int IntKind.u8 (0 : Int)), IVal.v (Value.int IntKind.u8 (0 : Int)),
  IVal.v (Value.int IntKind.u8 (0 : Int)), IVal.v (Value.int IntKind.u8 (0 : Int)), IVal.v (Value.int IntKind.u8 (0 : Int)), IVal.v (Value.int IntKind.u8 (0 : Int)),
  IVal.v (Value.int IntKind.u8 (0 : Int)), IVal.v (Value.int IntKind.u8 (0 : Int)), IVal.v (Value.int IntKind.u8 (0 : Int)), IVal.v (Value.int IntKind.u8 (0 : Int)),
  IVal.v (Value.int IntKind.u8 (0 : Int)), IVal.v (Value.int IntKind.u8 (0 : Int)), IVal.v (Value.int IntKind.u8 (0 : Int)), IVal.v (Value.int IntKind.u8 (0 : Int)),
  IVal.v (Value.int IntKind.u8 (0 : Int)), IVal.v (Value.int IntKind.i64 (0 : Int)), IVal.v (Value.int IntKind.u32 (0 : Int)), IVal.v (Value.int IntKind.u32 (0 : Int)),
  IVal.v (Value.int IntKind.u32 (0 : Int)), IVal.v (Value.int IntKind.u16 (0 : Int)), IVal.v (Value.slice none (0 : Nat) (0 : Nat)), IVal.v (Value.string (ByteArray.mk (Array.mk [])))]],
  IVal.v (Value.bool false), IVal.v (Value.int IntKind.i64 (0 : Int))]))))
  (Tree.need (eqs [((1 : Nat), (1 : Nat))])
  (Tree.done Exit.ret
  (lret
  (IVal.tup
  [IVal.agg
  [u8 r.version, IVal.v (Value.int IntKind.u8 (1 : Int)), IVal.v (Value.bool false), IVal.v (Value.int IntKind.u16 (0 : Int)), IVal.v (Value.int IntKind.u32 (0 : Int)),
  IVal.v (Value.slice none (0 : Nat) (0 : Nat)), IVal.v (Value.slice none (0 : Nat) (0 : Nat)), IVal.v (Value.slice none (0 : Nat) (0 : Nat)), u32 r.timers.refresh, u32 r.timers.retry, u32 r.timers.expire,
  IVal.v (Value.int IntKind.i64 (0 : Int)), IVal.v (Value.int IntKind.i64 (IntKind.wrap IntKind.i64 (now + IntKind.wrap IntKind.i64 r.timers.retry))), IVal.v (Value.bool true), u16 r.heard,
  slE (6 : Nat) encO r.build.origins, slE (2 : Nat) encT r.build.paths, slE (18 : Nat) encK r.build.keys],
  IVal.sl true false (37 : Nat)
  [IVal.agg
  [u8 r.version, IVal.v (Value.int IntKind.u8 (2 : Int)), IVal.v (Value.int IntKind.u16 (0 : Int)), IVal.v (Value.int IntKind.u32 (0 : Int)), IVal.v (Value.bool false),
  IVal.v (Value.int IntKind.u32 (0 : Int)), IVal.v (Value.int IntKind.u8 (0 : Int)), IVal.v (Value.int IntKind.u64 (0 : Int)), IVal.v (Value.int IntKind.u64 (0 : Int)),
  IVal.v (Value.int IntKind.i64 (0 : Int)), IVal.v (Value.int IntKind.i64 (0 : Int)), IVal.v (Value.int IntKind.u32 (0 : Int)), IVal.v (Value.slice none (0 : Nat) (0 : Nat)),
  IVal.v (Value.int IntKind.u32 (0 : Int)), IVal.v (Value.int IntKind.u8 (0 : Int)), IVal.v (Value.int IntKind.u8 (0 : Int)), IVal.v (Value.int IntKind.u8 (0 : Int)),
  IVal.v (Value.int IntKind.u8 (0 : Int)), IVal.v (Value.int IntKind.u8 (0 : Int)), IVal.v (Value.int IntKind.u8 (0 : Int)), IVal.v (Value.int IntKind.u8 (0 : Int)),
  IVal.v (Value.int IntKind.u8 (0 : Int)), IVal.v (Value.int IntKind.u8 (0 : Int)), IVal.v (Value.int IntKind.u8 (0 : Int)), IVal.v (Value.int IntKind.u8 (0 : Int)),
  IVal.v (Value.int IntKind.u8 (0 : Int)), IVal.v (Value.int IntKind.u8 (0 : Int)), IVal.v (Value.int IntKind.u8 (0 : Int)), IVal.v (Value.int IntKind.u8 (0 : Int)),
  IVal.v (Value.int IntKind.u8 (0 : Int)), IVal.v (Value.int IntKind.i64 (0 : Int)), IVal.v (Value.int IntKind.u32 (0 : Int)), IVal.v (Value.int IntKind.u32 (0 : Int)),
  IVal.v (Value.int IntKind.u32 (0 : Int)), IVal.v (Value.int IntKind.u16 (0 : Int)), IVal.v (Value.slice none (0 : Nat) (0 : Nat)), IVal.v (Value.string (ByteArray.mk (Array.mk [])))]],
  IVal.v (Value.bool false), IVal.v (Value.int IntKind.i64 (0 : Int))]))))))))
  (Tree.br (decide (r.next ≤ now))
  (Tree.need (ILeL [encR r, i64 now] [encR r, i64 now] ∧ ASpec prog (26 : Nat) [encR r, i64 now] (encR (restR r now)))
  (Tree.done Exit.ret (lret (IVal.tup [encR (restR r now), IVal.v (Value.slice none (0 : Nat) (0 : Nat)), IVal.v (Value.bool true), IVal.v (Value.int IntKind.i64 (0 : Int))]))))
  (Tree.br (!decide (r.state = (0 : Int))) (Tree.done Exit.ret (lret (IVal.tup [encR r, IVal.v (Value.slice none (0 : Nat) (0 : Nat)), IVal.v (Value.bool false), IVal.v (Value.int IntKind.i64 (0 : Int))])))
  (Tree.br (decide (now < r.next)) (Tree.done Exit.ret (lret (IVal.tup [encR r, IVal.v (Value.slice none (0 : Nat) (0 : Nat)), IVal.v (Value.bool false), IVal.v (Value.int IntKind.i64 (0 : Int))])))
  (Tree.br r.has
  (Tree.need (eqs [((1 : Nat), (1 : Nat))])
  (Tree.done Exit.ret
  (lret
  (IVal.tup
  [IVal.agg
  [u8 r.version, IVal.v (Value.int IntKind.u8 (1 : Int)), bo r.has, u16 r.session, u32 r.serial, slE (6 : Nat) encO r.data.origins, slE (2 : Nat) encT r.data.paths, slE (18 : Nat) encK r.data.keys,
  u32 r.timers.refresh, u32 r.timers.retry, u32 r.timers.expire, i64 r.good, IVal.v (Value.int IntKind.i64 (IntKind.wrap IntKind.i64 (now + IntKind.wrap IntKind.i64 r.timers.retry))), bo r.full, u16 r.heard,
  slE (6 : Nat) encO r.build.origins, slE (2 : Nat) encT r.build.paths, slE (18 : Nat) encK r.build.keys],
  IVal.sl true false (37 : Nat)
  [IVal.agg
  [u8 r.version, IVal.v (Value.int IntKind.u8 (1 : Int)), u16 r.session, u32 r.serial, IVal.v (Value.bool false), IVal.v (Value.int IntKind.u32 (0 : Int)), IVal.v (Value.int IntKind.u8 (0 : Int)),
  IVal.v (Value.int IntKind.u64 (0 : Int)), IVal.v (Value.int IntKind.u64 (0 : Int)), IVal.v (Value.int IntKind.i64 (0 : Int)), IVal.v (Value.int IntKind.i64 (0 : Int)),
  IVal.v (Value.int IntKind.u32 (0 : Int)), IVal.v (Value.slice none (0 : Nat) (0 : Nat)), IVal.v (Value.int IntKind.u32 (0 : Int)), IVal.v (Value.int IntKind.u8 (0 : Int)),
  IVal.v (Value.int IntKind.u8 (0 : Int)), IVal.v (Value.int IntKind.u8 (0 : Int)), IVal.v (Value.int IntKind.u8 (0 : Int)), IVal.v (Value.int IntKind.u8 (0 : Int)),
  IVal.v (Value.int IntKind.u8 (0 : Int)), IVal.v (Value.int IntKind.u8 (0 : Int)), IVal.v (Value.int IntKind.u8 (0 : Int)), IVal.v (Value.int IntKind.u8 (0 : Int)),
  IVal.v (Value.int IntKind.u8 (0 : Int)), IVal.v (Value.int IntKind.u8 (0 : Int)), IVal.v (Value.int IntKind.u8 (0 : Int)), IVal.v (Value.int IntKind.u8 (0 : Int)),
  IVal.v (Value.int IntKind.u8 (0 : Int)), IVal.v (Value.int IntKind.u8 (0 : Int)), IVal.v (Value.int IntKind.u8 (0 : Int)), IVal.v (Value.int IntKind.i64 (0 : Int)),
  IVal.v (Value.int IntKind.u32 (0 : Int)), IVal.v (Value.int IntKind.u32 (0 : Int)), IVal.v (Value.int IntKind.u32 (0 : Int)), IVal.v (Value.int IntKind.u16 (0 : Int)),
  IVal.v (Value.slice none (0 : Nat) (0 : Nat)), IVal.v (Value.string (ByteArray.mk (Array.mk [])))]],
  IVal.v (Value.bool false), IVal.v (Value.int IntKind.i64 (0 : Int))]))))
  (Tree.need (eqs [((1 : Nat), (1 : Nat))])
  (Tree.done Exit.ret
  (lret
  (IVal.tup
  [IVal.agg
  [u8 r.version, IVal.v (Value.int IntKind.u8 (1 : Int)), bo r.has, u16 r.session, u32 r.serial, slE (6 : Nat) encO r.data.origins, slE (2 : Nat) encT r.data.paths, slE (18 : Nat) encK r.data.keys,
  u32 r.timers.refresh, u32 r.timers.retry, u32 r.timers.expire, i64 r.good, IVal.v (Value.int IntKind.i64 (IntKind.wrap IntKind.i64 (now + IntKind.wrap IntKind.i64 r.timers.retry))),
  IVal.v (Value.bool true), u16 r.heard, slE (6 : Nat) encO r.build.origins, slE (2 : Nat) encT r.build.paths, slE (18 : Nat) encK r.build.keys],
  IVal.sl true false (37 : Nat)
  [IVal.agg
  [u8 r.version, IVal.v (Value.int IntKind.u8 (2 : Int)), IVal.v (Value.int IntKind.u16 (0 : Int)), IVal.v (Value.int IntKind.u32 (0 : Int)), IVal.v (Value.bool false),
  IVal.v (Value.int IntKind.u32 (0 : Int)), IVal.v (Value.int IntKind.u8 (0 : Int)), IVal.v (Value.int IntKind.u64 (0 : Int)), IVal.v (Value.int IntKind.u64 (0 : Int)),
  IVal.v (Value.int IntKind.i64 (0 : Int)), IVal.v (Value.int IntKind.i64 (0 : Int)), IVal.v (Value.int IntKind.u32 (0 : Int)), IVal.v (Value.slice none (0 : Nat) (0 : Nat)),
  IVal.v (Value.int IntKind.u32 (0 : Int)), IVal.v (Value.int IntKind.u8 (0 : Int)), IVal.v (Value.int IntKind.u8 (0 : Int)), IVal.v (Value.int IntKind.u8 (0 : Int)),
  IVal.v (Value.int IntKind.u8 (0 : Int)), IVal.v (Value.int IntKind.u8 (0 : Int)), IVal.v (Value.int IntKind.u8 (0 : Int)), IVal.v (Value.int IntKind.u8 (0 : Int)),
  IVal.v (Value.int IntKind.u8 (0 : Int)), IVal.v (Value.int IntKind.u8 (0 : Int)), IVal.v (Value.int IntKind.u8 (0 : Int)), IVal.v (Value.int IntKind.u8 (0 : Int)),
  IVal.v (Value.int IntKind.u8 (0 : Int)), IVal.v (Value.int IntKind.u8 (0 : Int)), IVal.v (Value.int IntKind.u8 (0 : Int)), IVal.v (Value.int IntKind.u8 (0 : Int)),
  IVal.v (Value.int IntKind.u8 (0 : Int)), IVal.v (Value.int IntKind.i64 (0 : Int)), IVal.v (Value.int IntKind.u32 (0 : Int)), IVal.v (Value.int IntKind.u32 (0 : Int)),
  IVal.v (Value.int IntKind.u32 (0 : Int)), IVal.v (Value.int IntKind.u16 (0 : Int)), IVal.v (Value.slice none (0 : Nat) (0 : Nat)), IVal.v (Value.string (ByteArray.mk (Array.mk [])))]],
  IVal.v (Value.bool false), IVal.v (Value.int IntKind.i64 (0 : Int))]))))))))))
  (Tree.need (ILeL [encR r, i64 now] [encR r, i64 now] ∧ ASpec prog (25 : Nat) [encR r, i64 now] (bo (oldB r now)))
  (Tree.br (oldB r now)
  (Tree.br (!decide (r.state = (0 : Int)))
  (Tree.need
  (ILeL
  [IVal.agg
  [u8 r.version, u8 r.state, IVal.v (Value.bool false), IVal.v (Value.int IntKind.u16 (0 : Int)), IVal.v (Value.int IntKind.u32 (0 : Int)), IVal.v (Value.slice none (0 : Nat) (0 : Nat)),
  IVal.v (Value.slice none (0 : Nat) (0 : Nat)), IVal.v (Value.slice none (0 : Nat) (0 : Nat)), u32 r.timers.refresh, u32 r.timers.retry, u32 r.timers.expire, IVal.v (Value.int IntKind.i64 (0 : Int)), i64 r.next,
  bo r.full, u16 r.heard, slE (6 : Nat) encO r.build.origins, slE (2 : Nat) encT r.build.paths, slE (18 : Nat) encK r.build.keys],
  i64 now]
  [encR (Router.mk r.version r.state false (0 : Int) (0 : Int) (Payload.mk [] [] []) r.timers (0 : Int) r.next r.full r.heard r.build), i64 now] ∧
  ASpec prog (26 : Nat) [encR (Router.mk r.version r.state false (0 : Int) (0 : Int) (Payload.mk [] [] []) r.timers (0 : Int) r.next r.full r.heard r.build), i64 now]
  (encR (restR (Router.mk r.version r.state false (0 : Int) (0 : Int) (Payload.mk [] [] []) r.timers (0 : Int) r.next r.full r.heard r.build) now)))
  (Tree.done Exit.ret
  (lret
  (IVal.tup
  [encR (restR (Router.mk r.version r.state false (0 : Int) (0 : Int) (Payload.mk [] [] []) r.timers (0 : Int) r.next r.full r.heard r.build) now), IVal.v (Value.slice none (0 : Nat) (0 : Nat)), IVal.v (Value.bool true),
  IVal.v (Value.int IntKind.i64 (0 : Int))]))))
  (Tree.br (!decide (r.state = (0 : Int)))
  (Tree.done Exit.ret
  (lret
  (IVal.tup
  [IVal.agg
  [u8 r.version, u8 r.state, IVal.v (Value.bool false), IVal.v (Value.int IntKind.u16 (0 : Int)), IVal.v (Value.int IntKind.u32 (0 : Int)), IVal.v (Value.slice none (0 : Nat) (0 : Nat)),
  IVal.v (Value.slice none (0 : Nat) (0 : Nat)), IVal.v (Value.slice none (0 : Nat) (0 : Nat)), u32 r.timers.refresh, u32 r.timers.retry, u32 r.timers.expire, IVal.v (Value.int IntKind.i64 (0 : Int)), i64 r.next,
  bo r.full, u16 r.heard, slE (6 : Nat) encO r.build.origins, slE (2 : Nat) encT r.build.paths, slE (18 : Nat) encK r.build.keys],
  IVal.v (Value.slice none (0 : Nat) (0 : Nat)), IVal.v (Value.bool false), IVal.v (Value.int IntKind.i64 (0 : Int))])))
  (Tree.br (decide (now < r.next))
  (Tree.done Exit.ret
  (lret
  (IVal.tup
  [IVal.agg
  [u8 r.version, u8 r.state, IVal.v (Value.bool false), IVal.v (Value.int IntKind.u16 (0 : Int)), IVal.v (Value.int IntKind.u32 (0 : Int)), IVal.v (Value.slice none (0 : Nat) (0 : Nat)),
  IVal.v (Value.slice none (0 : Nat) (0 : Nat)), IVal.v (Value.slice none (0 : Nat) (0 : Nat)), u32 r.timers.refresh, u32 r.timers.retry, u32 r.timers.expire, IVal.v (Value.int IntKind.i64 (0 : Int)), i64 r.next,
  bo r.full, u16 r.heard, slE (6 : Nat) encO r.build.origins, slE (2 : Nat) encT r.build.paths, slE (18 : Nat) encK r.build.keys],
  IVal.v (Value.slice none (0 : Nat) (0 : Nat)), IVal.v (Value.bool false), IVal.v (Value.int IntKind.i64 (0 : Int))])))
  (Tree.br false
  (Tree.need (eqs [((1 : Nat), (1 : Nat))])
  (Tree.done Exit.ret
  (lret
  (IVal.tup
  [IVal.agg
  [u8 r.version, IVal.v (Value.int IntKind.u8 (1 : Int)), IVal.v (Value.bool false), IVal.v (Value.int IntKind.u16 (0 : Int)), IVal.v (Value.int IntKind.u32 (0 : Int)),
  IVal.v (Value.slice none (0 : Nat) (0 : Nat)), IVal.v (Value.slice none (0 : Nat) (0 : Nat)), IVal.v (Value.slice none (0 : Nat) (0 : Nat)), u32 r.timers.refresh, u32 r.timers.retry, u32 r.timers.expire,
  IVal.v (Value.int IntKind.i64 (0 : Int)), IVal.v (Value.int IntKind.i64 (IntKind.wrap IntKind.i64 (now + IntKind.wrap IntKind.i64 r.timers.retry))), bo r.full, u16 r.heard,
  slE (6 : Nat) encO r.build.origins, slE (2 : Nat) encT r.build.paths, slE (18 : Nat) encK r.build.keys],
  IVal.sl true false (37 : Nat)
  [IVal.agg
  [u8 r.version, IVal.v (Value.int IntKind.u8 (1 : Int)), IVal.v (Value.int IntKind.u16 (0 : Int)), IVal.v (Value.int IntKind.u32 (0 : Int)), IVal.v (Value.bool false),
  IVal.v (Value.int IntKind.u32 (0 : Int)), IVal.v (Value.int IntKind.u8 (0 : Int)), IVal.v (Value.int IntKind.u64 (0 : Int)), IVal.v (Value.int IntKind.u64 (0 : Int)),
  IVal.v (Value.int IntKind.i64 (0 : Int)), IVal.v (Value.int IntKind.i64 (0 : Int)), IVal.v (Value.int IntKind.u32 (0 : Int)), IVal.v (Value.slice none (0 : Nat) (0 : Nat)),
  IVal.v (Value.int IntKind.u32 (0 : Int)), IVal.v (Value.int IntKind.u8 (0 : Int)), IVal.v (Value.int IntKind.u8 (0 : Int)), IVal.v (Value.int IntKind.u8 (0 : Int)),
  IVal.v (Value.int IntKind.u8 (0 : Int)), IVal.v (Value.int IntKind.u8 (0 : Int)), IVal.v (Value.int IntKind.u8 (0 : Int)), IVal.v (Value.int IntKind.u8 (0 : Int)),
  IVal.v (Value.int IntKind.u8 (0 : Int)), IVal.v (Value.int IntKind.u8 (0 : Int)), IVal.v (Value.int IntKind.u8 (0 : Int)), IVal.v (Value.int IntKind.u8 (0 : Int)),
  IVal.v (Value.int IntKind.u8 (0 : Int)), IVal.v (Value.int IntKind.u8 (0 : Int)), IVal.v (Value.int IntKind.u8 (0 : Int)), IVal.v (Value.int IntKind.u8 (0 : Int)),
  IVal.v (Value.int IntKind.u8 (0 : Int)), IVal.v (Value.int IntKind.i64 (0 : Int)), IVal.v (Value.int IntKind.u32 (0 : Int)), IVal.v (Value.int IntKind.u32 (0 : Int)),
  IVal.v (Value.int IntKind.u32 (0 : Int)), IVal.v (Value.int IntKind.u16 (0 : Int)), IVal.v (Value.slice none (0 : Nat) (0 : Nat)), IVal.v (Value.string (ByteArray.mk (Array.mk [])))]],
  IVal.v (Value.bool false), IVal.v (Value.int IntKind.i64 (0 : Int))]))))
  (Tree.need (eqs [((1 : Nat), (1 : Nat))])
  (Tree.done Exit.ret
  (lret
  (IVal.tup
  [IVal.agg
  [u8 r.version, IVal.v (Value.int IntKind.u8 (1 : Int)), IVal.v (Value.bool false), IVal.v (Value.int IntKind.u16 (0 : Int)), IVal.v (Value.int IntKind.u32 (0 : Int)),
  IVal.v (Value.slice none (0 : Nat) (0 : Nat)), IVal.v (Value.slice none (0 : Nat) (0 : Nat)), IVal.v (Value.slice none (0 : Nat) (0 : Nat)), u32 r.timers.refresh, u32 r.timers.retry, u32 r.timers.expire,
  IVal.v (Value.int IntKind.i64 (0 : Int)), IVal.v (Value.int IntKind.i64 (IntKind.wrap IntKind.i64 (now + IntKind.wrap IntKind.i64 r.timers.retry))), IVal.v (Value.bool true), u16 r.heard,
  slE (6 : Nat) encO r.build.origins, slE (2 : Nat) encT r.build.paths, slE (18 : Nat) encK r.build.keys],
  IVal.sl true false (37 : Nat)
  [IVal.agg
  [u8 r.version, IVal.v (Value.int IntKind.u8 (2 : Int)), IVal.v (Value.int IntKind.u16 (0 : Int)), IVal.v (Value.int IntKind.u32 (0 : Int)), IVal.v (Value.bool false),
  IVal.v (Value.int IntKind.u32 (0 : Int)), IVal.v (Value.int IntKind.u8 (0 : Int)), IVal.v (Value.int IntKind.u64 (0 : Int)), IVal.v (Value.int IntKind.u64 (0 : Int)),
  IVal.v (Value.int IntKind.i64 (0 : Int)), IVal.v (Value.int IntKind.i64 (0 : Int)), IVal.v (Value.int IntKind.u32 (0 : Int)), IVal.v (Value.slice none (0 : Nat) (0 : Nat)),
  IVal.v (Value.int IntKind.u32 (0 : Int)), IVal.v (Value.int IntKind.u8 (0 : Int)), IVal.v (Value.int IntKind.u8 (0 : Int)), IVal.v (Value.int IntKind.u8 (0 : Int)),
  IVal.v (Value.int IntKind.u8 (0 : Int)), IVal.v (Value.int IntKind.u8 (0 : Int)), IVal.v (Value.int IntKind.u8 (0 : Int)), IVal.v (Value.int IntKind.u8 (0 : Int)),
  IVal.v (Value.int IntKind.u8 (0 : Int)), IVal.v (Value.int IntKind.u8 (0 : Int)), IVal.v (Value.int IntKind.u8 (0 : Int)), IVal.v (Value.int IntKind.u8 (0 : Int)),
  IVal.v (Value.int IntKind.u8 (0 : Int)), IVal.v (Value.int IntKind.u8 (0 : Int)), IVal.v (Value.int IntKind.u8 (0 : Int)), IVal.v (Value.int IntKind.u8 (0 : Int)),
  IVal.v (Value.int IntKind.u8 (0 : Int)), IVal.v (Value.int IntKind.i64 (0 : Int)), IVal.v (Value.int IntKind.u32 (0 : Int)), IVal.v (Value.int IntKind.u32 (0 : Int)),
  IVal.v (Value.int IntKind.u32 (0 : Int)), IVal.v (Value.int IntKind.u16 (0 : Int)), IVal.v (Value.slice none (0 : Nat) (0 : Nat)), IVal.v (Value.string (ByteArray.mk (Array.mk [])))]],
  IVal.v (Value.bool false), IVal.v (Value.int IntKind.i64 (0 : Int))]))))))))
  (Tree.br (!decide (r.state = (0 : Int))) (Tree.done Exit.ret (lret (IVal.tup [encR r, IVal.v (Value.slice none (0 : Nat) (0 : Nat)), IVal.v (Value.bool false), IVal.v (Value.int IntKind.i64 (0 : Int))])))
  (Tree.br (decide (now < r.next)) (Tree.done Exit.ret (lret (IVal.tup [encR r, IVal.v (Value.slice none (0 : Nat) (0 : Nat)), IVal.v (Value.bool false), IVal.v (Value.int IntKind.i64 (0 : Int))])))
  (Tree.br r.has
  (Tree.need (eqs [((1 : Nat), (1 : Nat))])
  (Tree.done Exit.ret
  (lret
  (IVal.tup
  [IVal.agg
  [u8 r.version, IVal.v (Value.int IntKind.u8 (1 : Int)), bo r.has, u16 r.session, u32 r.serial, slE (6 : Nat) encO r.data.origins, slE (2 : Nat) encT r.data.paths, slE (18 : Nat) encK r.data.keys,
  u32 r.timers.refresh, u32 r.timers.retry, u32 r.timers.expire, i64 r.good, IVal.v (Value.int IntKind.i64 (IntKind.wrap IntKind.i64 (now + IntKind.wrap IntKind.i64 r.timers.retry))), bo r.full, u16 r.heard,
  slE (6 : Nat) encO r.build.origins, slE (2 : Nat) encT r.build.paths, slE (18 : Nat) encK r.build.keys],
  IVal.sl true false (37 : Nat)
  [IVal.agg
  [u8 r.version, IVal.v (Value.int IntKind.u8 (1 : Int)), u16 r.session, u32 r.serial, IVal.v (Value.bool false), IVal.v (Value.int IntKind.u32 (0 : Int)), IVal.v (Value.int IntKind.u8 (0 : Int)),
  IVal.v (Value.int IntKind.u64 (0 : Int)), IVal.v (Value.int IntKind.u64 (0 : Int)), IVal.v (Value.int IntKind.i64 (0 : Int)), IVal.v (Value.int IntKind.i64 (0 : Int)),
  IVal.v (Value.int IntKind.u32 (0 : Int)), IVal.v (Value.slice none (0 : Nat) (0 : Nat)), IVal.v (Value.int IntKind.u32 (0 : Int)), IVal.v (Value.int IntKind.u8 (0 : Int)),
  IVal.v (Value.int IntKind.u8 (0 : Int)), IVal.v (Value.int IntKind.u8 (0 : Int)), IVal.v (Value.int IntKind.u8 (0 : Int)), IVal.v (Value.int IntKind.u8 (0 : Int)), IVal.v (Value.int IntKind.u8 (0 : Int)),
  IVal.v (Value.int IntKind.u8 (0 : Int)), IVal.v (Value.int IntKind.u8 (0 : Int)), IVal.v (Value.int IntKind.u8 (0 : Int)), IVal.v (Value.int IntKind.u8 (0 : Int)), IVal.v (Value.int IntKind.u8 (0 : Int)),
  IVal.v (Value.int IntKind.u8 (0 : Int)), IVal.v (Value.int IntKind.u8 (0 : Int)), IVal.v (Value.int IntKind.u8 (0 : Int)), IVal.v (Value.int IntKind.u8 (0 : Int)), IVal.v (Value.int IntKind.u8 (0 : Int)),
  IVal.v (Value.int IntKind.i64 (0 : Int)), IVal.v (Value.int IntKind.u32 (0 : Int)), IVal.v (Value.int IntKind.u32 (0 : Int)), IVal.v (Value.int IntKind.u32 (0 : Int)),
  IVal.v (Value.int IntKind.u16 (0 : Int)), IVal.v (Value.slice none (0 : Nat) (0 : Nat)), IVal.v (Value.string (ByteArray.mk (Array.mk [])))]],
  IVal.v (Value.bool false), IVal.v (Value.int IntKind.i64 (0 : Int))]))))
  (Tree.need (eqs [((1 : Nat), (1 : Nat))])
  (Tree.done Exit.ret
  (lret
  (IVal.tup
  [IVal.agg
  [u8 r.version, IVal.v (Value.int IntKind.u8 (1 : Int)), bo r.has, u16 r.session, u32 r.serial, slE (6 : Nat) encO r.data.origins, slE (2 : Nat) encT r.data.paths, slE (18 : Nat) encK r.data.keys,
  u32 r.timers.refresh, u32 r.timers.retry, u32 r.timers.expire, i64 r.good, IVal.v (Value.int IntKind.i64 (IntKind.wrap IntKind.i64 (now + IntKind.wrap IntKind.i64 r.timers.retry))), IVal.v (Value.bool true),
  u16 r.heard, slE (6 : Nat) encO r.build.origins, slE (2 : Nat) encT r.build.paths, slE (18 : Nat) encK r.build.keys],
  IVal.sl true false (37 : Nat)
  [IVal.agg
  [u8 r.version, IVal.v (Value.int IntKind.u8 (2 : Int)), IVal.v (Value.int IntKind.u16 (0 : Int)), IVal.v (Value.int IntKind.u32 (0 : Int)), IVal.v (Value.bool false),
  IVal.v (Value.int IntKind.u32 (0 : Int)), IVal.v (Value.int IntKind.u8 (0 : Int)), IVal.v (Value.int IntKind.u64 (0 : Int)), IVal.v (Value.int IntKind.u64 (0 : Int)),
  IVal.v (Value.int IntKind.i64 (0 : Int)), IVal.v (Value.int IntKind.i64 (0 : Int)), IVal.v (Value.int IntKind.u32 (0 : Int)), IVal.v (Value.slice none (0 : Nat) (0 : Nat)),
  IVal.v (Value.int IntKind.u32 (0 : Int)), IVal.v (Value.int IntKind.u8 (0 : Int)), IVal.v (Value.int IntKind.u8 (0 : Int)), IVal.v (Value.int IntKind.u8 (0 : Int)),
  IVal.v (Value.int IntKind.u8 (0 : Int)), IVal.v (Value.int IntKind.u8 (0 : Int)), IVal.v (Value.int IntKind.u8 (0 : Int)), IVal.v (Value.int IntKind.u8 (0 : Int)), IVal.v (Value.int IntKind.u8 (0 : Int)),
  IVal.v (Value.int IntKind.u8 (0 : Int)), IVal.v (Value.int IntKind.u8 (0 : Int)), IVal.v (Value.int IntKind.u8 (0 : Int)), IVal.v (Value.int IntKind.u8 (0 : Int)), IVal.v (Value.int IntKind.u8 (0 : Int)),
  IVal.v (Value.int IntKind.u8 (0 : Int)), IVal.v (Value.int IntKind.u8 (0 : Int)), IVal.v (Value.int IntKind.u8 (0 : Int)), IVal.v (Value.int IntKind.i64 (0 : Int)),
  IVal.v (Value.int IntKind.u32 (0 : Int)), IVal.v (Value.int IntKind.u32 (0 : Int)), IVal.v (Value.int IntKind.u32 (0 : Int)), IVal.v (Value.int IntKind.u16 (0 : Int)),
  IVal.v (Value.slice none (0 : Nat) (0 : Nat)), IVal.v (Value.string (ByteArray.mk (Array.mk [])))]],
  IVal.v (Value.bool false), IVal.v (Value.int IntKind.i64 (0 : Int))])))))))))))) := by kernel_rfl
def T9 (r : Router) (now : Int) : Tell :=
  Tell.mk (fun x x_1 => false) (fun x x_1 => Orc.no) (fun x => Tree.fail (1000003 : Nat) (0 : Nat)) (fun x => (0 : Nat)) (fun x => ([], []))
  (oget
  [((5 : Nat), (1 : Nat), (2 : Nat), Orc.call [encR r, i64 now] (i64 (ckT holdsP' r now))), ((11 : Nat), (4 : Nat), (1 : Nat), Orc.call [encR r] (encR r)),
  ((42 : Nat), (12 : Nat), (2 : Nat),
  Orc.call [encR (Router.mk r.version r.state false (0 : Int) (0 : Int) (Payload.mk [] [] []) r.timers (0 : Int) r.next r.full r.heard r.build), i64 now]
  (encR (restR (Router.mk r.version r.state false (0 : Int) (0 : Int) (Payload.mk [] [] []) r.timers (0 : Int) r.next r.full r.heard r.build) now))),
  ((51 : Nat), (14 : Nat), (2 : Nat),
  Orc.call [encR (Router.mk r.version r.state false (0 : Int) (0 : Int) (Payload.mk [] [] []) r.timers (0 : Int) r.next r.full r.heard r.build), i64 now]
  (encR (restR (Router.mk r.version r.state false (0 : Int) (0 : Int) (Payload.mk [] [] []) r.timers (0 : Int) r.next r.full r.heard r.build) now))),
  ((37 : Nat), (14 : Nat), (2 : Nat), Orc.call [encR r, i64 now] (encR (restR r now)))])
  fun x x_1 => Tree.fail (1000003 : Nat) (0 : Nat)
theorem t9 (r : Router) (now : Int) : levF prog Proofs.Try.f9 [encR r, i64 now] (T9 r now) =
  Tree.need (ILeL [encR r, i64 now] [encR r, i64 now] ∧ ASpec prog (27 : Nat) [encR r, i64 now] (i64 (ckT holdsP' r now)))
  (Tree.br (!decide (ckT holdsP' r now = (0 : Int)))
  (Tree.done Exit.ret
  (lret
  (IVal.tup
  [IVal.agg
  [IVal.v (Value.int IntKind.u8 (0 : Int)), IVal.v (Value.int IntKind.u8 (0 : Int)), IVal.v (Value.bool false), IVal.v (Value.int IntKind.u16 (0 : Int)), IVal.v (Value.int IntKind.u32 (0 : Int)),
  IVal.v (Value.slice none (0 : Nat) (0 : Nat)), IVal.v (Value.slice none (0 : Nat) (0 : Nat)), IVal.v (Value.slice none (0 : Nat) (0 : Nat)), IVal.v (Value.int IntKind.u32 (0 : Int)), IVal.v (Value.int IntKind.u32 (0 : Int)),
  IVal.v (Value.int IntKind.u32 (0 : Int)), IVal.v (Value.int IntKind.i64 (0 : Int)), IVal.v (Value.int IntKind.i64 (0 : Int)), IVal.v (Value.bool false), IVal.v (Value.int IntKind.u16 (0 : Int)),
  IVal.v (Value.slice none (0 : Nat) (0 : Nat)), IVal.v (Value.slice none (0 : Nat) (0 : Nat)), IVal.v (Value.slice none (0 : Nat) (0 : Nat))],
  IVal.v (Value.slice none (0 : Nat) (0 : Nat)), IVal.v (Value.bool false), i64 (ckT holdsP' r now)])))
  (Tree.need (ILeL [encR r] [encR r] ∧ ASpec prog (5 : Nat) [encR r] (encR r))
  (Tree.br r.has
  (Tree.br (decide (IntKind.wrap IntKind.i64 (r.good + IntKind.wrap IntKind.i64 r.timers.expire) ≤ now))
  (Tree.br (!decide (r.state = (0 : Int)))
  (Tree.need
  (ILeL
  [IVal.agg
  [u8 r.version, u8 r.state, IVal.v (Value.bool false), IVal.v (Value.int IntKind.u16 (0 : Int)), IVal.v (Value.int IntKind.u32 (0 : Int)), IVal.v (Value.slice none (0 : Nat) (0 : Nat)),
  IVal.v (Value.slice none (0 : Nat) (0 : Nat)), IVal.v (Value.slice none (0 : Nat) (0 : Nat)), u32 r.timers.refresh, u32 r.timers.retry, u32 r.timers.expire, IVal.v (Value.int IntKind.i64 (0 : Int)), i64 r.next,
  bo r.full, u16 r.heard, slE (6 : Nat) encO r.build.origins, slE (2 : Nat) encT r.build.paths, slE (18 : Nat) encK r.build.keys],
  i64 now]
  [encR (Router.mk r.version r.state false (0 : Int) (0 : Int) (Payload.mk [] [] []) r.timers (0 : Int) r.next r.full r.heard r.build), i64 now] ∧
  ASpec prog (28 : Nat) [encR (Router.mk r.version r.state false (0 : Int) (0 : Int) (Payload.mk [] [] []) r.timers (0 : Int) r.next r.full r.heard r.build), i64 now]
  (encR (restR (Router.mk r.version r.state false (0 : Int) (0 : Int) (Payload.mk [] [] []) r.timers (0 : Int) r.next r.full r.heard r.build) now)))
  (Tree.done Exit.ret
  (lret
  (IVal.tup
  [encR (restR (Router.mk r.version r.state false (0 : Int) (0 : Int) (Payload.mk [] [] []) r.timers (0 : Int) r.next r.full r.heard r.build) now), IVal.v (Value.slice none (0 : Nat) (0 : Nat)), IVal.v (Value.bool true),
  IVal.v (Value.int IntKind.i64 (0 : Int))]))))
  (Tree.br (!decide (r.state = (0 : Int)))
  (Tree.br (decide (r.next ≤ now))
  (Tree.need
  (ILeL
  [IVal.agg
  [u8 r.version, u8 r.state, IVal.v (Value.bool false), IVal.v (Value.int IntKind.u16 (0 : Int)), IVal.v (Value.int IntKind.u32 (0 : Int)), IVal.v (Value.slice none (0 : Nat) (0 : Nat)),
  IVal.v (Value.slice none (0 : Nat) (0 : Nat)), IVal.v (Value.slice none (0 : Nat) (0 : Nat)), u32 r.timers.refresh, u32 r.timers.retry, u32 r.timers.expire, IVal.v (Value.int IntKind.i64 (0 : Int)), i64 r.next,
  bo r.full, u16 r.heard, slE (6 : Nat) encO r.build.origins, slE (2 : Nat) encT r.build.paths, slE (18 : Nat) encK r.build.keys],
  i64 now]
  [encR (Router.mk r.version r.state false (0 : Int) (0 : Int) (Payload.mk [] [] []) r.timers (0 : Int) r.next r.full r.heard r.build), i64 now] ∧
  ASpec prog (28 : Nat) [encR (Router.mk r.version r.state false (0 : Int) (0 : Int) (Payload.mk [] [] []) r.timers (0 : Int) r.next r.full r.heard r.build), i64 now]
  (encR (restR (Router.mk r.version r.state false (0 : Int) (0 : Int) (Payload.mk [] [] []) r.timers (0 : Int) r.next r.full r.heard r.build) now)))
  (Tree.done Exit.ret
  (lret
  (IVal.tup
  [encR (restR (Router.mk r.version r.state false (0 : Int) (0 : Int) (Payload.mk [] [] []) r.timers (0 : Int) r.next r.full r.heard r.build) now), IVal.v (Value.slice none (0 : Nat) (0 : Nat)),
  IVal.v (Value.bool true), IVal.v (Value.int IntKind.i64 (0 : Int))]))))
  (Tree.br (!decide (r.state = (0 : Int)))
  (Tree.done Exit.ret
  (lret
  (IVal.tup
  [IVal.agg
  [u8 r.version, u8 r.state, IVal.v (Value.bool false), IVal.v (Value.int IntKind.u16 (0 : Int)), IVal.v (Value.int IntKind.u32 (0 : Int)), IVal.v (Value.slice none (0 : Nat) (0 : Nat)),
  IVal.v (Value.slice none (0 : Nat) (0 : Nat)), IVal.v (Value.slice none (0 : Nat) (0 : Nat)), u32 r.timers.refresh, u32 r.timers.retry, u32 r.timers.expire, IVal.v (Value.int IntKind.i64 (0 : Int)), i64 r.next,
  bo r.full, u16 r.heard, slE (6 : Nat) encO r.build.origins, slE (2 : Nat) encT r.build.paths, slE (18 : Nat) encK r.build.keys],
  IVal.v (Value.slice none (0 : Nat) (0 : Nat)), IVal.v (Value.bool false), IVal.v (Value.int IntKind.i64 (0 : Int))])))
  (Tree.br (decide (now < r.next))
  (Tree.done Exit.ret
  (lret
  (IVal.tup
  [IVal.agg
  [u8 r.version, u8 r.state, IVal.v (Value.bool false), IVal.v (Value.int IntKind.u16 (0 : Int)), IVal.v (Value.int IntKind.u32 (0 : Int)), IVal.v (Value.slice none (0 : Nat) (0 : Nat)),
  IVal.v (Value.slice none (0 : Nat) (0 : Nat)), IVal.v (Value.slice none (0 : Nat) (0 : Nat)), u32 r.timers.refresh, u32 r.timers.retry, u32 r.timers.expire, IVal.v (Value.int IntKind.i64 (0 : Int)),
  i64 r.next, bo r.full, u16 r.heard, slE (6 : Nat) encO r.build.origins, slE (2 : Nat) encT r.build.paths, slE (18 : Nat) encK r.build.keys],
  IVal.v (Value.slice none (0 : Nat) (0 : Nat)), IVal.v (Value.bool false), IVal.v (Value.int IntKind.i64 (0 : Int))])))
  (Tree.br true
  (Tree.need (eqs [((1 : Nat), (1 : Nat))])
  (Tree.done Exit.ret
  (lret
  (IVal.tup
  [IVal.agg
  [u8 r.version, IVal.v (Value.int IntKind.u8 (1 : Int)), IVal.v (Value.bool false), IVal.v (Value.int IntKind.u16 (0 : Int)), IVal.v (Value.int IntKind.u32 (0 : Int)),
  IVal.v (Value.slice none (0 : Nat) (0 : Nat)), IVal.v (Value.slice none (0 : Nat) (0 : Nat)), IVal.v (Value.slice none (0 : Nat) (0 : Nat)), u32 r.timers.refresh, u32 r.timers.retry, u32 r.timers.expire,
  IVal.v (Value.int IntKind.i64 (0 : Int)), IVal.v (Value.int IntKind.i64 (IntKind.wrap IntKind.i64 (now + IntKind.wrap IntKind.i64 r.timers.retry))), IVal.v (Value.bool true), u16 r.heard,
  slE (6 : Nat) encO r.build.origins, slE (2 : Nat) encT r.build.paths, slE (18 : Nat) encK r.build.keys],
  IVal.sl true false (37 : Nat)
  [IVal.agg
  [u8 r.version, IVal.v (Value.int IntKind.u8 (2 : Int)), IVal.v (Value.int IntKind.u16 (0 : Int)), IVal.v (Value.int IntKind.u32 (0 : Int)), IVal.v (Value.bool false),
  IVal.v (Value.int IntKind.u32 (0 : Int)), IVal.v (Value.int IntKind.u8 (0 : Int)), IVal.v (Value.int IntKind.u64 (0 : Int)), IVal.v (Value.int IntKind.u64 (0 : Int)),
  IVal.v (Value.int IntKind.i64 (0 : Int)), IVal.v (Value.int IntKind.i64 (0 : Int)), IVal.v (Value.int IntKind.u32 (0 : Int)), IVal.v (Value.slice none (0 : Nat) (0 : Nat)),
  IVal.v (Value.int IntKind.u32 (0 : Int)), IVal.v (Value.int IntKind.u8 (0 : Int)), IVal.v (Value.int IntKind.u8 (0 : Int)), IVal.v (Value.int IntKind.u8 (0 : Int)),
  IVal.v (Value.int IntKind.u8 (0 : Int)), IVal.v (Value.int IntKind.u8 (0 : Int)), IVal.v (Value.int IntKind.u8 (0 : Int)), IVal.v (Value.int IntKind.u8 (0 : Int)),
  IVal.v (Value.int IntKind.u8 (0 : Int)), IVal.v (Value.int IntKind.u8 (0 : Int)), IVal.v (Value.int IntKind.u8 (0 : Int)), IVal.v (Value.int IntKind.u8 (0 : Int)),
  IVal.v (Value.int IntKind.u8 (0 : Int)), IVal.v (Value.int IntKind.u8 (0 : Int)), IVal.v (Value.int IntKind.u8 (0 : Int)), IVal.v (Value.int IntKind.u8 (0 : Int)),
  IVal.v (Value.int IntKind.u8 (0 : Int)), IVal.v (Value.int IntKind.i64 (0 : Int)), IVal.v (Value.int IntKind.u32 (0 : Int)), IVal.v (Value.int IntKind.u32 (0 : Int)),
  IVal.v (Value.int IntKind.u32 (0 : Int)), IVal.v (Value.int IntKind.u16 (0 : Int)), IVal.v (Value.slice none (0 : Nat) (0 : Nat)), IVal.v (Value.string (ByteArray.mk (Array.mk [])))]],
  IVal.v (Value.bool false), IVal.v (Value.int IntKind.i64 (0 : Int))]))))
  (Tree.need (eqs [((1 : Nat), (1 : Nat))])
  (Tree.done Exit.ret
  (lret
  (IVal.tup
  [IVal.agg
  [u8 r.version, IVal.v (Value.int IntKind.u8 (1 : Int)), IVal.v (Value.bool false), IVal.v (Value.int IntKind.u16 (0 : Int)), IVal.v (Value.int IntKind.u32 (0 : Int)),
  IVal.v (Value.slice none (0 : Nat) (0 : Nat)), IVal.v (Value.slice none (0 : Nat) (0 : Nat)), IVal.v (Value.slice none (0 : Nat) (0 : Nat)), u32 r.timers.refresh, u32 r.timers.retry, u32 r.timers.expire,
  IVal.v (Value.int IntKind.i64 (0 : Int)), IVal.v (Value.int IntKind.i64 (IntKind.wrap IntKind.i64 (now + IntKind.wrap IntKind.i64 r.timers.retry))), bo r.full, u16 r.heard,
  slE (6 : Nat) encO r.build.origins, slE (2 : Nat) encT r.build.paths, slE (18 : Nat) encK r.build.keys],
  IVal.sl true false (37 : Nat)
  [IVal.agg
  [u8 r.version, IVal.v (Value.int IntKind.u8 (1 : Int)), IVal.v (Value.int IntKind.u16 (0 : Int)), IVal.v (Value.int IntKind.u32 (0 : Int)), IVal.v (Value.bool false),
  IVal.v (Value.int IntKind.u32 (0 : Int)), IVal.v (Value.int IntKind.u8 (0 : Int)), IVal.v (Value.int IntKind.u64 (0 : Int)), IVal.v (Value.int IntKind.u64 (0 : Int)),
  IVal.v (Value.int IntKind.i64 (0 : Int)), IVal.v (Value.int IntKind.i64 (0 : Int)), IVal.v (Value.int IntKind.u32 (0 : Int)), IVal.v (Value.slice none (0 : Nat) (0 : Nat)),
  IVal.v (Value.int IntKind.u32 (0 : Int)), IVal.v (Value.int IntKind.u8 (0 : Int)), IVal.v (Value.int IntKind.u8 (0 : Int)), IVal.v (Value.int IntKind.u8 (0 : Int)),
  IVal.v (Value.int IntKind.u8 (0 : Int)), IVal.v (Value.int IntKind.u8 (0 : Int)), IVal.v (Value.int IntKind.u8 (0 : Int)), IVal.v (Value.int IntKind.u8 (0 : Int)),
  IVal.v (Value.int IntKind.u8 (0 : Int)), IVal.v (Value.int IntKind.u8 (0 : Int)), IVal.v (Value.int IntKind.u8 (0 : Int)), IVal.v (Value.int IntKind.u8 (0 : Int)),
  IVal.v (Value.int IntKind.u8 (0 : Int)), IVal.v (Value.int IntKind.u8 (0 : Int)), IVal.v (Value.int IntKind.u8 (0 : Int)), IVal.v (Value.int IntKind.u8 (0 : Int)),
  IVal.v (Value.int IntKind.u8 (0 : Int)), IVal.v (Value.int IntKind.i64 (0 : Int)), IVal.v (Value.int IntKind.u32 (0 : Int)), IVal.v (Value.int IntKind.u32 (0 : Int)),
  IVal.v (Value.int IntKind.u32 (0 : Int)), IVal.v (Value.int IntKind.u16 (0 : Int)), IVal.v (Value.slice none (0 : Nat) (0 : Nat)), IVal.v (Value.string (ByteArray.mk (Array.mk [])))]],
  IVal.v (Value.bool false), IVal.v (Value.int IntKind.i64 (0 : Int))]))))))))
  (Tree.br (!decide (r.state = (0 : Int)))
  (Tree.done Exit.ret
  (lret
  (IVal.tup
  [IVal.agg
  [u8 r.version, u8 r.state, IVal.v (Value.bool false), IVal.v (Value.int IntKind.u16 (0 : Int)), IVal.v (Value.int IntKind.u32 (0 : Int)), IVal.v (Value.slice none (0 : Nat) (0 : Nat)),
  IVal.v (Value.slice none (0 : Nat) (0 : Nat)), IVal.v (Value.slice none (0 : Nat) (0 : Nat)), u32 r.timers.refresh, u32 r.timers.retry, u32 r.timers.expire, IVal.v (Value.int IntKind.i64 (0 : Int)), i64 r.next,
  bo r.full, u16 r.heard, slE (6 : Nat) encO r.build.origins, slE (2 : Nat) encT r.build.paths, slE (18 : Nat) encK r.build.keys],
  IVal.v (Value.slice none (0 : Nat) (0 : Nat)), IVal.v (Value.bool false), IVal.v (Value.int IntKind.i64 (0 : Int))])))
  (Tree.br (decide (now < r.next))
  (Tree.done Exit.ret
  (lret
  (IVal.tup
  [IVal.agg
  [u8 r.version, u8 r.state, IVal.v (Value.bool false), IVal.v (Value.int IntKind.u16 (0 : Int)), IVal.v (Value.int IntKind.u32 (0 : Int)), IVal.v (Value.slice none (0 : Nat) (0 : Nat)),
  IVal.v (Value.slice none (0 : Nat) (0 : Nat)), IVal.v (Value.slice none (0 : Nat) (0 : Nat)), u32 r.timers.refresh, u32 r.timers.retry, u32 r.timers.expire, IVal.v (Value.int IntKind.i64 (0 : Int)), i64 r.next,
  bo r.full, u16 r.heard, slE (6 : Nat) encO r.build.origins, slE (2 : Nat) encT r.build.paths, slE (18 : Nat) encK r.build.keys],
  IVal.v (Value.slice none (0 : Nat) (0 : Nat)), IVal.v (Value.bool false), IVal.v (Value.int IntKind.i64 (0 : Int))])))
  (Tree.br true
  (Tree.need (eqs [((1 : Nat), (1 : Nat))])
  (Tree.done Exit.ret
  (lret
  (IVal.tup
  [IVal.agg
  [u8 r.version, IVal.v (Value.int IntKind.u8 (1 : Int)), IVal.v (Value.bool false), IVal.v (Value.int IntKind.u16 (0 : Int)), IVal.v (Value.int IntKind.u32 (0 : Int)),
  IVal.v (Value.slice none (0 : Nat) (0 : Nat)), IVal.v (Value.slice none (0 : Nat) (0 : Nat)), IVal.v (Value.slice none (0 : Nat) (0 : Nat)), u32 r.timers.refresh, u32 r.timers.retry, u32 r.timers.expire,
  IVal.v (Value.int IntKind.i64 (0 : Int)), IVal.v (Value.int IntKind.i64 (IntKind.wrap IntKind.i64 (now + IntKind.wrap IntKind.i64 r.timers.retry))), IVal.v (Value.bool true), u16 r.heard,
  slE (6 : Nat) encO r.build.origins, slE (2 : Nat) encT r.build.paths, slE (18 : Nat) encK r.build.keys],
  IVal.sl true false (37 : Nat)
  [IVal.agg
  [u8 r.version, IVal.v (Value.int IntKind.u8 (2 : Int)), IVal.v (Value.int IntKind.u16 (0 : Int)), IVal.v (Value.int IntKind.u32 (0 : Int)), IVal.v (Value.bool false),
  IVal.v (Value.int IntKind.u32 (0 : Int)), IVal.v (Value.int IntKind.u8 (0 : Int)), IVal.v (Value.int IntKind.u64 (0 : Int)), IVal.v (Value.int IntKind.u64 (0 : Int)),
  IVal.v (Value.int IntKind.i64 (0 : Int)), IVal.v (Value.int IntKind.i64 (0 : Int)), IVal.v (Value.int IntKind.u32 (0 : Int)), IVal.v (Value.slice none (0 : Nat) (0 : Nat)),
  IVal.v (Value.int IntKind.u32 (0 : Int)), IVal.v (Value.int IntKind.u8 (0 : Int)), IVal.v (Value.int IntKind.u8 (0 : Int)), IVal.v (Value.int IntKind.u8 (0 : Int)),
  IVal.v (Value.int IntKind.u8 (0 : Int)), IVal.v (Value.int IntKind.u8 (0 : Int)), IVal.v (Value.int IntKind.u8 (0 : Int)), IVal.v (Value.int IntKind.u8 (0 : Int)),
  IVal.v (Value.int IntKind.u8 (0 : Int)), IVal.v (Value.int IntKind.u8 (0 : Int)), IVal.v (Value.int IntKind.u8 (0 : Int)), IVal.v (Value.int IntKind.u8 (0 : Int)),
  IVal.v (Value.int IntKind.u8 (0 : Int)), IVal.v (Value.int IntKind.u8 (0 : Int)), IVal.v (Value.int IntKind.u8 (0 : Int)), IVal.v (Value.int IntKind.u8 (0 : Int)),
  IVal.v (Value.int IntKind.u8 (0 : Int)), IVal.v (Value.int IntKind.i64 (0 : Int)), IVal.v (Value.int IntKind.u32 (0 : Int)), IVal.v (Value.int IntKind.u32 (0 : Int)),
  IVal.v (Value.int IntKind.u32 (0 : Int)), IVal.v (Value.int IntKind.u16 (0 : Int)), IVal.v (Value.slice none (0 : Nat) (0 : Nat)), IVal.v (Value.string (ByteArray.mk (Array.mk [])))]],
  IVal.v (Value.bool false), IVal.v (Value.int IntKind.i64 (0 : Int))]))))
  (Tree.need (eqs [((1 : Nat), (1 : Nat))])
  (Tree.done Exit.ret
  (lret
  (IVal.tup
  [IVal.agg
  [u8 r.version, IVal.v (Value.int IntKind.u8 (1 : Int)), IVal.v (Value.bool false), IVal.v (Value.int IntKind.u16 (0 : Int)), IVal.v (Value.int IntKind.u32 (0 : Int)),
  IVal.v (Value.slice none (0 : Nat) (0 : Nat)), IVal.v (Value.slice none (0 : Nat) (0 : Nat)), IVal.v (Value.slice none (0 : Nat) (0 : Nat)), u32 r.timers.refresh, u32 r.timers.retry, u32 r.timers.expire,
  IVal.v (Value.int IntKind.i64 (0 : Int)), IVal.v (Value.int IntKind.i64 (IntKind.wrap IntKind.i64 (now + IntKind.wrap IntKind.i64 r.timers.retry))), bo r.full, u16 r.heard,
  slE (6 : Nat) encO r.build.origins, slE (2 : Nat) encT r.build.paths, slE (18 : Nat) encK r.build.keys],
  IVal.sl true false (37 : Nat)
  [IVal.agg
  [u8 r.version, IVal.v (Value.int IntKind.u8 (1 : Int)), IVal.v (Value.int IntKind.u16 (0 : Int)), IVal.v (Value.int IntKind.u32 (0 : Int)), IVal.v (Value.bool false),
  IVal.v (Value.int IntKind.u32 (0 : Int)), IVal.v (Value.int IntKind.u8 (0 : Int)), IVal.v (Value.int IntKind.u64 (0 : Int)), IVal.v (Value.int IntKind.u64 (0 : Int)),
  IVal.v (Value.int IntKind.i64 (0 : Int)), IVal.v (Value.int IntKind.i64 (0 : Int)), IVal.v (Value.int IntKind.u32 (0 : Int)), IVal.v (Value.slice none (0 : Nat) (0 : Nat)),
  IVal.v (Value.int IntKind.u32 (0 : Int)), IVal.v (Value.int IntKind.u8 (0 : Int)), IVal.v (Value.int IntKind.u8 (0 : Int)), IVal.v (Value.int IntKind.u8 (0 : Int)),
  IVal.v (Value.int IntKind.u8 (0 : Int)), IVal.v (Value.int IntKind.u8 (0 : Int)), IVal.v (Value.int IntKind.u8 (0 : Int)), IVal.v (Value.int IntKind.u8 (0 : Int)),
  IVal.v (Value.int IntKind.u8 (0 : Int)), IVal.v (Value.int IntKind.u8 (0 : Int)), IVal.v (Value.int IntKind.u8 (0 : Int)), IVal.v (Value.int IntKind.u8 (0 : Int)),
  IVal.v (Value.int IntKind.u8 (0 : Int)), IVal.v (Value.int IntKind.u8 (0 : Int)), IVal.v (Value.int IntKind.u8 (0 : Int)), IVal.v (Value.int IntKind.u8 (0 : Int)),
  IVal.v (Value.int IntKind.u8 (0 : Int)), IVal.v (Value.int IntKind.i64 (0 : Int)), IVal.v (Value.int IntKind.u32 (0 : Int)), IVal.v (Value.int IntKind.u32 (0 : Int)),
  IVal.v (Value.int IntKind.u32 (0 : Int)), IVal.v (Value.int IntKind.u16 (0 : Int)), IVal.v (Value.slice none (0 : Nat) (0 : Nat)), IVal.v (Value.string (ByteArray.mk (Array.mk [])))]],
  IVal.v (Value.bool false), IVal.v (Value.int IntKind.i64 (0 : Int))])))))))))
  (Tree.br (!decide (r.state = (0 : Int)))
  (Tree.br (decide (r.next ≤ now))
  (Tree.need (ILeL [encR r, i64 now] [encR r, i64 now] ∧ ASpec prog (28 : Nat) [encR r, i64 now] (encR (restR r now)))
  (Tree.done Exit.ret (lret (IVal.tup [encR (restR r now), IVal.v (Value.slice none (0 : Nat) (0 : Nat)), IVal.v (Value.bool true), IVal.v (Value.int IntKind.i64 (0 : Int))]))))
  (Tree.br (!decide (r.state = (0 : Int))) (Tree.done Exit.ret (lret (IVal.tup [encR r, IVal.v (Value.slice none (0 : Nat) (0 : Nat)), IVal.v (Value.bool false), IVal.v (Value.int IntKind.i64 (0 : Int))])))
  (Tree.br (decide (now < r.next)) (Tree.done Exit.ret (lret (IVal.tup [encR r, IVal.v (Value.slice none (0 : Nat) (0 : Nat)), IVal.v (Value.bool false), IVal.v (Value.int IntKind.i64 (0 : Int))])))
  (Tree.br (!r.has)
  (Tree.need (eqs [((1 : Nat), (1 : Nat))])
  (Tree.done Exit.ret
  (lret
  (IVal.tup
  [IVal.agg
  [u8 r.version, IVal.v (Value.int IntKind.u8 (1 : Int)), bo r.has, u16 r.session, u32 r.serial, slE (6 : Nat) encO r.data.origins, slE (2 : Nat) encT r.data.paths, slE (18 : Nat) encK r.data.keys,
  u32 r.timers.refresh, u32 r.timers.retry, u32 r.timers.expire, i64 r.good, IVal.v (Value.int IntKind.i64 (IntKind.wrap IntKind.i64 (now + IntKind.wrap IntKind.i64 r.timers.retry))),
  IVal.v (Value.bool true), u16 r.heard, slE (6 : Nat) encO r.build.origins, slE (2 : Nat) encT r.build.paths, slE (18 : Nat) encK r.build.keys],
  IVal.sl true false (37 : Nat)
  [IVal.agg
  [u8 r.version, IVal.v (Value.int IntKind.u8 (2 : Int)), IVal.v (Value.int IntKind.u16 (0 : Int)), IVal.v (Value.int IntKind.u32 (0 : Int)), IVal.v (Value.bool false),
  IVal.v (Value.int IntKind.u32 (0 : Int)), IVal.v (Value.int IntKind.u8 (0 : Int)), IVal.v (Value.int IntKind.u64 (0 : Int)), IVal.v (Value.int IntKind.u64 (0 : Int)),
  IVal.v (Value.int IntKind.i64 (0 : Int)), IVal.v (Value.int IntKind.i64 (0 : Int)), IVal.v (Value.int IntKind.u32 (0 : Int)), IVal.v (Value.slice none (0 : Nat) (0 : Nat)),
  IVal.v (Value.int IntKind.u32 (0 : Int)), IVal.v (Value.int IntKind.u8 (0 : Int)), IVal.v (Value.int IntKind.u8 (0 : Int)), IVal.v (Value.int IntKind.u8 (0 : Int)),
  IVal.v (Value.int IntKind.u8 (0 : Int)), IVal.v (Value.int IntKind.u8 (0 : Int)), IVal.v (Value.int IntKind.u8 (0 : Int)), IVal.v (Value.int IntKind.u8 (0 : Int)),
  IVal.v (Value.int IntKind.u8 (0 : Int)), IVal.v (Value.int IntKind.u8 (0 : Int)), IVal.v (Value.int IntKind.u8 (0 : Int)), IVal.v (Value.int IntKind.u8 (0 : Int)),
  IVal.v (Value.int IntKind.u8 (0 : Int)), IVal.v (Value.int IntKind.u8 (0 : Int)), IVal.v (Value.int IntKind.u8 (0 : Int)), IVal.v (Value.int IntKind.u8 (0 : Int)),
  IVal.v (Value.int IntKind.u8 (0 : Int)), IVal.v (Value.int IntKind.i64 (0 : Int)), IVal.v (Value.int IntKind.u32 (0 : Int)), IVal.v (Value.int IntKind.u32 (0 : Int)),
  IVal.v (Value.int IntKind.u32 (0 : Int)), IVal.v (Value.int IntKind.u16 (0 : Int)), IVal.v (Value.slice none (0 : Nat) (0 : Nat)), IVal.v (Value.string (ByteArray.mk (Array.mk [])))]],
  IVal.v (Value.bool false), IVal.v (Value.int IntKind.i64 (0 : Int))]))))
  (Tree.need (eqs [((1 : Nat), (1 : Nat))])
  (Tree.done Exit.ret
  (lret
  (IVal.tup
  [IVal.agg
  [u8 r.version, IVal.v (Value.int IntKind.u8 (1 : Int)), bo r.has, u16 r.session, u32 r.serial, slE (6 : Nat) encO r.data.origins, slE (2 : Nat) encT r.data.paths, slE (18 : Nat) encK r.data.keys,
  u32 r.timers.refresh, u32 r.timers.retry, u32 r.timers.expire, i64 r.good, IVal.v (Value.int IntKind.i64 (IntKind.wrap IntKind.i64 (now + IntKind.wrap IntKind.i64 r.timers.retry))), bo r.full, u16 r.heard,
  slE (6 : Nat) encO r.build.origins, slE (2 : Nat) encT r.build.paths, slE (18 : Nat) encK r.build.keys],
  IVal.sl true false (37 : Nat)
  [IVal.agg
  [u8 r.version, IVal.v (Value.int IntKind.u8 (1 : Int)), u16 r.session, u32 r.serial, IVal.v (Value.bool false), IVal.v (Value.int IntKind.u32 (0 : Int)), IVal.v (Value.int IntKind.u8 (0 : Int)),
  IVal.v (Value.int IntKind.u64 (0 : Int)), IVal.v (Value.int IntKind.u64 (0 : Int)), IVal.v (Value.int IntKind.i64 (0 : Int)), IVal.v (Value.int IntKind.i64 (0 : Int)),
  IVal.v (Value.int IntKind.u32 (0 : Int)), IVal.v (Value.slice none (0 : Nat) (0 : Nat)), IVal.v (Value.int IntKind.u32 (0 : Int)), IVal.v (Value.int IntKind.u8 (0 : Int)),
  IVal.v (Value.int IntKind.u8 (0 : Int)), IVal.v (Value.int IntKind.u8 (0 : Int)), IVal.v (Value.int IntKind.u8 (0 : Int)), IVal.v (Value.int IntKind.u8 (0 : Int)),
  IVal.v (Value.int IntKind.u8 (0 : Int)), IVal.v (Value.int IntKind.u8 (0 : Int)), IVal.v (Value.int IntKind.u8 (0 : Int)), IVal.v (Value.int IntKind.u8 (0 : Int)),
  IVal.v (Value.int IntKind.u8 (0 : Int)), IVal.v (Value.int IntKind.u8 (0 : Int)), IVal.v (Value.int IntKind.u8 (0 : Int)), IVal.v (Value.int IntKind.u8 (0 : Int)),
  IVal.v (Value.int IntKind.u8 (0 : Int)), IVal.v (Value.int IntKind.u8 (0 : Int)), IVal.v (Value.int IntKind.u8 (0 : Int)), IVal.v (Value.int IntKind.i64 (0 : Int)),
  IVal.v (Value.int IntKind.u32 (0 : Int)), IVal.v (Value.int IntKind.u32 (0 : Int)), IVal.v (Value.int IntKind.u32 (0 : Int)), IVal.v (Value.int IntKind.u16 (0 : Int)),
  IVal.v (Value.slice none (0 : Nat) (0 : Nat)), IVal.v (Value.string (ByteArray.mk (Array.mk [])))]],
  IVal.v (Value.bool false), IVal.v (Value.int IntKind.i64 (0 : Int))]))))))))
  (Tree.br (!decide (r.state = (0 : Int))) (Tree.done Exit.ret (lret (IVal.tup [encR r, IVal.v (Value.slice none (0 : Nat) (0 : Nat)), IVal.v (Value.bool false), IVal.v (Value.int IntKind.i64 (0 : Int))])))
  (Tree.br (decide (now < r.next)) (Tree.done Exit.ret (lret (IVal.tup [encR r, IVal.v (Value.slice none (0 : Nat) (0 : Nat)), IVal.v (Value.bool false), IVal.v (Value.int IntKind.i64 (0 : Int))])))
  (Tree.br (!r.has)
  (Tree.need (eqs [((1 : Nat), (1 : Nat))])
  (Tree.done Exit.ret
  (lret
  (IVal.tup
  [IVal.agg
  [u8 r.version, IVal.v (Value.int IntKind.u8 (1 : Int)), bo r.has, u16 r.session, u32 r.serial, slE (6 : Nat) encO r.data.origins, slE (2 : Nat) encT r.data.paths, slE (18 : Nat) encK r.data.keys,
  u32 r.timers.refresh, u32 r.timers.retry, u32 r.timers.expire, i64 r.good, IVal.v (Value.int IntKind.i64 (IntKind.wrap IntKind.i64 (now + IntKind.wrap IntKind.i64 r.timers.retry))), IVal.v (Value.bool true),
  u16 r.heard, slE (6 : Nat) encO r.build.origins, slE (2 : Nat) encT r.build.paths, slE (18 : Nat) encK r.build.keys],
  IVal.sl true false (37 : Nat)
  [IVal.agg
  [u8 r.version, IVal.v (Value.int IntKind.u8 (2 : Int)), IVal.v (Value.int IntKind.u16 (0 : Int)), IVal.v (Value.int IntKind.u32 (0 : Int)), IVal.v (Value.bool false),
  IVal.v (Value.int IntKind.u32 (0 : Int)), IVal.v (Value.int IntKind.u8 (0 : Int)), IVal.v (Value.int IntKind.u64 (0 : Int)), IVal.v (Value.int IntKind.u64 (0 : Int)),
  IVal.v (Value.int IntKind.i64 (0 : Int)), IVal.v (Value.int IntKind.i64 (0 : Int)), IVal.v (Value.int IntKind.u32 (0 : Int)), IVal.v (Value.slice none (0 : Nat) (0 : Nat)),
  IVal.v (Value.int IntKind.u32 (0 : Int)), IVal.v (Value.int IntKind.u8 (0 : Int)), IVal.v (Value.int IntKind.u8 (0 : Int)), IVal.v (Value.int IntKind.u8 (0 : Int)),
  IVal.v (Value.int IntKind.u8 (0 : Int)), IVal.v (Value.int IntKind.u8 (0 : Int)), IVal.v (Value.int IntKind.u8 (0 : Int)), IVal.v (Value.int IntKind.u8 (0 : Int)), IVal.v (Value.int IntKind.u8 (0 : Int)),
  IVal.v (Value.int IntKind.u8 (0 : Int)), IVal.v (Value.int IntKind.u8 (0 : Int)), IVal.v (Value.int IntKind.u8 (0 : Int)), IVal.v (Value.int IntKind.u8 (0 : Int)), IVal.v (Value.int IntKind.u8 (0 : Int)),
  IVal.v (Value.int IntKind.u8 (0 : Int)), IVal.v (Value.int IntKind.u8 (0 : Int)), IVal.v (Value.int IntKind.u8 (0 : Int)), IVal.v (Value.int IntKind.i64 (0 : Int)),
  IVal.v (Value.int IntKind.u32 (0 : Int)), IVal.v (Value.int IntKind.u32 (0 : Int)), IVal.v (Value.int IntKind.u32 (0 : Int)), IVal.v (Value.int IntKind.u16 (0 : Int)),
  IVal.v (Value.slice none (0 : Nat) (0 : Nat)), IVal.v (Value.string (ByteArray.mk (Array.mk [])))]],
  IVal.v (Value.bool false), IVal.v (Value.int IntKind.i64 (0 : Int))]))))
  (Tree.need (eqs [((1 : Nat), (1 : Nat))])
  (Tree.done Exit.ret
  (lret
  (IVal.tup
  [IVal.agg
  [u8 r.version, IVal.v (Value.int IntKind.u8 (1 : Int)), bo r.has, u16 r.session, u32 r.serial, slE (6 : Nat) encO r.data.origins, slE (2 : Nat) encT r.data.paths, slE (18 : Nat) encK r.data.keys,
  u32 r.timers.refresh, u32 r.timers.retry, u32 r.timers.expire, i64 r.good, IVal.v (Value.int IntKind.i64 (IntKind.wrap IntKind.i64 (now + IntKind.wrap IntKind.i64 r.timers.retry))), bo r.full, u16 r.heard,
  slE (6 : Nat) encO r.build.origins, slE (2 : Nat) encT r.build.paths, slE (18 : Nat) encK r.build.keys],
  IVal.sl true false (37 : Nat)
  [IVal.agg
  [u8 r.version, IVal.v (Value.int IntKind.u8 (1 : Int)), u16 r.session, u32 r.serial, IVal.v (Value.bool false), IVal.v (Value.int IntKind.u32 (0 : Int)), IVal.v (Value.int IntKind.u8 (0 : Int)),
  IVal.v (Value.int IntKind.u64 (0 : Int)), IVal.v (Value.int IntKind.u64 (0 : Int)), IVal.v (Value.int IntKind.i64 (0 : Int)), IVal.v (Value.int IntKind.i64 (0 : Int)),
  IVal.v (Value.int IntKind.u32 (0 : Int)), IVal.v (Value.slice none (0 : Nat) (0 : Nat)), IVal.v (Value.int IntKind.u32 (0 : Int)), IVal.v (Value.int IntKind.u8 (0 : Int)),
  IVal.v (Value.int IntKind.u8 (0 : Int)), IVal.v (Value.int IntKind.u8 (0 : Int)), IVal.v (Value.int IntKind.u8 (0 : Int)), IVal.v (Value.int IntKind.u8 (0 : Int)), IVal.v (Value.int IntKind.u8 (0 : Int)),
  IVal.v (Value.int IntKind.u8 (0 : Int)), IVal.v (Value.int IntKind.u8 (0 : Int)), IVal.v (Value.int IntKind.u8 (0 : Int)), IVal.v (Value.int IntKind.u8 (0 : Int)), IVal.v (Value.int IntKind.u8 (0 : Int)),
  IVal.v (Value.int IntKind.u8 (0 : Int)), IVal.v (Value.int IntKind.u8 (0 : Int)), IVal.v (Value.int IntKind.u8 (0 : Int)), IVal.v (Value.int IntKind.u8 (0 : Int)), IVal.v (Value.int IntKind.u8 (0 : Int)),
  IVal.v (Value.int IntKind.i64 (0 : Int)), IVal.v (Value.int IntKind.u32 (0 : Int)), IVal.v (Value.int IntKind.u32 (0 : Int)), IVal.v (Value.int IntKind.u32 (0 : Int)),
  IVal.v (Value.int IntKind.u16 (0 : Int)), IVal.v (Value.slice none (0 : Nat) (0 : Nat)), IVal.v (Value.string (ByteArray.mk (Array.mk [])))]],
  IVal.v (Value.bool false), IVal.v (Value.int IntKind.i64 (0 : Int))])))))))))
  (Tree.br (!decide (r.state = (0 : Int)))
  (Tree.br (decide (r.next ≤ now))
  (Tree.need (ILeL [encR r, i64 now] [encR r, i64 now] ∧ ASpec prog (28 : Nat) [encR r, i64 now] (encR (restR r now)))
  (Tree.done Exit.ret (lret (IVal.tup [encR (restR r now), IVal.v (Value.slice none (0 : Nat) (0 : Nat)), IVal.v (Value.bool true), IVal.v (Value.int IntKind.i64 (0 : Int))]))))
  (Tree.br (!decide (r.state = (0 : Int))) (Tree.done Exit.ret (lret (IVal.tup [encR r, IVal.v (Value.slice none (0 : Nat) (0 : Nat)), IVal.v (Value.bool false), IVal.v (Value.int IntKind.i64 (0 : Int))])))
  (Tree.br (decide (now < r.next)) (Tree.done Exit.ret (lret (IVal.tup [encR r, IVal.v (Value.slice none (0 : Nat) (0 : Nat)), IVal.v (Value.bool false), IVal.v (Value.int IntKind.i64 (0 : Int))])))
  (Tree.br (!r.has)
  (Tree.need (eqs [((1 : Nat), (1 : Nat))])
  (Tree.done Exit.ret
  (lret
  (IVal.tup
  [IVal.agg
  [u8 r.version, IVal.v (Value.int IntKind.u8 (1 : Int)), bo r.has, u16 r.session, u32 r.serial, slE (6 : Nat) encO r.data.origins, slE (2 : Nat) encT r.data.paths, slE (18 : Nat) encK r.data.keys,
  u32 r.timers.refresh, u32 r.timers.retry, u32 r.timers.expire, i64 r.good, IVal.v (Value.int IntKind.i64 (IntKind.wrap IntKind.i64 (now + IntKind.wrap IntKind.i64 r.timers.retry))), IVal.v (Value.bool true),
  u16 r.heard, slE (6 : Nat) encO r.build.origins, slE (2 : Nat) encT r.build.paths, slE (18 : Nat) encK r.build.keys],
  IVal.sl true false (37 : Nat)
  [IVal.agg
  [u8 r.version, IVal.v (Value.int IntKind.u8 (2 : Int)), IVal.v (Value.int IntKind.u16 (0 : Int)), IVal.v (Value.int IntKind.u32 (0 : Int)), IVal.v (Value.bool false),
  IVal.v (Value.int IntKind.u32 (0 : Int)), IVal.v (Value.int IntKind.u8 (0 : Int)), IVal.v (Value.int IntKind.u64 (0 : Int)), IVal.v (Value.int IntKind.u64 (0 : Int)),
  IVal.v (Value.int IntKind.i64 (0 : Int)), IVal.v (Value.int IntKind.i64 (0 : Int)), IVal.v (Value.int IntKind.u32 (0 : Int)), IVal.v (Value.slice none (0 : Nat) (0 : Nat)),
  IVal.v (Value.int IntKind.u32 (0 : Int)), IVal.v (Value.int IntKind.u8 (0 : Int)), IVal.v (Value.int IntKind.u8 (0 : Int)), IVal.v (Value.int IntKind.u8 (0 : Int)),
  IVal.v (Value.int IntKind.u8 (0 : Int)), IVal.v (Value.int IntKind.u8 (0 : Int)), IVal.v (Value.int IntKind.u8 (0 : Int)), IVal.v (Value.int IntKind.u8 (0 : Int)), IVal.v (Value.int IntKind.u8 (0 : Int)),
  IVal.v (Value.int IntKind.u8 (0 : Int)), IVal.v (Value.int IntKind.u8 (0 : Int)), IVal.v (Value.int IntKind.u8 (0 : Int)), IVal.v (Value.int IntKind.u8 (0 : Int)), IVal.v (Value.int IntKind.u8 (0 : Int)),
  IVal.v (Value.int IntKind.u8 (0 : Int)), IVal.v (Value.int IntKind.u8 (0 : Int)), IVal.v (Value.int IntKind.u8 (0 : Int)), IVal.v (Value.int IntKind.i64 (0 : Int)),
  IVal.v (Value.int IntKind.u32 (0 : Int)), IVal.v (Value.int IntKind.u32 (0 : Int)), IVal.v (Value.int IntKind.u32 (0 : Int)), IVal.v (Value.int IntKind.u16 (0 : Int)),
  IVal.v (Value.slice none (0 : Nat) (0 : Nat)), IVal.v (Value.string (ByteArray.mk (Array.mk [])))]],
  IVal.v (Value.bool false), IVal.v (Value.int IntKind.i64 (0 : Int))]))))
  (Tree.need (eqs [((1 : Nat), (1 : Nat))])
  (Tree.done Exit.ret
  (lret
  (IVal.tup
  [IVal.agg
  [u8 r.version, IVal.v (Value.int IntKind.u8 (1 : Int)), bo r.has, u16 r.session, u32 r.serial, slE (6 : Nat) encO r.data.origins, slE (2 : Nat) encT r.data.paths, slE (18 : Nat) encK r.data.keys,
  u32 r.timers.refresh, u32 r.timers.retry, u32 r.timers.expire, i64 r.good, IVal.v (Value.int IntKind.i64 (IntKind.wrap IntKind.i64 (now + IntKind.wrap IntKind.i64 r.timers.retry))), bo r.full, u16 r.heard,
  slE (6 : Nat) encO r.build.origins, slE (2 : Nat) encT r.build.paths, slE (18 : Nat) encK r.build.keys],
  IVal.sl true false (37 : Nat)
  [IVal.agg
  [u8 r.version, IVal.v (Value.int IntKind.u8 (1 : Int)), u16 r.session, u32 r.serial, IVal.v (Value.bool false), IVal.v (Value.int IntKind.u32 (0 : Int)), IVal.v (Value.int IntKind.u8 (0 : Int)),
  IVal.v (Value.int IntKind.u64 (0 : Int)), IVal.v (Value.int IntKind.u64 (0 : Int)), IVal.v (Value.int IntKind.i64 (0 : Int)), IVal.v (Value.int IntKind.i64 (0 : Int)),
  IVal.v (Value.int IntKind.u32 (0 : Int)), IVal.v (Value.slice none (0 : Nat) (0 : Nat)), IVal.v (Value.int IntKind.u32 (0 : Int)), IVal.v (Value.int IntKind.u8 (0 : Int)),
  IVal.v (Value.int IntKind.u8 (0 : Int)), IVal.v (Value.int IntKind.u8 (0 : Int)), IVal.v (Value.int IntKind.u8 (0 : Int)), IVal.v (Value.int IntKind.u8 (0 : Int)), IVal.v (Value.int IntKind.u8 (0 : Int)),
  IVal.v (Value.int IntKind.u8 (0 : Int)), IVal.v (Value.int IntKind.u8 (0 : Int)), IVal.v (Value.int IntKind.u8 (0 : Int)), IVal.v (Value.int IntKind.u8 (0 : Int)), IVal.v (Value.int IntKind.u8 (0 : Int)),
  IVal.v (Value.int IntKind.u8 (0 : Int)), IVal.v (Value.int IntKind.u8 (0 : Int)), IVal.v (Value.int IntKind.u8 (0 : Int)), IVal.v (Value.int IntKind.u8 (0 : Int)), IVal.v (Value.int IntKind.u8 (0 : Int)),
  IVal.v (Value.int IntKind.i64 (0 : Int)), IVal.v (Value.int IntKind.u32 (0 : Int)), IVal.v (Value.int IntKind.u32 (0 : Int)), IVal.v (Value.int IntKind.u32 (0 : Int)),
  IVal.v (Value.int IntKind.u16 (0 : Int)), IVal.v (Value.slice none (0 : Nat) (0 : Nat)), IVal.v (Value.string (ByteArray.mk (Array.mk [])))]],
  IVal.v (Value.bool false), IVal.v (Value.int IntKind.i64 (0 : Int))]))))))))
  (Tree.br (!decide (r.state = (0 : Int))) (Tree.done Exit.ret (lret (IVal.tup [encR r, IVal.v (Value.slice none (0 : Nat) (0 : Nat)), IVal.v (Value.bool false), IVal.v (Value.int IntKind.i64 (0 : Int))])))
  (Tree.br (decide (now < r.next)) (Tree.done Exit.ret (lret (IVal.tup [encR r, IVal.v (Value.slice none (0 : Nat) (0 : Nat)), IVal.v (Value.bool false), IVal.v (Value.int IntKind.i64 (0 : Int))])))
  (Tree.br (!r.has)
  (Tree.need (eqs [((1 : Nat), (1 : Nat))])
  (Tree.done Exit.ret
  (lret
  (IVal.tup
  [IVal.agg
  [u8 r.version, IVal.v (Value.int IntKind.u8 (1 : Int)), bo r.has, u16 r.session, u32 r.serial, slE (6 : Nat) encO r.data.origins, slE (2 : Nat) encT r.data.paths, slE (18 : Nat) encK r.data.keys,
  u32 r.timers.refresh, u32 r.timers.retry, u32 r.timers.expire, i64 r.good, IVal.v (Value.int IntKind.i64 (IntKind.wrap IntKind.i64 (now + IntKind.wrap IntKind.i64 r.timers.retry))), IVal.v (Value.bool true),
  u16 r.heard, slE (6 : Nat) encO r.build.origins, slE (2 : Nat) encT r.build.paths, slE (18 : Nat) encK r.build.keys],
  IVal.sl true false (37 : Nat)
  [IVal.agg
  [u8 r.version, IVal.v (Value.int IntKind.u8 (2 : Int)), IVal.v (Value.int IntKind.u16 (0 : Int)), IVal.v (Value.int IntKind.u32 (0 : Int)), IVal.v (Value.bool false), IVal.v (Value.int IntKind.u32 (0 : Int)),
  IVal.v (Value.int IntKind.u8 (0 : Int)), IVal.v (Value.int IntKind.u64 (0 : Int)), IVal.v (Value.int IntKind.u64 (0 : Int)), IVal.v (Value.int IntKind.i64 (0 : Int)),
  IVal.v (Value.int IntKind.i64 (0 : Int)), IVal.v (Value.int IntKind.u32 (0 : Int)), IVal.v (Value.slice none (0 : Nat) (0 : Nat)), IVal.v (Value.int IntKind.u32 (0 : Int)),
  IVal.v (Value.int IntKind.u8 (0 : Int)), IVal.v (Value.int IntKind.u8 (0 : Int)), IVal.v (Value.int IntKind.u8 (0 : Int)), IVal.v (Value.int IntKind.u8 (0 : Int)), IVal.v (Value.int IntKind.u8 (0 : Int)),
  IVal.v (Value.int IntKind.u8 (0 : Int)), IVal.v (Value.int IntKind.u8 (0 : Int)), IVal.v (Value.int IntKind.u8 (0 : Int)), IVal.v (Value.int IntKind.u8 (0 : Int)), IVal.v (Value.int IntKind.u8 (0 : Int)),
  IVal.v (Value.int IntKind.u8 (0 : Int)), IVal.v (Value.int IntKind.u8 (0 : Int)), IVal.v (Value.int IntKind.u8 (0 : Int)), IVal.v (Value.int IntKind.u8 (0 : Int)), IVal.v (Value.int IntKind.u8 (0 : Int)),
  IVal.v (Value.int IntKind.u8 (0 : Int)), IVal.v (Value.int IntKind.i64 (0 : Int)), IVal.v (Value.int IntKind.u32 (0 : Int)), IVal.v (Value.int IntKind.u32 (0 : Int)),
  IVal.v (Value.int IntKind.u32 (0 : Int)), IVal.v (Value.int IntKind.u16 (0 : Int)), IVal.v (Value.slice none (0 : Nat) (0 : Nat)), IVal.v (Value.string (ByteArray.mk (Array.mk [])))]],
  IVal.v (Value.bool false), IVal.v (Value.int IntKind.i64 (0 : Int))]))))
  (Tree.need (eqs [((1 : Nat), (1 : Nat))])
  (Tree.done Exit.ret
  (lret
  (IVal.tup
  [IVal.agg
  [u8 r.version, IVal.v (Value.int IntKind.u8 (1 : Int)), bo r.has, u16 r.session, u32 r.serial, slE (6 : Nat) encO r.data.origins, slE (2 : Nat) encT r.data.paths, slE (18 : Nat) encK r.data.keys,
  u32 r.timers.refresh, u32 r.timers.retry, u32 r.timers.expire, i64 r.good, IVal.v (Value.int IntKind.i64 (IntKind.wrap IntKind.i64 (now + IntKind.wrap IntKind.i64 r.timers.retry))), bo r.full, u16 r.heard,
  slE (6 : Nat) encO r.build.origins, slE (2 : Nat) encT r.build.paths, slE (18 : Nat) encK r.build.keys],
  IVal.sl true false (37 : Nat)
  [IVal.agg
  [u8 r.version, IVal.v (Value.int IntKind.u8 (1 : Int)), u16 r.session, u32 r.serial, IVal.v (Value.bool false), IVal.v (Value.int IntKind.u32 (0 : Int)), IVal.v (Value.int IntKind.u8 (0 : Int)),
  IVal.v (Value.int IntKind.u64 (0 : Int)), IVal.v (Value.int IntKind.u64 (0 : Int)), IVal.v (Value.int IntKind.i64 (0 : Int)), IVal.v (Value.int IntKind.i64 (0 : Int)),
  IVal.v (Value.int IntKind.u32 (0 : Int)), IVal.v (Value.slice none (0 : Nat) (0 : Nat)), IVal.v (Value.int IntKind.u32 (0 : Int)), IVal.v (Value.int IntKind.u8 (0 : Int)),
  IVal.v (Value.int IntKind.u8 (0 : Int)), IVal.v (Value.int IntKind.u8 (0 : Int)), IVal.v (Value.int IntKind.u8 (0 : Int)), IVal.v (Value.int IntKind.u8 (0 : Int)), IVal.v (Value.int IntKind.u8 (0 : Int)),
  IVal.v (Value.int IntKind.u8 (0 : Int)), IVal.v (Value.int IntKind.u8 (0 : Int)), IVal.v (Value.int IntKind.u8 (0 : Int)), IVal.v (Value.int IntKind.u8 (0 : Int)), IVal.v (Value.int IntKind.u8 (0 : Int)),
  IVal.v (Value.int IntKind.u8 (0 : Int)), IVal.v (Value.int IntKind.u8 (0 : Int)), IVal.v (Value.int IntKind.u8 (0 : Int)), IVal.v (Value.int IntKind.u8 (0 : Int)), IVal.v (Value.int IntKind.u8 (0 : Int)),
  IVal.v (Value.int IntKind.i64 (0 : Int)), IVal.v (Value.int IntKind.u32 (0 : Int)), IVal.v (Value.int IntKind.u32 (0 : Int)), IVal.v (Value.int IntKind.u32 (0 : Int)),
  IVal.v (Value.int IntKind.u16 (0 : Int)), IVal.v (Value.slice none (0 : Nat) (0 : Nat)), IVal.v (Value.string (ByteArray.mk (Array.mk [])))]],
  IVal.v (Value.bool false), IVal.v (Value.int IntKind.i64 (0 : Int))]))))))))))) := by kernel_rfl
end Gp
