/- Part 7 of the walk and of the plain law of ClientTicks. -/
import Derived.Test.YtdbdfblneaokjaaW6

set_option maxRecDepth 100000
set_option maxHeartbeats 0
set_option linter.unusedVariables false
set_option linter.unusedSimpArgs false
open Go Go.Abs
namespace Gp
def zeroD : Pdu := ⟨0, 0, 0, 0, false, ⟨0, ⟨0, ⟨0, 0⟩, 0⟩, 0⟩, ⟨0, []⟩, ⟨0, Vector.replicate 16 0, 0⟩, 0, 0, 0, 0, [], .empty⟩
def serialD (r : Router) : Pdu := { zeroD with version := r.version, kind := 1, session := r.session, serial := r.serial }
def resetD (r : Router) : Pdu := { zeroD with version := r.version, kind := 2 }
def goneR (r : Router) (now : Int) : Router := if oldB r now = true then { r with has := false, session := 0, serial := 0, good := 0, data := noP } else r
def stopB (r : Router) (now : Int) : Bool := !decide (r.state = 0) && (oldB r now || decide (r.next ≤ now))
def waitB (r : Router) (now : Int) : Bool := !decide (r.state = 0) || decide (now < r.next)
def askR (r : Router) (now : Int) : Router := { r with state := 1, next := now + r.timers.retry, full := r.full || !r.has }
def tickR (h : Payload → Int → Bool) (r : Router) (now : Int) : Router × List Pdu × Bool :=
  if ckT h r now ≠ 0 then (zeroR, [], false)
  else if stopB r now = true then (restR (goneR r now) now, [], true)
  else if waitB r now = true then (goneR r now, [], false)
  else (askR (goneR r now) now, [if (goneR r now).has = true then serialD r else resetD r], false)
def encTick (x : Router × List Pdu × Bool) (e : Int) : IVal := .tup [encR x.1, slE 37 encD x.2.1, bo x.2.2, i64 e]
theorem c8 (r : Router) (now : Int) (hr : r.ok) : ASpec prog 8 [encR r, i64 now] (encTick (tickR holdsP r now) (ckT holdsP r now)) := by
  refine ASpec.treeW Proofs.Try.f8 (T8 r now) (by kernel_rfl) (by kernel_rfl) (t8 r now) ?_
  refine ⟨⟨ILeL.refl _, c23 _ _ ?_⟩, fun _ => ⟨fun h1 => ⟨_, rfl, ?_⟩, fun h1 => ⟨⟨ILeL.refl _, c24 _ ?_⟩, fun _ => ⟨fun h2 => ⟨⟨ILeL.refl _, c25 _ _ ?_ ?_⟩, fun _ => ⟨fun h3 => ⟨fun h4 => ⟨⟨(by repeat' first | exact ILeL.refl _ | exact ILe.refl _ | exact ILe.nil _ _ _ | exact ILe.sl (fun h => by cases h) (fun h => h) (ILeL.refl _) | apply ILeL.cons | apply ILe.agg | apply ILe.tup), c26 _ _⟩, fun _ => ⟨_, rfl, ?_⟩⟩, fun h4 => ⟨fun h5 => ⟨_, rfl, ?_⟩, fun h5 => ⟨fun h6 => ⟨_, rfl, ?_⟩, fun h6 => ⟨fun h => (by cases h), fun _ => ⟨?_, fun _ => ⟨_, rfl, ?_⟩⟩⟩⟩⟩⟩, fun h3 => ⟨fun h4 => ⟨⟨ILeL.refl _, c26 _ _⟩, fun _ => ⟨_, rfl, ?_⟩⟩, fun h4 => ⟨fun h5 => ⟨_, rfl, ?_⟩, fun h5 => ⟨fun h6 => ⟨_, rfl, ?_⟩, fun h6 => ⟨fun h7 => ⟨?_, fun _ => ⟨_, rfl, ?_⟩⟩, fun h7 => ⟨?_, fun _ => ⟨_, rfl, ?_⟩⟩⟩⟩⟩⟩⟩⟩, fun h2 => ⟨⟨ILeL.refl _, c25 _ _ ?_ ?_⟩, fun _ => ⟨fun h3 => ⟨fun h4 => ⟨⟨(by repeat' first | exact ILeL.refl _ | exact ILe.refl _ | exact ILe.nil _ _ _ | exact ILe.sl (fun h => by cases h) (fun h => h) (ILeL.refl _) | apply ILeL.cons | apply ILe.agg | apply ILe.tup), c26 _ _⟩, fun _ => ⟨_, rfl, ?_⟩⟩, fun h4 => ⟨fun h5 => ⟨_, rfl, ?_⟩, fun h5 => ⟨fun h6 => ⟨_, rfl, ?_⟩, fun h6 => ⟨fun h => (by cases h), fun _ => ⟨?_, fun _ => ⟨_, rfl, ?_⟩⟩⟩⟩⟩⟩, fun h3 => ⟨fun h4 => ⟨_, rfl, ?_⟩, fun h4 => ⟨fun h5 => ⟨_, rfl, ?_⟩, fun h5 => ⟨fun h6 => ⟨?_, fun _ => ⟨_, rfl, ?_⟩⟩, fun h6 => ⟨?_, fun _ => ⟨_, rfl, ?_⟩⟩⟩⟩⟩⟩⟩⟩⟩⟩⟩
  all_goals (first | exact hr | skip)
  all_goals simp only [Bool.not_eq_true', Bool.not_eq_false', decide_eq_true_eq, decide_eq_false_iff_not] at *
  all_goals (first | (have := ckT_ok h1; omega) | skip)
  all_goals (first | exact ⟨rfl, trivial⟩ | skip)
  · simp only [encTick, tickR, ne_eq, h1, not_false_eq_true, if_true]
    exact .tup (.cons zeroR_le (.cons (.nil _ _ _) (.refl _)))
  all_goals
    have hk := ckT_ok h1
    have w1 : IntKind.i64.wrap r.timers.retry = r.timers.retry := IntWalk.i64_in _ (by omega)
    have w2 : IntKind.i64.wrap (now + r.timers.retry) = now + r.timers.retry := IntWalk.i64_in _ (by omega)
    try rw [w1, w2]
  all_goals simp only [encTick, tickR, stopB, waitB, goneR, askR, ne_eq, h1, h2, *, not_true_eq_false, not_false_eq_true, if_true, if_false, decide_true, decide_false, Bool.not_true, Bool.not_false, Bool.true_and, Bool.false_and, Bool.true_or, Bool.false_or, Bool.or_true, Bool.or_false, Bool.and_true, Bool.and_false, Bool.false_eq_true, reduceCtorEq]
  all_goals (repeat' first | exact ILeL.refl _ | exact ILe.refl _ | exact ILe.nil _ _ _ | apply ILeL.cons | apply ILe.agg | apply ILe.tup | refine ILe.sl (fun h => by cases h) (fun h => h) ?_)
theorem old_eq {h : Payload → Int → Bool} {r : Router} {now : Int} (hc : ckT h r now = 0) : oldB r now = (r.has && decide (IntKind.i64.wrap (r.good + IntKind.i64.wrap r.timers.expire) ≤ now)) := by
  have hk := ckT_ok hc
  have e2 : IntKind.i64.wrap r.timers.expire = r.timers.expire := IntWalk.i64_in _ (by omega)
  have e1 : IntKind.i64.wrap (r.good + r.timers.expire) = r.good + r.timers.expire := IntWalk.i64_in _ (by omega)
  rw [e2, e1, oldB, show decide (r.timers.expire ≤ now - r.good) = decide (r.good + r.timers.expire ≤ now) from by rw [decide_eq_decide]; omega]
theorem c9 (r : Router) (now : Int) (hr : r.ok) : ASpec prog 9 [encR r, i64 now] (encTick (tickR holdsP' r now) (ckT holdsP' r now)) := by
  refine ASpec.treeW Proofs.Try.f9 (T9 r now) (by kernel_rfl) (by kernel_rfl) (t9 r now) ?_
  refine ⟨⟨ILeL.refl _, c27 _ _ ?_⟩, fun _ => ⟨fun h1 => ⟨_, rfl, ?_⟩, fun h1 => ⟨⟨ILeL.refl _, c5 _ ?_⟩, fun _ => ⟨fun h2 => ⟨fun h3 => ⟨fun h4 => ⟨⟨(by repeat' first | exact ILeL.refl _ | exact ILe.refl _ | exact ILe.nil _ _ _ | exact ILe.sl (fun h => by cases h) (fun h => h) (ILeL.refl _) | apply ILeL.cons | apply ILe.agg | apply ILe.tup), c28 _ _ ?_⟩, fun _ => ⟨_, rfl, ?_⟩⟩, fun h4 => ⟨fun h5 => ⟨fun h6 => ⟨⟨(by repeat' first | exact ILeL.refl _ | exact ILe.refl _ | exact ILe.nil _ _ _ | exact ILe.sl (fun h => by cases h) (fun h => h) (ILeL.refl _) | apply ILeL.cons | apply ILe.agg | apply ILe.tup), c28 _ _ ?_⟩, fun _ => ⟨_, rfl, ?_⟩⟩, fun h6 => ⟨fun h7 => ⟨_, rfl, ?_⟩, fun h7 => ⟨fun h8 => ⟨_, rfl, ?_⟩, fun h8 => ⟨fun _ => ⟨?_, fun _ => ⟨_, rfl, ?_⟩⟩, fun h => (by cases h)⟩⟩⟩⟩, fun h5 => ⟨fun h6 => ⟨_, rfl, ?_⟩, fun h6 => ⟨fun h7 => ⟨_, rfl, ?_⟩, fun h7 => ⟨fun _ => ⟨?_, fun _ => ⟨_, rfl, ?_⟩⟩, fun h => (by cases h)⟩⟩⟩⟩⟩, fun h3 => ⟨fun h4 => ⟨fun h5 => ⟨⟨ILeL.refl _, c28 _ _ ?_⟩, fun _ => ⟨_, rfl, ?_⟩⟩, fun h5 => ⟨fun h6 => ⟨_, rfl, ?_⟩, fun h6 => ⟨fun h7 => ⟨_, rfl, ?_⟩, fun h7 => ⟨fun h8 => ⟨?_, fun _ => ⟨_, rfl, ?_⟩⟩, fun h8 => ⟨?_, fun _ => ⟨_, rfl, ?_⟩⟩⟩⟩⟩⟩, fun h4 => ⟨fun h5 => ⟨_, rfl, ?_⟩, fun h5 => ⟨fun h6 => ⟨_, rfl, ?_⟩, fun h6 => ⟨fun h7 => ⟨?_, fun _ => ⟨_, rfl, ?_⟩⟩, fun h7 => ⟨?_, fun _ => ⟨_, rfl, ?_⟩⟩⟩⟩⟩⟩⟩, fun h2 => ⟨fun h3 => ⟨fun h4 => ⟨⟨ILeL.refl _, c28 _ _ ?_⟩, fun _ => ⟨_, rfl, ?_⟩⟩, fun h4 => ⟨fun h5 => ⟨_, rfl, ?_⟩, fun h5 => ⟨fun h6 => ⟨_, rfl, ?_⟩, fun h6 => ⟨fun h7 => ⟨?_, fun _ => ⟨_, rfl, ?_⟩⟩, fun h7 => ⟨?_, fun _ => ⟨_, rfl, ?_⟩⟩⟩⟩⟩⟩, fun h3 => ⟨fun h4 => ⟨_, rfl, ?_⟩, fun h4 => ⟨fun h5 => ⟨_, rfl, ?_⟩, fun h5 => ⟨fun h6 => ⟨?_, fun _ => ⟨_, rfl, ?_⟩⟩, fun h6 => ⟨?_, fun _ => ⟨_, rfl, ?_⟩⟩⟩⟩⟩⟩⟩⟩⟩⟩
  all_goals (first | exact hr | exact ⟨⟨by simp, by simp, by simp, fun a ha => by cases ha⟩, hr.b⟩ | skip)
  all_goals simp only [Bool.not_eq_true', Bool.not_eq_false', decide_eq_true_eq, decide_eq_false_iff_not] at *
  all_goals (first | exact ⟨rfl, trivial⟩ | skip)
  · simp only [encTick, tickR, ne_eq, h1, not_false_eq_true, if_true]
    exact .tup (.cons zeroR_le (.cons (.nil _ _ _) (.refl _)))
  all_goals
    have ho := old_eq h1
    have hk := ckT_ok h1
    have w1 : IntKind.i64.wrap r.timers.retry = r.timers.retry := IntWalk.i64_in _ (by omega)
    have w2 : IntKind.i64.wrap (now + r.timers.retry) = now + r.timers.retry := IntWalk.i64_in _ (by omega)
    try rw [w1, w2]
  all_goals (first | exact absurd h3 h4 | exact absurd h4 h3 | exact absurd h4 h5 | exact absurd h5 h4 | exact absurd h6 h5 | exact absurd h5 h6 | exact absurd h6 h4 | exact absurd h4 h6 | (rw [h2] at h5; cases h5) | (rw [h2] at h6; cases h6) | (rw [h2] at h8; cases h8) | (rw [h2] at h7; cases h7) | skip)
  all_goals simp only [encTick, tickR, stopB, waitB, goneR, askR, ne_eq, ho, h1, h2, *, not_true_eq_false, not_false_eq_true, if_true, if_false, decide_true, decide_false, Bool.not_true, Bool.not_false, Bool.true_and, Bool.false_and, Bool.true_or, Bool.false_or, Bool.or_true, Bool.or_false, Bool.and_true, Bool.and_false, Bool.false_eq_true, reduceCtorEq]
  all_goals (repeat' first | exact ILeL.refl _ | exact ILe.refl _ | exact ILe.nil _ _ _ | apply ILeL.cons | apply ILe.agg | apply ILe.tup | refine ILe.sl (fun h => by cases h) (fun h => h) ?_)
end Gp
namespace Gp
def T3 (r : Router) (v : Int) (t : Timers) (now : Int) : Tell :=
  Tell.mk (fun x x_1 => false) (fun x x_1 => Orc.no) (fun x => Tree.fail (1000003 : Nat) (0 : Nat)) (fun x => (0 : Nat)) (fun x => ([], []))
  (oget
  [((3 : Nat), (1 : Nat), (1 : Nat), Orc.call [encR r] (bo (greatR r))), ((5 : Nat), (3 : Nat), (1 : Nat), Orc.call [encR r] (encR r)),
  ((9 : Nat), (4 : Nat), (2 : Nat), Orc.call [u8 v, encM t] (IVal.tup [encR (newR v t), i64 (newE v t)])), ((18 : Nat), (5 : Nat), (2 : Nat), Orc.call [u8 v, encM t] (IVal.tup [encR (newR v t), i64 (newE v t)])),
  ((27 : Nat), (6 : Nat), (2 : Nat), Orc.call [encR r, i64 now] (encTick (tickR holdsP r now) (ckT holdsP r now))), ((40 : Nat), (7 : Nat), (2 : Nat), Orc.call [encR r, i64 now] (encTick (tickR holdsP' r now) (ckT holdsP' r now))),
  ((53 : Nat), (8 : Nat), (2 : Nat), Orc.call [encR r, i64 now] (IVal.tup [encR (breakR holdsP r now), i64 (ckT holdsP r now)])),
  ((62 : Nat), (9 : Nat), (2 : Nat), Orc.call [encR r, i64 now] (IVal.tup [encR (breakR holdsP' r now), i64 (ckT holdsP' r now)])),
  ((71 : Nat), (10 : Nat), (2 : Nat), Orc.call [encR r, i64 now] (IVal.tup [encL (viewP holdsP r now), bo (viewB holdsP r now), i64 (ckT holdsP r now)])),
  ((82 : Nat), (11 : Nat), (2 : Nat), Orc.call [encR r, i64 now] (IVal.tup [encL (viewP holdsP' r now), bo (viewB holdsP' r now), i64 (ckT holdsP' r now)])),
  ((93 : Nat), (12 : Nat), (2 : Nat), Orc.call [encR (newR v t), encR (newR v t)] (bo (decide (newR v t = newR v t)))), ((93 : Nat), (12 : Nat), (10 : Nat), Orc.call [encR r] (i64 (ckR holdsP r))),
  ((93 : Nat), (12 : Nat), (12 : Nat), Orc.call [encR r] (i64 (ckR holdsP' r))),
  ((93 : Nat), (12 : Nat), (18 : Nat), Orc.call [encR (tickR holdsP r now).fst, encR (tickR holdsP' r now).fst] (bo (decide ((tickR holdsP r now).fst = (tickR holdsP' r now).fst)))),
  ((93 : Nat), (12 : Nat), (23 : Nat), Orc.call [slE (37 : Nat) encD (tickR holdsP r now).snd.fst, slE (37 : Nat) encD (tickR holdsP' r now).snd.fst] (bo (decide ((tickR holdsP r now).snd.fst = (tickR holdsP' r now).snd.fst)))),
  ((129 : Nat), (13 : Nat), (4 : Nat), Orc.call [encR (breakR holdsP r now), encR (breakR holdsP' r now)] (bo (decide (breakR holdsP r now = breakR holdsP' r now)))),
  ((129 : Nat), (13 : Nat), (14 : Nat), Orc.call [encL (viewP holdsP r now), encL (viewP holdsP' r now)] (bo (decide (viewP holdsP r now = viewP holdsP' r now)))),
  ((129 : Nat), (13 : Nat), (29 : Nat), Orc.call [encR r, encR r] (bo (decide (r = r))))])
  fun x x_1 => Tree.fail (1000003 : Nat) (0 : Nat)
theorem t3 (r : Router) (v : Int) (t : Timers) (now : Int) : levF prog Proofs.Try.f3 [encR r, u8 v, encM t, i64 now] (T3 r v t now) =
  Tree.need (ILeL [encR r] [encR r] ∧ ASpec prog (4 : Nat) [encR r] (bo (greatR r)))
  (Tree.br (greatR r) (Tree.done Exit.ret (lret (IVal.v (Value.bool true))))
  (Tree.need (ILeL [encR r] [encR r] ∧ ASpec prog (5 : Nat) [encR r] (encR r))
  (Tree.need (ILeL [u8 v, encM t] [u8 v, encM t] ∧ ASpec prog (6 : Nat) [u8 v, encM t] (IVal.tup [encR (newR v t), i64 (newE v t)]))
  (Tree.need (ILeL [u8 v, encM t] [u8 v, encM t] ∧ ASpec prog (7 : Nat) [u8 v, encM t] (IVal.tup [encR (newR v t), i64 (newE v t)]))
  (Tree.need (ILeL [encR r, i64 now] [encR r, i64 now] ∧ ASpec prog (8 : Nat) [encR r, i64 now] (encTick (tickR holdsP r now) (ckT holdsP r now)))
  (Tree.need (ILeL [encR r, i64 now] [encR r, i64 now] ∧ ASpec prog (9 : Nat) [encR r, i64 now] (encTick (tickR holdsP' r now) (ckT holdsP' r now)))
  (Tree.need (ILeL [encR r, i64 now] [encR r, i64 now] ∧ ASpec prog (10 : Nat) [encR r, i64 now] (IVal.tup [encR (breakR holdsP r now), i64 (ckT holdsP r now)]))
  (Tree.need (ILeL [encR r, i64 now] [encR r, i64 now] ∧ ASpec prog (11 : Nat) [encR r, i64 now] (IVal.tup [encR (breakR holdsP' r now), i64 (ckT holdsP' r now)]))
  (Tree.need (ILeL [encR r, i64 now] [encR r, i64 now] ∧ ASpec prog (12 : Nat) [encR r, i64 now] (IVal.tup [encL (viewP holdsP r now), bo (viewB holdsP r now), i64 (ckT holdsP r now)]))
  (Tree.need (ILeL [encR r, i64 now] [encR r, i64 now] ∧ ASpec prog (13 : Nat) [encR r, i64 now] (IVal.tup [encL (viewP holdsP' r now), bo (viewB holdsP' r now), i64 (ckT holdsP' r now)]))
  (Tree.need (ILeL [encR (newR v t), encR (newR v t)] [encR (newR v t), encR (newR v t)] ∧ ASpec prog (14 : Nat) [encR (newR v t), encR (newR v t)] (bo (decide (newR v t = newR v t))))
  (Tree.br (decide (newR v t = newR v t))
  (Tree.br (decide (newE v t = newE v t))
  (Tree.need (ILeL [encR r] [encR r] ∧ ASpec prog (15 : Nat) [encR r] (i64 (ckR holdsP r)))
  (Tree.need (ILeL [encR r] [encR r] ∧ ASpec prog (16 : Nat) [encR r] (i64 (ckR holdsP' r)))
  (Tree.br (decide (ckR holdsP r = ckR holdsP' r))
  (Tree.need
  (ILeL [encR (tickR holdsP r now).fst, encR (tickR holdsP' r now).fst] [encR (tickR holdsP r now).fst, encR (tickR holdsP' r now).fst] ∧
  ASpec prog (14 : Nat) [encR (tickR holdsP r now).fst, encR (tickR holdsP' r now).fst] (bo (decide ((tickR holdsP r now).fst = (tickR holdsP' r now).fst))))
  (Tree.br (decide ((tickR holdsP r now).fst = (tickR holdsP' r now).fst))
  (Tree.need
  (ILeL [slE (37 : Nat) encD (tickR holdsP r now).snd.fst, slE (37 : Nat) encD (tickR holdsP' r now).snd.fst]
  [slE (37 : Nat) encD (tickR holdsP r now).snd.fst, slE (37 : Nat) encD (tickR holdsP' r now).snd.fst] ∧
  ASpec prog (17 : Nat) [slE (37 : Nat) encD (tickR holdsP r now).snd.fst, slE (37 : Nat) encD (tickR holdsP' r now).snd.fst]
  (bo (decide ((tickR holdsP r now).snd.fst = (tickR holdsP' r now).snd.fst))))
  (Tree.br (decide ((tickR holdsP r now).snd.fst = (tickR holdsP' r now).snd.fst))
  (Tree.br ((tickR holdsP r now).snd.snd == (tickR holdsP' r now).snd.snd)
  (Tree.br (decide (ckT holdsP r now = ckT holdsP' r now))
  (Tree.need
  (ILeL [encR (breakR holdsP r now), encR (breakR holdsP' r now)] [encR (breakR holdsP r now), encR (breakR holdsP' r now)] ∧
  ASpec prog (14 : Nat) [encR (breakR holdsP r now), encR (breakR holdsP' r now)] (bo (decide (breakR holdsP r now = breakR holdsP' r now))))
  (Tree.br (decide (breakR holdsP r now = breakR holdsP' r now))
  (Tree.br (decide (ckT holdsP r now = ckT holdsP' r now))
  (Tree.need
  (ILeL [encL (viewP holdsP r now), encL (viewP holdsP' r now)] [encL (viewP holdsP r now), encL (viewP holdsP' r now)] ∧
  ASpec prog (18 : Nat) [encL (viewP holdsP r now), encL (viewP holdsP' r now)] (bo (decide (viewP holdsP r now = viewP holdsP' r now))))
  (Tree.br (decide (viewP holdsP r now = viewP holdsP' r now))
  (Tree.br (viewB holdsP r now == viewB holdsP' r now)
  (Tree.br (decide (ckT holdsP r now = ckT holdsP' r now))
  (Tree.need (ILeL [encR r, encR r] [encR r, encR r] ∧ ASpec prog (14 : Nat) [encR r, encR r] (bo (decide (r = r))))
  (Tree.done Exit.ret (lret (IVal.v (Value.bool (decide (r = r)))))))
  (Tree.done Exit.ret (lret (IVal.v (Value.bool false)))))
  (Tree.done Exit.ret (lret (IVal.v (Value.bool false)))))
  (Tree.done Exit.ret (lret (IVal.v (Value.bool false))))))
  (Tree.done Exit.ret (lret (IVal.v (Value.bool false)))))
  (Tree.done Exit.ret (lret (IVal.v (Value.bool false))))))
  (Tree.done Exit.ret (lret (IVal.v (Value.bool false)))))
  (Tree.done Exit.ret (lret (IVal.v (Value.bool false)))))
  (Tree.done Exit.ret (lret (IVal.v (Value.bool false))))))
  (Tree.done Exit.ret (lret (IVal.v (Value.bool false))))))
  (Tree.done Exit.ret (lret (IVal.v (Value.bool false)))))))
  (Tree.done Exit.ret (lret (IVal.v (Value.bool false)))))
  (Tree.done Exit.ret (lret (IVal.v (Value.bool false)))))))))))))))) := by kernel_rfl
end Gp
namespace Gp
/-- The reference's readings of a payload are the program's. -/
def Agree (r : Router) : Prop := (r.version ≤ 2 → holdsP r.data r.version = holdsP' r.data r.version) ∧ (r.version ≤ 2 → holdsP r.build r.version = holdsP' r.build r.version)
theorem okR_eq {r : Router} (h : Agree r) : okR holdsP r = okR holdsP' r := by
  unfold okR
  by_cases hv : r.version ≤ 2
  · have e1 : baseB holdsP r = baseB holdsP' r := by unfold baseB; rw [h.1 hv]
    have e2 : isB holdsP r = isB holdsP' r := by unfold isB; rw [h.2 hv]
    rw [e1, e2]
  · have e1 : baseB holdsP r = false := by unfold baseB; simp [hv]
    have e2 : baseB holdsP' r = false := by unfold baseB; simp [hv]
    rw [e1, e2]; rfl
theorem ckR_eq {r : Router} (h : Agree r) : ckR holdsP r = ckR holdsP' r := by unfold ckR; rw [okR_eq h]
theorem ckT_eq {r : Router} {now : Int} (h : Agree r) : ckT holdsP r now = ckT holdsP' r now := by unfold ckT; rw [okR_eq h]
theorem tickR_eq {r : Router} {now : Int} (h : Agree r) : tickR holdsP r now = tickR holdsP' r now := by unfold tickR; rw [ckT_eq h]
theorem breakR_eq {r : Router} {now : Int} (h : Agree r) : breakR holdsP r now = breakR holdsP' r now := by unfold breakR; rw [ckT_eq h]
theorem viewP_eq {r : Router} {now : Int} (h : Agree r) : viewP holdsP r now = viewP holdsP' r now := by unfold viewP; rw [ckT_eq h]
theorem viewB_eq {r : Router} {now : Int} (h : Agree r) : viewB holdsP r now = viewB holdsP' r now := by unfold viewB; rw [ckT_eq h]
theorem noP_ok : Payload.ok noP := ⟨by simp [noP], by simp [noP], by simp [noP], fun a ha => by cases ha⟩
theorem zeroR_ok : Router.ok zeroR := ⟨noP_ok, noP_ok⟩
theorem newR_ok (v : Int) (t : Timers) : Router.ok (newR v t) := by
  unfold newR; split
  · exact ⟨noP_ok, noP_ok⟩
  · exact zeroR_ok
theorem gone_ok {r : Router} {now : Int} (hr : r.ok) : Router.ok (goneR r now) := by
  unfold goneR; split
  · exact ⟨noP_ok, hr.b⟩
  · exact hr
theorem tickR_ok {h : Payload → Int → Bool} {r : Router} {now : Int} (hr : r.ok) : Router.ok (tickR h r now).1 := by
  unfold tickR; split
  · exact zeroR_ok
  · split
    · exact ⟨(gone_ok hr).d, noP_ok⟩
    · split
      · exact gone_ok hr
      · exact ⟨(gone_ok hr).d, (gone_ok hr).b⟩
theorem tickL_small {h : Payload → Int → Bool} {r : Router} {now : Int} : (∀ m ∈ (tickR h r now).2.1, m.path.provs.length ≤ 2 ^ 62 ∧ m.copy.length ≤ 2 ^ 62) ∧ (tickR h r now).2.1.length ≤ 2 ^ 62 := by
  unfold tickR; split
  · simp
  · split
    · simp
    · split
      · simp
      · simp only [List.mem_singleton, List.length_singleton]
        refine ⟨?_, by omega⟩
        rintro m rfl
        split <;> simp [serialD, resetD, zeroD]
theorem breakR_ok {h : Payload → Int → Bool} {r : Router} {now : Int} (hr : r.ok) : Router.ok (breakR h r now) := by
  unfold breakR; split
  · exact ⟨hr.d, noP_ok⟩
  · exact zeroR_ok
theorem viewP_ok {h : Payload → Int → Bool} {r : Router} {now : Int} (hr : r.ok) : (viewP h r now).ok := by
  unfold viewP; split
  · exact hr.d
  · exact noP_ok
theorem great_ok {p : Payload} (h : greatP p = false) : p.ok := by
  simp only [greatP, greatB, Bool.or_eq_false_iff, Bool.and_eq_false_imp, decide_eq_true_eq, decide_eq_false_iff_not] at h
  obtain ⟨⟨⟨⟨_, h1⟩, ⟨_, h2⟩⟩, ⟨_, h3⟩⟩, h4⟩ := h
  refine ⟨by omega, by omega, by omega, fun a ha => ?_⟩
  obtain ⟨i, hi, hx⟩ := List.mem_iff_getElem.1 ha
  unfold okT
  rcases Nat.lt_or_ge 60 a.provs.length with hlt | hge
  · exfalso
    have : anyI (P19 p) 0 p.paths.length = true := anyI_iff.2 ⟨i, hi, by simp [P19, P19', List.getD_eq_getElem?_getD, List.getElem?_eq_getElem hi, hx]; omega⟩
    rw [this] at h4; cases h4
  · omega
theorem c3 (r : Router) (v : Int) (t : Timers) (now : Int) (h1 : r.data.paths.length ≤ 2 ^ 63 - 1) (h2 : r.build.paths.length ≤ 2 ^ 63 - 1) (ha : greatR r = false → Agree r) : ASpec prog 3 [encR r, u8 v, encM t, i64 now] (bo true) := by
  refine ASpec.treeW Proofs.Try.f3 (T3 r v t now) (by kernel_rfl) (by kernel_rfl) (t3 r v t now) ?_
  by_cases hg : greatR r = true
  · exact ⟨⟨ILeL.refl _, c4 r h1 h2⟩, fun _ => ⟨fun _ => ⟨_, rfl, .refl _⟩, fun h => by rw [hg] at h; cases h⟩⟩
  have hg : greatR r = false := by simpa using hg
  have ha := ha hg
  have hr : r.ok := by
    simp only [greatR, Bool.or_eq_false_iff] at hg
    exact ⟨great_ok hg.1, great_ok hg.2⟩
  refine ⟨⟨ILeL.refl _, c4 _ ?_ ?_⟩, fun _ => ⟨fun h1 => ⟨_, rfl, ?_⟩, fun h1 => ⟨⟨ILeL.refl _, c5 _ ?_⟩, fun _ => ⟨⟨ILeL.refl _, c6 _ _⟩, fun _ => ⟨⟨ILeL.refl _, c7 _ _⟩, fun _ => ⟨⟨ILeL.refl _, c8 _ _ ?_⟩, fun _ => ⟨⟨ILeL.refl _, c9 _ _ ?_⟩, fun _ => ⟨⟨ILeL.refl _, c10 _ _ ?_⟩, fun _ => ⟨⟨ILeL.refl _, c11 _ _ ?_⟩, fun _ => ⟨⟨ILeL.refl _, c12 _ _ ?_⟩, fun _ => ⟨⟨ILeL.refl _, c13 _ _ ?_⟩, fun _ => ⟨⟨ILeL.refl _, c14 _ _ ?_⟩, fun _ => ⟨fun h2 => ⟨fun h3 => ⟨⟨ILeL.refl _, c15 _ ?_⟩, fun _ => ⟨⟨ILeL.refl _, c16 _ ?_⟩, fun _ => ⟨fun h4 => ⟨⟨ILeL.refl _, c14 _ _ ?_⟩, fun _ => ⟨fun h5 => ⟨⟨ILeL.refl _, c17 _ _ ?_ ?_⟩, fun _ => ⟨fun h6 => ⟨fun h7 => ⟨fun h8 => ⟨⟨ILeL.refl _, c14 _ _ ?_⟩, fun _ => ⟨fun h9 => ⟨fun h10 => ⟨⟨ILeL.refl _, c18 _ _ ?_⟩, fun _ => ⟨fun h11 => ⟨fun h12 => ⟨fun h13 => ⟨⟨ILeL.refl _, c14 _ _ ?_⟩, fun _ => ⟨_, rfl, ?_⟩⟩, fun h13 => ⟨_, rfl, ?_⟩⟩, fun h12 => ⟨_, rfl, ?_⟩⟩, fun h11 => ⟨_, rfl, ?_⟩⟩⟩, fun h10 => ⟨_, rfl, ?_⟩⟩, fun h9 => ⟨_, rfl, ?_⟩⟩⟩, fun h8 => ⟨_, rfl, ?_⟩⟩, fun h7 => ⟨_, rfl, ?_⟩⟩, fun h6 => ⟨_, rfl, ?_⟩⟩⟩, fun h5 => ⟨_, rfl, ?_⟩⟩⟩, fun h4 => ⟨_, rfl, ?_⟩⟩⟩⟩, fun h3 => ⟨_, rfl, ?_⟩⟩, fun h2 => ⟨_, rfl, ?_⟩⟩⟩⟩⟩⟩⟩⟩⟩⟩⟩⟩⟩⟩
  all_goals (first | exact h1 | exact h2 | exact hr | exact newR_ok _ _ | exact tickR_ok hr | exact tickL_small.1 | exact tickL_small.2 | exact breakR_ok hr | exact viewP_ok hr | skip)
  all_goals (first | exact .refl _ | skip)
  all_goals (refine ile_bo ?_; simp_all [ckR_eq ha, ckT_eq ha, tickR_eq ha, breakR_eq ha, viewP_eq ha, viewB_eq ha])
end Gp
