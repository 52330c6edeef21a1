/- Part 8 of the walk and of the plain law of DiffComposes. -/
import Derived.Test.YtcccdohpepnfjaaGreatW7
import Derived.Test.YtcccdohpepnfjaaGreatRows
import Derived.WalkKit
import Derived.ProofKit
import Derived.OpenShut
import Derived.ShutString
import Derived.ChangeOld
import Derived.Below
import Derived.Carry
set_option maxRecDepth 100000
set_option maxHeartbeats 0
set_option linter.unusedVariables false
set_option linter.unusedSimpArgs false
open Go Go.Abs
namespace Gp
def noP : Payload := ⟨[], [], []⟩
def noD : Diff := ⟨noP, noP⟩
def betweenS (a b : Payload) : Diff × Int := if ckL a ≠ 0 then (noD, ckL a) else if ckL b ≠ 0 then (noD, ckL b) else (⟨minusP a b, minusP b a⟩, 0)
def applyS (p : Payload) (d : Diff) : Payload × Int :=
  if ckL p ≠ 0 then (noP, ckL p) else if validD d ≠ 0 then (noP, validD d) else if 0 < sizeP (minusP d.gone p) then (noP, 6)
  else if dupP (plusP (minusP p d.gone) d.come) = true then (noP, 14) else if ckL (plusP (minusP p d.gone) d.come) ≠ 0 then (noP, ckL (plusP (minusP p d.gone) d.come)) else (plusP (minusP p d.gone) d.come, 0)
def inverseS (d : Diff) : Diff × Int := if validD d ≠ 0 then (noD, validD d) else (⟨d.come, d.gone⟩, 0)
def joinP (a b la lb : Payload) : Payload := plusP (minusP a la) (minusP b lb)
def joinB (a b la lb : Payload) : Bool := dupP (plusP (minusP a la) (minusP b lb)) || !apartP a b
def beforeS (a b : Int) : Bool × Int := if IntKind.u32.wrap (b - a) = 2147483648 then (false, 2) else (decide (IntKind.u32.wrap (b - a) ≠ 0) && decide (IntKind.u32.wrap (b - a) < 2147483648), 0)
theorem no_leaf {x y : Int} (h : x = y) : ILe (.tup [.agg [.v (.slice none 0 0), .v (.slice none 0 0), .v (.slice none 0 0)], .v (.int .i64 x)]) (.tup [encL noP, i64 y]) := by
  subst h; exact .tup (.cons (.agg (.cons (.nil _ _ _) (.cons (.nil _ _ _) (.cons (.nil _ _ _) (.refl _))))) (.refl _))
theorem noD_leaf {x y : Int} (h : x = y) : ILe (.tup [.agg [.v (.slice none 0 0), .v (.slice none 0 0), .v (.slice none 0 0), .v (.slice none 0 0), .v (.slice none 0 0), .v (.slice none 0 0)], .v (.int .i64 x)]) (.tup [encD noD, i64 y]) := by
  subst h; exact .tup (.cons (.agg (.cons (.nil _ _ _) (.cons (.nil _ _ _) (.cons (.nil _ _ _) (.cons (.nil _ _ _) (.cons (.nil _ _ _) (.cons (.nil _ _ _) (.refl _)))))))) (.refl _))
theorem pair_leaf {a b : IVal} {x y : Int} (h : a = b) (h2 : x = y) : ILe (.tup [a, .v (.int .i64 x)]) (.tup [b, i64 y]) := by
  subst h h2; exact .refl _
theorem bit_t {p : Prop} [Decidable p] (h : decide p = true) : p := of_decide_eq_true h
theorem bit_f {p : Prop} [Decidable p] (h : decide p = false) : ¬ p := of_decide_eq_false h
theorem nbit_t {p : Prop} [Decidable p] (h : (!decide p) = true) : ¬ p := by simpa using h
theorem nbit_f {p : Prop} [Decidable p] (h : (!decide p) = false) : p := by simpa using h
def T10 (p q : Payload) : Tell :=
  Tell.mk (fun x x_1 => false) (fun x x_1 => Orc.no) (fun x => Tree.fail 1000003 0) (fun x => 0) (fun x => ([], []))
  (oget
  [(4, 1, 1, Orc.call [encL p] (i64 (ckL p))), (9, 3, 1, Orc.call [encL q] (i64 (ckL q))), (11, 6, 2, Orc.call [encL p, encL q] (encL (minusP p q))),
  (14, 6, 2, Orc.call [encL p, encL q] (encL (minusP p q))), (11, 6, 5, Orc.call [encL q, encL p] (encL (minusP q p))),
  (14, 6, 5, Orc.call [encL q, encL p] (encL (minusP q p)))])
  fun x x_1 => Tree.fail 1000003 0
theorem t10 (p q : Payload) : levF prog Proofs.Tryz.f10 [encL p, encL q] (T10 p q) =
  Tree.need (ILeL [encL p] [encL p] ∧ ASpec prog 26 [encL p] (i64 (ckL p)))
  (Tree.br (decide (ckL p = (0 : Int)))
  (Tree.need (ILeL [encL q] [encL q] ∧ ASpec prog 26 [encL q] (i64 (ckL q)))
  (Tree.br (!decide (ckL q = (0 : Int)))
  (Tree.done Exit.ret
  (lret
  (IVal.tup
  [IVal.agg
  [IVal.v (Value.slice none 0 0), IVal.v (Value.slice none 0 0), IVal.v (Value.slice none 0 0), IVal.v (Value.slice none 0 0),
  IVal.v (Value.slice none 0 0), IVal.v (Value.slice none 0 0)],
  i64 (ckL q)])))
  (Tree.need (ILeL [encL p, encL q] [encL p, encL q] ∧ ASpec prog 27 [encL p, encL q] (encL (minusP p q)))
  (Tree.need (ILeL [encL q, encL p] [encL q, encL p] ∧ ASpec prog 27 [encL q, encL p] (encL (minusP q p)))
  (Tree.done Exit.ret
  (lret
  (IVal.tup
  [IVal.agg
  [slE 6 encO (minusP p q).origins, slE 2 encT (minusP p q).paths, slE 18 encK (minusP p q).keys, slE 6 encO (minusP q p).origins, slE 2 encT (minusP q p).paths,
  slE 18 encK (minusP q p).keys],
  IVal.v (Value.int IntKind.i64 (0 : Int))])))))))
  (Tree.br (!decide (ckL p = (0 : Int)))
  (Tree.done Exit.ret
  (lret
  (IVal.tup
  [IVal.agg
  [IVal.v (Value.slice none 0 0), IVal.v (Value.slice none 0 0), IVal.v (Value.slice none 0 0), IVal.v (Value.slice none 0 0),
  IVal.v (Value.slice none 0 0), IVal.v (Value.slice none 0 0)],
  i64 (ckL p)])))
  (Tree.need (ILeL [encL p, encL q] [encL p, encL q] ∧ ASpec prog 27 [encL p, encL q] (encL (minusP p q)))
  (Tree.need (ILeL [encL q, encL p] [encL q, encL p] ∧ ASpec prog 27 [encL q, encL p] (encL (minusP q p)))
  (Tree.done Exit.ret
  (lret
  (IVal.tup
  [IVal.agg
  [slE 6 encO (minusP p q).origins, slE 2 encT (minusP p q).paths, slE 18 encK (minusP p q).keys, slE 6 encO (minusP q p).origins, slE 2 encT (minusP q p).paths,
  slE 18 encK (minusP q p).keys],
  IVal.v (Value.int IntKind.i64 (0 : Int))]))))))) := by kernel_rfl
theorem c10 (p q : Payload) (hp : p.sm) (hq : q.sm) : ASpec prog 10 [encL p, encL q] (.tup [encD (betweenS p q).1, i64 (betweenS p q).2]) := by
  refine ASpec.treeW Proofs.Tryz.f10 (T10 p q) (by kernel_rfl) (by kernel_rfl) (t10 p q) ?_
  refine need_sat ⟨ILeL.refl _, c26 _⟩ ⟨fun h1 => need_sat ⟨ILeL.refl _, c26 _⟩ ⟨fun h2 => ⟨_, rfl, ?_⟩, fun h2 => need_sat ⟨ILeL.refl _, c27 _ _ ?_ ?_⟩ (need_sat ⟨ILeL.refl _, c27 _ _ ?_ ?_⟩ ⟨_, rfl, ?_⟩)⟩, fun h1 => ⟨fun h2 => ⟨_, rfl, ?_⟩, fun h2 => need_sat ⟨ILeL.refl _, c27 _ _ ?_ ?_⟩ (need_sat ⟨ILeL.refl _, c27 _ _ ?_ ?_⟩ ⟨_, rfl, ?_⟩)⟩⟩
  all_goals try exact absurd (nbit_f h2) (bit_f h1)
  · rw [betweenS, if_neg (Decidable.not_not.2 (bit_t h1)), if_pos (nbit_t h2)]; exact noD_leaf rfl
  · exact hp
  · exact hq
  · exact hq
  · exact hp
  · rw [betweenS, if_neg (Decidable.not_not.2 (bit_t h1)), if_neg (Decidable.not_not.2 (nbit_f h2))]; exact pair_leaf rfl rfl
  · rw [betweenS, if_pos (bit_f h1)]; exact noD_leaf rfl
def T12 (p : Payload) (d : Diff) : Tell :=
  Tell.mk (fun x x_1 => false) (fun x x_1 => Orc.no) (fun x => Tree.fail 1000003 0) (fun x => 0) (fun x => ([], []))
  (oget
  [(4, 1, 1, Orc.call [encL p] (i64 (ckL p))), (9, 3, 1, Orc.call [encD d] (i64 (validD d))), (11, 6, 3, Orc.call [encL d.gone, encL p] (encL (minusP d.gone p))),
  (14, 6, 3, Orc.call [encL d.gone, encL p] (encL (minusP d.gone p))), (11, 6, 4, Orc.call [encL (minusP d.gone p)] (i64 (sizeP (minusP d.gone p)))),
  (14, 6, 4, Orc.call [encL (minusP d.gone p)] (i64 (sizeP (minusP d.gone p)))), (17, 8, 3, Orc.call [encL p, encL d.gone] (encL (minusP p d.gone))),
  (20, 8, 3, Orc.call [encL p, encL d.gone] (encL (minusP p d.gone))),
  (17, 8, 6, Orc.call [encL (minusP p d.gone), encL d.come] (IVal.tup [encL (plusP (minusP p d.gone) d.come), bo (dupP (plusP (minusP p d.gone) d.come))])),
  (20, 8, 6, Orc.call [encL (minusP p d.gone), encL d.come] (IVal.tup [encL (plusP (minusP p d.gone) d.come), bo (dupP (plusP (minusP p d.gone) d.come))])),
  (31, 11, 1, Orc.call [encL (plusP (minusP p d.gone) d.come)] (i64 (ckL (plusP (minusP p d.gone) d.come)))),
  (34, 11, 1, Orc.call [encL (plusP (minusP p d.gone) d.come)] (i64 (ckL (plusP (minusP p d.gone) d.come))))])
  fun x x_1 => Tree.fail 1000003 0
theorem t12 (p : Payload) (d : Diff) : levF prog Proofs.Tryz.f12 [encL p, encD d] (T12 p d) =
  Tree.need (ILeL [encL p] [encL p] ∧ ASpec prog 26 [encL p] (i64 (ckL p)))
  (Tree.br (decide (ckL p = (0 : Int)))
  (Tree.need (ILeL [encD d] [encD d] ∧ ASpec prog 20 [encD d] (i64 (validD d)))
  (Tree.br (!decide (validD d = (0 : Int)))
  (Tree.done Exit.ret (lret (IVal.tup [IVal.agg [IVal.v (Value.slice none 0 0), IVal.v (Value.slice none 0 0), IVal.v (Value.slice none 0 0)], i64 (validD d)])))
  (Tree.need (ILeL [IVal.agg [slE 6 encO d.gone.origins, slE 2 encT d.gone.paths, slE 18 encK d.gone.keys], encL p] [encL d.gone, encL p] ∧ ASpec prog 27 [encL d.gone, encL p] (encL (minusP d.gone p)))
  (Tree.need (ILeL [encL (minusP d.gone p)] [encL (minusP d.gone p)] ∧ ASpec prog 29 [encL (minusP d.gone p)] (i64 (sizeP (minusP d.gone p))))
  (Tree.br (decide ((0 : Int) < sizeP (minusP d.gone p)))
  (Tree.done Exit.ret
  (lret (IVal.tup [IVal.agg [IVal.v (Value.slice none 0 0), IVal.v (Value.slice none 0 0), IVal.v (Value.slice none 0 0)], IVal.v (Value.int IntKind.i64 (6 : Int))])))
  (Tree.need
  (ILeL [encL p, IVal.agg [slE 6 encO d.gone.origins, slE 2 encT d.gone.paths, slE 18 encK d.gone.keys]] [encL p, encL d.gone] ∧ ASpec prog 27 [encL p, encL d.gone] (encL (minusP p d.gone)))
  (Tree.need
  (ILeL [encL (minusP p d.gone), IVal.agg [slE 6 encO d.come.origins, slE 2 encT d.come.paths, slE 18 encK d.come.keys]] [encL (minusP p d.gone), encL d.come] ∧
  ASpec prog 30 [encL (minusP p d.gone), encL d.come] (IVal.tup [encL (plusP (minusP p d.gone) d.come), bo (dupP (plusP (minusP p d.gone) d.come))]))
  (Tree.br (dupP (plusP (minusP p d.gone) d.come))
  (Tree.done Exit.ret
  (lret (IVal.tup [IVal.agg [IVal.v (Value.slice none 0 0), IVal.v (Value.slice none 0 0), IVal.v (Value.slice none 0 0)], IVal.v (Value.int IntKind.i64 (14 : Int))])))
  (Tree.need (ILeL [encL (plusP (minusP p d.gone) d.come)] [encL (plusP (minusP p d.gone) d.come)] ∧ ASpec prog 26 [encL (plusP (minusP p d.gone) d.come)] (i64 (ckL (plusP (minusP p d.gone) d.come))))
  (Tree.br (!decide (ckL (plusP (minusP p d.gone) d.come) = (0 : Int)))
  (Tree.done Exit.ret
  (lret
  (IVal.tup [IVal.agg [IVal.v (Value.slice none 0 0), IVal.v (Value.slice none 0 0), IVal.v (Value.slice none 0 0)], i64 (ckL (plusP (minusP p d.gone) d.come))])))
  (Tree.done Exit.ret (lret (IVal.tup [encL (plusP (minusP p d.gone) d.come), IVal.v (Value.int IntKind.i64 (0 : Int))])))))))))))))
  (Tree.br (!decide (ckL p = (0 : Int)))
  (Tree.done Exit.ret (lret (IVal.tup [IVal.agg [IVal.v (Value.slice none 0 0), IVal.v (Value.slice none 0 0), IVal.v (Value.slice none 0 0)], i64 (ckL p)])))
  (Tree.need (ILeL [IVal.agg [slE 6 encO d.gone.origins, slE 2 encT d.gone.paths, slE 18 encK d.gone.keys], encL p] [encL d.gone, encL p] ∧ ASpec prog 27 [encL d.gone, encL p] (encL (minusP d.gone p)))
  (Tree.need (ILeL [encL (minusP d.gone p)] [encL (minusP d.gone p)] ∧ ASpec prog 29 [encL (minusP d.gone p)] (i64 (sizeP (minusP d.gone p))))
  (Tree.br (decide ((0 : Int) < sizeP (minusP d.gone p)))
  (Tree.done Exit.ret
  (lret (IVal.tup [IVal.agg [IVal.v (Value.slice none 0 0), IVal.v (Value.slice none 0 0), IVal.v (Value.slice none 0 0)], IVal.v (Value.int IntKind.i64 (6 : Int))])))
  (Tree.need
  (ILeL [encL p, IVal.agg [slE 6 encO d.gone.origins, slE 2 encT d.gone.paths, slE 18 encK d.gone.keys]] [encL p, encL d.gone] ∧ ASpec prog 27 [encL p, encL d.gone] (encL (minusP p d.gone)))
  (Tree.need
  (ILeL [encL (minusP p d.gone), IVal.agg [slE 6 encO d.come.origins, slE 2 encT d.come.paths, slE 18 encK d.come.keys]] [encL (minusP p d.gone), encL d.come] ∧
  ASpec prog 30 [encL (minusP p d.gone), encL d.come] (IVal.tup [encL (plusP (minusP p d.gone) d.come), bo (dupP (plusP (minusP p d.gone) d.come))]))
  (Tree.br (dupP (plusP (minusP p d.gone) d.come))
  (Tree.done Exit.ret
  (lret (IVal.tup [IVal.agg [IVal.v (Value.slice none 0 0), IVal.v (Value.slice none 0 0), IVal.v (Value.slice none 0 0)], IVal.v (Value.int IntKind.i64 (14 : Int))])))
  (Tree.need (ILeL [encL (plusP (minusP p d.gone) d.come)] [encL (plusP (minusP p d.gone) d.come)] ∧ ASpec prog 26 [encL (plusP (minusP p d.gone) d.come)] (i64 (ckL (plusP (minusP p d.gone) d.come))))
  (Tree.br (!decide (ckL (plusP (minusP p d.gone) d.come) = (0 : Int)))
  (Tree.done Exit.ret
  (lret (IVal.tup [IVal.agg [IVal.v (Value.slice none 0 0), IVal.v (Value.slice none 0 0), IVal.v (Value.slice none 0 0)], i64 (ckL (plusP (minusP p d.gone) d.come))])))
  (Tree.done Exit.ret (lret (IVal.tup [encL (plusP (minusP p d.gone) d.come), IVal.v (Value.int IntKind.i64 (0 : Int))]))))))))))))) := by kernel_rfl
theorem c12 (p : Payload) (d : Diff) (hp : p.sm) (hd : d.sm) : ASpec prog 12 [encL p, encD d] (.tup [encL (applyS p d).1, i64 (applyS p d).2]) := by
  refine ASpec.treeW Proofs.Tryz.f12 (T12 p d) (by kernel_rfl) (by kernel_rfl) (t12 p d) ?_
  refine need_sat ⟨ILeL.refl _, c26 _⟩ ⟨fun h1 => need_sat ⟨ILeL.refl _, c20 _ ?_⟩ ⟨fun h2 => ⟨_, rfl, ?_⟩, fun h2 => need_sat ⟨ILeL.refl _, c27 _ _ ?_ ?_⟩ (need_sat ⟨ILeL.refl _, c29 _ ?_⟩ ⟨fun h3 => ⟨_, rfl, ?_⟩, fun h3 => need_sat ⟨ILeL.refl _, c27 _ _ ?_ ?_⟩ (need_sat ⟨ILeL.refl _, c30 _ _ ?_ ?_⟩ ⟨fun h4 => ⟨_, rfl, ?_⟩, fun h4 => need_sat ⟨ILeL.refl _, c26 _⟩ ⟨fun h5 => ⟨_, rfl, ?_⟩, fun h5 => ⟨_, rfl, ?_⟩⟩⟩)⟩)⟩, fun h1 => ⟨fun h2 => ⟨_, rfl, ?_⟩, fun h2 => need_sat ⟨ILeL.refl _, c27 _ _ ?_ ?_⟩ (need_sat ⟨ILeL.refl _, c29 _ ?_⟩ ⟨fun h3 => ⟨_, rfl, ?_⟩, fun h3 => need_sat ⟨ILeL.refl _, c27 _ _ ?_ ?_⟩ (need_sat ⟨ILeL.refl _, c30 _ _ ?_ ?_⟩ ⟨fun h4 => ⟨_, rfl, ?_⟩, fun h4 => need_sat ⟨ILeL.refl _, c26 _⟩ ⟨fun h5 => ⟨_, rfl, ?_⟩, fun h5 => ⟨_, rfl, ?_⟩⟩⟩)⟩)⟩⟩
  all_goals try exact absurd (nbit_f h2) (bit_f h1)
  · exact hd
  · rw [applyS, if_neg (Decidable.not_not.2 (bit_t h1)), if_pos (nbit_t h2)]; exact no_leaf rfl
  · exact hd.g
  · exact hp
  · exact (minusP_sm hd.g p).ok
  · rw [applyS, if_neg (Decidable.not_not.2 (bit_t h1)), if_neg (Decidable.not_not.2 (nbit_f h2)), if_pos (bit_t h3)]; exact no_leaf rfl
  · exact hp
  · exact hd.g
  · exact minusP_sm hp _
  · exact hd.c
  · rw [applyS, if_neg (Decidable.not_not.2 (bit_t h1)), if_neg (Decidable.not_not.2 (nbit_f h2)), if_neg (bit_f h3), if_pos h4]; exact no_leaf rfl
  · rw [applyS, if_neg (Decidable.not_not.2 (bit_t h1)), if_neg (Decidable.not_not.2 (nbit_f h2)), if_neg (bit_f h3), if_neg (by rw [h4]; decide), if_pos (nbit_t h5)]; exact no_leaf rfl
  · rw [applyS, if_neg (Decidable.not_not.2 (bit_t h1)), if_neg (Decidable.not_not.2 (nbit_f h2)), if_neg (bit_f h3), if_neg (by rw [h4]; decide), if_neg (Decidable.not_not.2 (nbit_f h5))]; exact pair_leaf rfl rfl
  · rw [applyS, if_pos (bit_f h1)]; exact no_leaf rfl
def T16 (d : Diff) : Tell :=
  Tell.mk (fun x x_1 => false) (fun x x_1 => Orc.no) (fun x => Tree.fail 1000003 0) (fun x => 0) (fun x => ([], []))
  (oget [(3, 1, 1, Orc.call [encD d] (i64 (validD d))), (8, 4, 2, Orc.call [encL d.come] (encL d.come)), (8, 4, 5, Orc.call [encL d.gone] (encL d.gone))]) fun x x_1 =>
  Tree.fail 1000003 0
theorem t16 (d : Diff) : levF prog Proofs.Tryz.f16 [encD d] (T16 d) =
  Tree.need (ILeL [encD d] [encD d] ∧ ASpec prog 20 [encD d] (i64 (validD d)))
  (Tree.br (!decide (validD d = (0 : Int)))
  (Tree.done Exit.ret
  (lret
  (IVal.tup
  [IVal.agg
  [IVal.v (Value.slice none 0 0), IVal.v (Value.slice none 0 0), IVal.v (Value.slice none 0 0), IVal.v (Value.slice none 0 0),
  IVal.v (Value.slice none 0 0), IVal.v (Value.slice none 0 0)],
  i64 (validD d)])))
  (Tree.need (ILeL [IVal.agg [slE 6 encO d.come.origins, slE 2 encT d.come.paths, slE 18 encK d.come.keys]] [encL d.come] ∧ ASpec prog 34 [encL d.come] (encL d.come))
  (Tree.need (ILeL [IVal.agg [slE 6 encO d.gone.origins, slE 2 encT d.gone.paths, slE 18 encK d.gone.keys]] [encL d.gone] ∧ ASpec prog 34 [encL d.gone] (encL d.gone))
  (Tree.done Exit.ret
  (lret
  (IVal.tup
  [IVal.agg [slE 6 encO d.come.origins, slE 2 encT d.come.paths, slE 18 encK d.come.keys, slE 6 encO d.gone.origins, slE 2 encT d.gone.paths, slE 18 encK d.gone.keys],
  IVal.v (Value.int IntKind.i64 (0 : Int))])))))) := by kernel_rfl
theorem c16 (d : Diff) (hd : d.sm) : ASpec prog 16 [encD d] (.tup [encD (inverseS d).1, i64 (inverseS d).2]) := by
  refine ASpec.treeW Proofs.Tryz.f16 (T16 d) (by kernel_rfl) (by kernel_rfl) (t16 d) ?_
  refine need_sat ⟨ILeL.refl _, c20 _ ?_⟩ ⟨fun h1 => ⟨_, rfl, ?_⟩, fun h1 => need_sat ⟨ILeL.refl _, c34 _ ?_⟩ (need_sat ⟨ILeL.refl _, c34 _ ?_⟩ ⟨_, rfl, ?_⟩)⟩
  · exact hd
  · rw [inverseS, if_pos (nbit_t h1)]; exact noD_leaf rfl
  · exact hd.c.ok
  · exact hd.g.ok
  · rw [inverseS, if_neg (Decidable.not_not.2 (nbit_f h1))]; exact pair_leaf rfl rfl
def T35 (a b c d : Payload) : Tell :=
  Tell.mk (fun x x_1 => false) (fun x x_1 => Orc.no) (fun x => Tree.fail 1000003 0) (fun x => 0) (fun x => ([], []))
  (oget
  [(6, 1, 2, Orc.call [encL a, encL c] (encL (minusP a c))), (6, 1, 5, Orc.call [encL b, encL d] (encL (minusP b d))),
  (6, 1, 6, Orc.call [encL (minusP a c), encL (minusP b d)] (IVal.tup [encL (plusP (minusP a c) (minusP b d)), bo (dupP (plusP (minusP a c) (minusP b d)))])),
  (19, 2, 5, Orc.call [encL a, encL b] (bo (apartP a b)))])
  fun x x_1 => Tree.fail 1000003 0
theorem t35 (a b c d : Payload) : levF prog Proofs.Tryz.f35 [encL a, encL b, encL c, encL d] (T35 a b c d) =
  Tree.need (ILeL [encL a, encL c] [encL a, encL c] ∧ ASpec prog 27 [encL a, encL c] (encL (minusP a c)))
  (Tree.need (ILeL [encL b, encL d] [encL b, encL d] ∧ ASpec prog 27 [encL b, encL d] (encL (minusP b d)))
  (Tree.need
  (ILeL [encL (minusP a c), encL (minusP b d)] [encL (minusP a c), encL (minusP b d)] ∧
  ASpec prog 30 [encL (minusP a c), encL (minusP b d)] (IVal.tup [encL (plusP (minusP a c) (minusP b d)), bo (dupP (plusP (minusP a c) (minusP b d)))]))
  (Tree.br (dupP (plusP (minusP a c) (minusP b d))) (Tree.done Exit.ret (lret (IVal.tup [encL (plusP (minusP a c) (minusP b d)), IVal.v (Value.bool true)])))
  (Tree.need (ILeL [encL a, encL b] [encL a, encL b] ∧ ASpec prog 36 [encL a, encL b] (bo (apartP a b))) (Tree.done Exit.ret (lret (IVal.tup [encL (plusP (minusP a c) (minusP b d)), IVal.v (Value.bool !apartP a b)]))))))) := by kernel_rfl
theorem c35 (a b c d : Payload) (ha : a.sm) (hb : b.sm) (hc : c.sm) (hd : d.sm) : ASpec prog 35 [encL a, encL b, encL c, encL d] (.tup [encL (joinP a b c d), bo (joinB a b c d)]) := by
  refine ASpec.treeW Proofs.Tryz.f35 (T35 a b c d) (by kernel_rfl) (by kernel_rfl) (t35 a b c d) ?_
  refine need_sat ⟨ILeL.refl _, c27 _ _ ?_ ?_⟩ (need_sat ⟨ILeL.refl _, c27 _ _ ?_ ?_⟩ (need_sat ⟨ILeL.refl _, c30 _ _ ?_ ?_⟩ ⟨fun h1 => ⟨_, rfl, ?_⟩, fun h1 => need_sat ⟨ILeL.refl _, c36 _ _ ?_ ?_⟩ ⟨_, rfl, ?_⟩⟩))
  · exact ha
  · exact hc
  · exact hb
  · exact hd
  · exact minusP_sm ha _
  · exact minusP_sm hb _
  · exact .tup (.cons (.refl _) (.cons (ile_bo (by simp only [joinB, h1, Bool.true_or])) (.refl _)))
  · exact ha
  · exact hb
  · exact .tup (.cons (.refl _) (.cons (ile_bo (by simp only [joinB, h1, Bool.false_or])) (.refl _)))
def T39 (a b : Int) : Tell :=
  Tell.mk (fun x x_1 => false) (fun x x_1 => Orc.no) (fun x => Tree.fail 1000003 0) (fun x => 0) (fun x => ([], [])) (fun x x_1 x_2 => Orc.no) fun x x_1 => Tree.fail 1000003 0
theorem t39 (a b : Int) : levF prog Proofs.Tryz.f39 [u32 a, u32 b] (T39 a b) =
  Tree.br (decide (IntKind.wrap IntKind.u32 (b - a) = (2147483648 : Int))) (Tree.done Exit.ret (lret (IVal.tup [IVal.v (Value.bool false), IVal.v (Value.int IntKind.i64 (2 : Int))])))
  (Tree.br (!decide (IntKind.wrap IntKind.u32 (b - a) = (0 : Int))) (Tree.done Exit.ret (lret (IVal.tup [IVal.v (Value.bool (decide (IntKind.wrap IntKind.u32 (b - a) < (2147483648 : Int)))), IVal.v (Value.int IntKind.i64 (0 : Int))])))
  (Tree.done Exit.ret (lret (IVal.tup [IVal.v (Value.bool false), IVal.v (Value.int IntKind.i64 (0 : Int))])))) := by kernel_rfl
theorem c39 (a b : Int) : ASpec prog 39 [u32 a, u32 b] (.tup [bo (beforeS a b).1, i64 (beforeS a b).2]) := by
  refine ASpec.treeW Proofs.Tryz.f39 (T39 a b) (by kernel_rfl) (by kernel_rfl) (t39 a b) ?_
  refine ⟨fun h1 => ⟨_, rfl, ?_⟩, fun h1 => ⟨fun h2 => ⟨_, rfl, ?_⟩, fun h2 => ⟨_, rfl, ?_⟩⟩⟩
  · rw [beforeS, if_pos (bit_t h1)]; exact .refl _
  · rw [beforeS, if_neg (bit_f h1)]
    exact .tup (.cons (ile_bo (by rw [decide_eq_true (nbit_t h2), Bool.true_and])) (.refl _))
  · rw [beforeS, if_neg (bit_f h1)]
    exact .tup (.cons (ile_bo (by rw [decide_eq_false (Decidable.not_not.2 (nbit_f h2)), Bool.false_and])) (.refl _))
def T14 (d f : Diff) : Tell :=
  Tell.mk (fun x x_1 => false) (fun x x_1 => Orc.no) (fun x => Tree.fail 1000003 0) (fun x => 0) (fun x => ([], []))
  (oget [(3, 1, 4, Orc.call [encL d.gone, encL f.gone] (bo (decide (d.gone = f.gone)))), (3, 1, 10, Orc.call [encL d.come, encL f.come] (bo (decide (d.come = f.come))))]) fun x x_1 =>
  Tree.fail 1000003 0
theorem t14 (d f : Diff) : levF prog Proofs.Tryz.f14 [encD d, encD f] (T14 d f) =
  Tree.need
  (ILeL [IVal.agg [slE 6 encO d.gone.origins, slE 2 encT d.gone.paths, slE 18 encK d.gone.keys], IVal.agg [slE 6 encO f.gone.origins, slE 2 encT f.gone.paths, slE 18 encK f.gone.keys]]
  [encL d.gone, encL f.gone] ∧
  ASpec prog 15 [encL d.gone, encL f.gone] (bo (decide (d.gone = f.gone))))
  (Tree.br (decide (d.gone = f.gone))
  (Tree.need
  (ILeL [IVal.agg [slE 6 encO d.come.origins, slE 2 encT d.come.paths, slE 18 encK d.come.keys], IVal.agg [slE 6 encO f.come.origins, slE 2 encT f.come.paths, slE 18 encK f.come.keys]]
  [encL d.come, encL f.come] ∧
  ASpec prog 15 [encL d.come, encL f.come] (bo (decide (d.come = f.come))))
  (Tree.done Exit.ret (lret (IVal.v (Value.bool (decide (d.come = f.come)))))))
  (Tree.done Exit.ret (lret (IVal.v (Value.bool false))))) := by kernel_rfl
theorem c14 (d f : Diff) (hd : d.sm) : ASpec prog 14 [encD d, encD f] (bo (decide (d = f))) := by
  refine ASpec.treeW Proofs.Tryz.f14 (T14 d f) (by kernel_rfl) (by kernel_rfl) (t14 d f) ?_
  have hab : decide (d = f) = (decide (d.gone = f.gone) && decide (d.come = f.come)) := by
    rw [Bool.eq_iff_iff]; cases d; cases f; simp
  rw [hab]
  refine need_sat ⟨ILeL.refl _, c15 _ _ ?_⟩ ⟨fun h1 => need_sat ⟨ILeL.refl _, c15 _ _ ?_⟩ ⟨_, rfl, ?_⟩, fun h1 => ⟨_, rfl, ?_⟩⟩
  · exact hd.g.ok
  · exact hd.c.ok
  · exact ile_bo (by rw [h1, Bool.true_and])
  · exact ile_bo (by rw [h1, Bool.false_and])
def T7 (d : Diff) : Tell :=
  Tell.mk (fun x x_1 => false) (fun x x_1 => Orc.no) (fun x => Tree.fail 1000003 0) (fun x => 0) (fun x => ([], []))
  (oget [(2, 1, 2, Orc.call [encL d.gone] (bo (greatP d.gone))), (2, 1, 6, Orc.call [encL d.come] (bo (greatP d.come)))]) fun x x_1 => Tree.fail 1000003 0
theorem t7 (d : Diff) : levF prog Proofs.Tryz.f7 [encD d] (T7 d) =
  Tree.need (ILeL [IVal.agg [slE 6 encO d.gone.origins, slE 2 encT d.gone.paths, slE 18 encK d.gone.keys]] [encL d.gone] ∧ ASpec prog 6 [encL d.gone] (bo (greatP d.gone)))
  (Tree.br (greatP d.gone) (Tree.done Exit.ret (lret (IVal.v (Value.bool true))))
  (Tree.need (ILeL [IVal.agg [slE 6 encO d.come.origins, slE 2 encT d.come.paths, slE 18 encK d.come.keys]] [encL d.come] ∧ ASpec prog 6 [encL d.come] (bo (greatP d.come)))
  (Tree.done Exit.ret (lret (IVal.v (Value.bool (greatP d.come))))))) := by kernel_rfl
theorem c7 (d : Diff) (hg : d.gone.paths.length ≤ 2 ^ 63 - 1) (hc : d.come.paths.length ≤ 2 ^ 63 - 1) : ASpec prog 7 [encD d] (bo (greatP d.gone || greatP d.come)) := by
  refine ASpec.treeW Proofs.Tryz.f7 (T7 d) (by kernel_rfl) (by kernel_rfl) (t7 d) ?_
  refine need_sat ⟨ILeL.refl _, c6 _ ?_⟩ ⟨fun h1 => ⟨_, rfl, ?_⟩, fun h1 => need_sat ⟨ILeL.refl _, c6 _ ?_⟩ ⟨_, rfl, ?_⟩⟩
  · exact hg
  · exact ile_bo (by rw [h1, Bool.true_or])
  · exact hc
  · exact ile_bo (by rw [h1, Bool.false_or])
def composeS (d f : Diff) : Diff × Int :=
  if validD d ≠ 0 then (noD, validD d) else if validD f ≠ 0 then (noD, validD f)
  else if joinB d.gone f.gone f.come d.come = true then (noD, 6) else if joinB d.come f.come f.gone d.gone = true then (noD, 14)
  else if ckL (joinP d.gone f.gone f.come d.come) ≠ 0 ∨ ckL (joinP d.come f.come f.gone d.gone) ≠ 0 then (noD, 4)
  else (⟨joinP d.gone f.gone f.come d.come, joinP d.come f.come f.gone d.gone⟩, 0)
def T18 (d f : Diff) : Tell :=
  Tell.mk (fun x x_1 => false) (fun x x_1 => Orc.no) (fun x => Tree.fail 1000003 0) (fun x => 0) (fun x => ([], []))
  (oget
  [(4, 1, 1, Orc.call [encD d] (i64 (validD d))), (9, 3, 1, Orc.call [encD f] (i64 (validD f))),
  (12, 7, 9, Orc.call [encL d.gone, encL f.gone, encL f.come, encL d.come] (IVal.tup [encL (joinP d.gone f.gone f.come d.come), bo (joinB d.gone f.gone f.come d.come)])),
  (15, 7, 9, Orc.call [encL d.gone, encL f.gone, encL f.come, encL d.come] (IVal.tup [encL (joinP d.gone f.gone f.come d.come), bo (joinB d.gone f.gone f.come d.come)])),
  (29, 10, 9, Orc.call [encL d.come, encL f.come, encL f.gone, encL d.gone] (IVal.tup [encL (joinP d.come f.come f.gone d.gone), bo (joinB d.come f.come f.gone d.gone)])),
  (32, 10, 9, Orc.call [encL d.come, encL f.come, encL f.gone, encL d.gone] (IVal.tup [encL (joinP d.come f.come f.gone d.gone), bo (joinB d.come f.come f.gone d.gone)])),
  (46, 13, 1, Orc.call [encL (joinP d.gone f.gone f.come d.come)] (i64 (ckL (joinP d.gone f.gone f.come d.come)))),
  (49, 13, 1, Orc.call [encL (joinP d.gone f.gone f.come d.come)] (i64 (ckL (joinP d.gone f.gone f.come d.come)))),
  (46, 13, 5, Orc.call [encL (joinP d.come f.come f.gone d.gone)] (i64 (ckL (joinP d.come f.come f.gone d.gone)))),
  (49, 13, 5, Orc.call [encL (joinP d.come f.come f.gone d.gone)] (i64 (ckL (joinP d.come f.come f.gone d.gone))))])
  fun x x_1 => Tree.fail 1000003 0
theorem t18 (d f : Diff) : levF prog Proofs.Tryz.f18 [encD d, encD f] (T18 d f) =
  Tree.need (ILeL [encD d] [encD d] ∧ ASpec prog 20 [encD d] (i64 (validD d)))
  (Tree.br (decide (validD d = (0 : Int)))
  (Tree.need (ILeL [encD f] [encD f] ∧ ASpec prog 20 [encD f] (i64 (validD f)))
  (Tree.br (!decide (validD f = (0 : Int)))
  (Tree.done Exit.ret
  (lret
  (IVal.tup
  [IVal.agg
  [IVal.v (Value.slice none 0 0), IVal.v (Value.slice none 0 0), IVal.v (Value.slice none 0 0), IVal.v (Value.slice none 0 0),
  IVal.v (Value.slice none 0 0), IVal.v (Value.slice none 0 0)],
  i64 (validD f)])))
  (Tree.need
  (ILeL
  [IVal.agg [slE 6 encO d.gone.origins, slE 2 encT d.gone.paths, slE 18 encK d.gone.keys], IVal.agg [slE 6 encO f.gone.origins, slE 2 encT f.gone.paths, slE 18 encK f.gone.keys],
  IVal.agg [slE 6 encO f.come.origins, slE 2 encT f.come.paths, slE 18 encK f.come.keys], IVal.agg [slE 6 encO d.come.origins, slE 2 encT d.come.paths, slE 18 encK d.come.keys]]
  [encL d.gone, encL f.gone, encL f.come, encL d.come] ∧
  ASpec prog 35 [encL d.gone, encL f.gone, encL f.come, encL d.come] (IVal.tup [encL (joinP d.gone f.gone f.come d.come), bo (joinB d.gone f.gone f.come d.come)]))
  (Tree.br (joinB d.gone f.gone f.come d.come)
  (Tree.done Exit.ret
  (lret
  (IVal.tup
  [IVal.agg
  [IVal.v (Value.slice none 0 0), IVal.v (Value.slice none 0 0), IVal.v (Value.slice none 0 0), IVal.v (Value.slice none 0 0),
  IVal.v (Value.slice none 0 0), IVal.v (Value.slice none 0 0)],
  IVal.v (Value.int IntKind.i64 (6 : Int))])))
  (Tree.need
  (ILeL
  [IVal.agg [slE 6 encO d.come.origins, slE 2 encT d.come.paths, slE 18 encK d.come.keys],
  IVal.agg [slE 6 encO f.come.origins, slE 2 encT f.come.paths, slE 18 encK f.come.keys],
  IVal.agg [slE 6 encO f.gone.origins, slE 2 encT f.gone.paths, slE 18 encK f.gone.keys],
  IVal.agg [slE 6 encO d.gone.origins, slE 2 encT d.gone.paths, slE 18 encK d.gone.keys]]
  [encL d.come, encL f.come, encL f.gone, encL d.gone] ∧
  ASpec prog 35 [encL d.come, encL f.come, encL f.gone, encL d.gone] (IVal.tup [encL (joinP d.come f.come f.gone d.gone), bo (joinB d.come f.come f.gone d.gone)]))
  (Tree.br (joinB d.come f.come f.gone d.gone)
  (Tree.done Exit.ret
  (lret
  (IVal.tup
  [IVal.agg
  [IVal.v (Value.slice none 0 0), IVal.v (Value.slice none 0 0), IVal.v (Value.slice none 0 0), IVal.v (Value.slice none 0 0),
  IVal.v (Value.slice none 0 0), IVal.v (Value.slice none 0 0)],
  IVal.v (Value.int IntKind.i64 (14 : Int))])))
  (Tree.need (ILeL [encL (joinP d.gone f.gone f.come d.come)] [encL (joinP d.gone f.gone f.come d.come)] ∧ ASpec prog 26 [encL (joinP d.gone f.gone f.come d.come)] (i64 (ckL (joinP d.gone f.gone f.come d.come))))
  (Tree.br (!decide (ckL (joinP d.gone f.gone f.come d.come) = (0 : Int)))
  (Tree.done Exit.ret
  (lret
  (IVal.tup
  [IVal.agg
  [IVal.v (Value.slice none 0 0), IVal.v (Value.slice none 0 0), IVal.v (Value.slice none 0 0), IVal.v (Value.slice none 0 0),
  IVal.v (Value.slice none 0 0), IVal.v (Value.slice none 0 0)],
  IVal.v (Value.int IntKind.i64 (4 : Int))])))
  (Tree.need (ILeL [encL (joinP d.come f.come f.gone d.gone)] [encL (joinP d.come f.come f.gone d.gone)] ∧ ASpec prog 26 [encL (joinP d.come f.come f.gone d.gone)] (i64 (ckL (joinP d.come f.come f.gone d.gone))))
  (Tree.br (!decide (ckL (joinP d.come f.come f.gone d.gone) = (0 : Int)))
  (Tree.done Exit.ret
  (lret
  (IVal.tup
  [IVal.agg
  [IVal.v (Value.slice none 0 0), IVal.v (Value.slice none 0 0), IVal.v (Value.slice none 0 0), IVal.v (Value.slice none 0 0),
  IVal.v (Value.slice none 0 0), IVal.v (Value.slice none 0 0)],
  IVal.v (Value.int IntKind.i64 (4 : Int))])))
  (Tree.done Exit.ret
  (lret
  (IVal.tup
  [IVal.agg
  [slE 6 encO (joinP d.gone f.gone f.come d.come).origins, slE 2 encT (joinP d.gone f.gone f.come d.come).paths, slE 18 encK (joinP d.gone f.gone f.come d.come).keys,
  slE 6 encO (joinP d.come f.come f.gone d.gone).origins, slE 2 encT (joinP d.come f.come f.gone d.gone).paths, slE 18 encK (joinP d.come f.come f.gone d.gone).keys],
  IVal.v (Value.int IntKind.i64 (0 : Int))])))))))))))))
  (Tree.br (!decide (validD d = (0 : Int)))
  (Tree.done Exit.ret
  (lret
  (IVal.tup
  [IVal.agg
  [IVal.v (Value.slice none 0 0), IVal.v (Value.slice none 0 0), IVal.v (Value.slice none 0 0), IVal.v (Value.slice none 0 0),
  IVal.v (Value.slice none 0 0), IVal.v (Value.slice none 0 0)],
  i64 (validD d)])))
  (Tree.need
  (ILeL
  [IVal.agg [slE 6 encO d.gone.origins, slE 2 encT d.gone.paths, slE 18 encK d.gone.keys], IVal.agg [slE 6 encO f.gone.origins, slE 2 encT f.gone.paths, slE 18 encK f.gone.keys],
  IVal.agg [slE 6 encO f.come.origins, slE 2 encT f.come.paths, slE 18 encK f.come.keys], IVal.agg [slE 6 encO d.come.origins, slE 2 encT d.come.paths, slE 18 encK d.come.keys]]
  [encL d.gone, encL f.gone, encL f.come, encL d.come] ∧
  ASpec prog 35 [encL d.gone, encL f.gone, encL f.come, encL d.come] (IVal.tup [encL (joinP d.gone f.gone f.come d.come), bo (joinB d.gone f.gone f.come d.come)]))
  (Tree.br (joinB d.gone f.gone f.come d.come)
  (Tree.done Exit.ret
  (lret
  (IVal.tup
  [IVal.agg
  [IVal.v (Value.slice none 0 0), IVal.v (Value.slice none 0 0), IVal.v (Value.slice none 0 0), IVal.v (Value.slice none 0 0),
  IVal.v (Value.slice none 0 0), IVal.v (Value.slice none 0 0)],
  IVal.v (Value.int IntKind.i64 (6 : Int))])))
  (Tree.need
  (ILeL
  [IVal.agg [slE 6 encO d.come.origins, slE 2 encT d.come.paths, slE 18 encK d.come.keys], IVal.agg [slE 6 encO f.come.origins, slE 2 encT f.come.paths, slE 18 encK f.come.keys],
  IVal.agg [slE 6 encO f.gone.origins, slE 2 encT f.gone.paths, slE 18 encK f.gone.keys],
  IVal.agg [slE 6 encO d.gone.origins, slE 2 encT d.gone.paths, slE 18 encK d.gone.keys]]
  [encL d.come, encL f.come, encL f.gone, encL d.gone] ∧
  ASpec prog 35 [encL d.come, encL f.come, encL f.gone, encL d.gone] (IVal.tup [encL (joinP d.come f.come f.gone d.gone), bo (joinB d.come f.come f.gone d.gone)]))
  (Tree.br (joinB d.come f.come f.gone d.gone)
  (Tree.done Exit.ret
  (lret
  (IVal.tup
  [IVal.agg
  [IVal.v (Value.slice none 0 0), IVal.v (Value.slice none 0 0), IVal.v (Value.slice none 0 0), IVal.v (Value.slice none 0 0),
  IVal.v (Value.slice none 0 0), IVal.v (Value.slice none 0 0)],
  IVal.v (Value.int IntKind.i64 (14 : Int))])))
  (Tree.need (ILeL [encL (joinP d.gone f.gone f.come d.come)] [encL (joinP d.gone f.gone f.come d.come)] ∧ ASpec prog 26 [encL (joinP d.gone f.gone f.come d.come)] (i64 (ckL (joinP d.gone f.gone f.come d.come))))
  (Tree.br (!decide (ckL (joinP d.gone f.gone f.come d.come) = (0 : Int)))
  (Tree.done Exit.ret
  (lret
  (IVal.tup
  [IVal.agg
  [IVal.v (Value.slice none 0 0), IVal.v (Value.slice none 0 0), IVal.v (Value.slice none 0 0), IVal.v (Value.slice none 0 0),
  IVal.v (Value.slice none 0 0), IVal.v (Value.slice none 0 0)],
  IVal.v (Value.int IntKind.i64 (4 : Int))])))
  (Tree.need (ILeL [encL (joinP d.come f.come f.gone d.gone)] [encL (joinP d.come f.come f.gone d.gone)] ∧ ASpec prog 26 [encL (joinP d.come f.come f.gone d.gone)] (i64 (ckL (joinP d.come f.come f.gone d.gone))))
  (Tree.br (!decide (ckL (joinP d.come f.come f.gone d.gone) = (0 : Int)))
  (Tree.done Exit.ret
  (lret
  (IVal.tup
  [IVal.agg
  [IVal.v (Value.slice none 0 0), IVal.v (Value.slice none 0 0), IVal.v (Value.slice none 0 0), IVal.v (Value.slice none 0 0),
  IVal.v (Value.slice none 0 0), IVal.v (Value.slice none 0 0)],
  IVal.v (Value.int IntKind.i64 (4 : Int))])))
  (Tree.done Exit.ret
  (lret
  (IVal.tup
  [IVal.agg
  [slE 6 encO (joinP d.gone f.gone f.come d.come).origins, slE 2 encT (joinP d.gone f.gone f.come d.come).paths, slE 18 encK (joinP d.gone f.gone f.come d.come).keys,
  slE 6 encO (joinP d.come f.come f.gone d.gone).origins, slE 2 encT (joinP d.come f.come f.gone d.gone).paths, slE 18 encK (joinP d.come f.come f.gone d.gone).keys],
  IVal.v (Value.int IntKind.i64 (0 : Int))]))))))))))))) := by kernel_rfl
theorem c18 (d f : Diff) (hd : d.sm) (hf : f.sm) : ASpec prog 18 [encD d, encD f] (.tup [encD (composeS d f).1, i64 (composeS d f).2]) := by
  refine ASpec.treeW Proofs.Tryz.f18 (T18 d f) (by kernel_rfl) (by kernel_rfl) (t18 d f) ?_
  refine need_sat ⟨ILeL.refl _, c20 _ ?_⟩ ⟨fun h1 => need_sat ⟨ILeL.refl _, c20 _ ?_⟩ ⟨fun h2 => ⟨_, rfl, ?_⟩, fun h2 => need_sat ⟨ILeL.refl _, c35 _ _ _ _ ?_ ?_ ?_ ?_⟩ ⟨fun h3 => ⟨_, rfl, ?_⟩, fun h3 => need_sat ⟨ILeL.refl _, c35 _ _ _ _ ?_ ?_ ?_ ?_⟩ ⟨fun h4 => ⟨_, rfl, ?_⟩, fun h4 => need_sat ⟨ILeL.refl _, c26 _⟩ ⟨fun h5 => ⟨_, rfl, ?_⟩, fun h5 => need_sat ⟨ILeL.refl _, c26 _⟩ ⟨fun h6 => ⟨_, rfl, ?_⟩, fun h6 => ⟨_, rfl, ?_⟩⟩⟩⟩⟩⟩, fun h1 => ⟨fun h2 => ⟨_, rfl, ?_⟩, fun h2 => need_sat ⟨ILeL.refl _, c35 _ _ _ _ ?_ ?_ ?_ ?_⟩ ⟨fun h3 => ⟨_, rfl, ?_⟩, fun h3 => need_sat ⟨ILeL.refl _, c35 _ _ _ _ ?_ ?_ ?_ ?_⟩ ⟨fun h4 => ⟨_, rfl, ?_⟩, fun h4 => need_sat ⟨ILeL.refl _, c26 _⟩ ⟨fun h5 => ⟨_, rfl, ?_⟩, fun h5 => need_sat ⟨ILeL.refl _, c26 _⟩ ⟨fun h6 => ⟨_, rfl, ?_⟩, fun h6 => ⟨_, rfl, ?_⟩⟩⟩⟩⟩⟩⟩
  all_goals try exact absurd (nbit_f h2) (bit_f h1)
  · exact hd
  · exact hf
  · rw [composeS, if_neg (Decidable.not_not.2 (bit_t h1)), if_pos (nbit_t h2)]; exact noD_leaf rfl
  · exact hd.g
  · exact hf.g
  · exact hf.c
  · exact hd.c
  · rw [composeS, if_neg (Decidable.not_not.2 (bit_t h1)), if_neg (Decidable.not_not.2 (nbit_f h2)), if_pos h3]; exact noD_leaf rfl
  · exact hd.c
  · exact hf.c
  · exact hf.g
  · exact hd.g
  · rw [composeS, if_neg (Decidable.not_not.2 (bit_t h1)), if_neg (Decidable.not_not.2 (nbit_f h2)), if_neg (by rw [h3]; decide), if_pos h4]; exact noD_leaf rfl
  · rw [composeS, if_neg (Decidable.not_not.2 (bit_t h1)), if_neg (Decidable.not_not.2 (nbit_f h2)), if_neg (by rw [h3]; decide), if_neg (by rw [h4]; decide), if_pos (.inl (nbit_t h5))]; exact noD_leaf rfl
  · rw [composeS, if_neg (Decidable.not_not.2 (bit_t h1)), if_neg (Decidable.not_not.2 (nbit_f h2)), if_neg (by rw [h3]; decide), if_neg (by rw [h4]; decide), if_pos (.inr (nbit_t h6))]; exact noD_leaf rfl
  · rw [composeS, if_neg (Decidable.not_not.2 (bit_t h1)), if_neg (Decidable.not_not.2 (nbit_f h2)), if_neg (by rw [h3]; decide), if_neg (by rw [h4]; decide), if_neg (by rintro (h | h); exact h (nbit_f h5); exact h (nbit_f h6))]; exact pair_leaf rfl rfl
  · rw [composeS, if_pos (bit_f h1)]; exact noD_leaf rfl
end Gp
namespace Gp
def netP (a n : Int) : Pfx := ⟨4, ⟨0, IntKind.u64.wrap (a * 16777216)⟩, n⟩
def T71 (a n : Int) : Tell :=
  Tell.mk (fun x x_1 => false) (fun x x_1 => Orc.no) (fun x => Tree.fail 1000003 0) (fun x => 0) (fun x => ([], [])) (fun x x_1 x_2 => Orc.no) fun x x_1 => Tree.fail 1000003 0
theorem t71 (a n : Int) : levF prog Proofs.Tryz.f71 [u64 a, i64 n] (T71 a n) =
  Tree.need ((0 : Int) ≤ (24 : Int))
  (Tree.done Exit.ret (lret (IVal.agg [IVal.v (Value.int IntKind.u8 (4 : Int)), IVal.v (Value.int IntKind.u64 (0 : Int)), IVal.v (Value.int IntKind.u64 (IntKind.wrap IntKind.u64 (a * (16777216 : Int)))), i64 n]))) := by kernel_rfl
theorem c71 (a n : Int) : ASpec prog 71 [u64 a, i64 n] (encP (netP a n)) := by
  refine ASpec.treeW Proofs.Tryz.f71 (T71 a n) (by kernel_rfl) (by kernel_rfl) (t71 a n) ?_
  refine need_sat ?_ ⟨_, rfl, ?_⟩
  · decide
  · exact .refl _
def oneP (l : List Int) : Payload := ⟨[⟨10, netP 10 8, 8⟩], [⟨1, l⟩], []⟩
def T38 (l : List Int) : Tell :=
  Tell.mk (fun x x_1 => false) (fun x x_1 => Orc.no) (fun x => Tree.fail 1000003 0) (fun x => 0) (fun x => ([], []))
  (oget [(1, 1, 0, Orc.call [u64 (10 : Int), i64 (8 : Int)] (encP (netP (10 : Int) (8 : Int))))]) fun x x_1 => Tree.fail 1000003 0
theorem t38 (l : List Int) : levF prog Proofs.Tryz.f38 [lu32 l] (T38 l) =
  Tree.need (ILeL [IVal.v (Value.int IntKind.u64 (10 : Int)), IVal.v (Value.int IntKind.i64 (8 : Int))] [u64 (10 : Int), i64 (8 : Int)] ∧ ASpec prog 71 [u64 (10 : Int), i64 (8 : Int)] (encP (netP (10 : Int) (8 : Int))))
  (Tree.need (eqs [(1, 1), (1, 1)])
  (Tree.done Exit.ret
  (lret
  (IVal.agg
  [IVal.sl true false 6
  [IVal.agg
  [IVal.v (Value.int IntKind.u32 (10 : Int)), u8 (netP (10 : Int) (8 : Int)).fam, u64 (netP (10 : Int) (8 : Int)).addr.hi, u64 (netP (10 : Int) (8 : Int)).addr.lo, i64 (netP (10 : Int) (8 : Int)).len,
  IVal.v (Value.int IntKind.i64 (8 : Int))]],
  IVal.sl true false 2 [IVal.agg [IVal.v (Value.int IntKind.u32 (1 : Int)), lu32 l]], IVal.v (Value.slice none 0 0)])))) := by kernel_rfl
theorem c38 (l : List Int) : ASpec prog 38 [lu32 l] (encL (oneP l)) := by
  refine ASpec.treeW Proofs.Tryz.f38 (T38 l) (by kernel_rfl) (by kernel_rfl) (t38 l) ?_
  refine need_sat ⟨ILeL.refl _, c71 _ _⟩ (need_sat ?_ ⟨_, rfl, ?_⟩)
  · exact ⟨rfl, rfl, trivial⟩
  · exact .agg (.cons (ile_sl (.refl _)) (.cons (ile_sl (.refl _)) (.cons (.nil _ _ _) (.refl _))))
def T22 : Tell :=
  Tell.mk (fun r i => r == 1 && i == 0 || r == 1 && i == 2 || r == 2 && i == 0 || r == 2 && i == 4 || r == 3 && i == 0 || r == 6 && i == 13)
  (fun x x_1 => Orc.no) (fun x => Tree.fail 1000003 0) (fun x => 0) (fun x => ([], []))
  (oget
  [(1, 1, 1, Orc.call [lu32 [(2 : Int)]] (encL (oneP [(2 : Int)]))), (1, 1, 3, Orc.call [lu32 [(2 : Int), (3 : Int)]] (encL (oneP [(2 : Int), (3 : Int)]))),
  (1, 1, 4,
  Orc.call [encL (oneP [(2 : Int)]), encL (oneP [(2 : Int), (3 : Int)])] (IVal.tup [encD (betweenS (oneP [(2 : Int)]) (oneP [(2 : Int), (3 : Int)])).fst, i64 (betweenS (oneP [(2 : Int)]) (oneP [(2 : Int), (3 : Int)])).snd])),
  (12, 2, 1, Orc.call [lu32 [(2 : Int)]] (encL (oneP [(2 : Int)]))), (12, 2, 5, Orc.call [lu32 [(2 : Int), (3 : Int)]] (encL (oneP [(2 : Int), (3 : Int)]))),
  (23, 3, 1, Orc.call [lu32 [(2 : Int)]] (encL (oneP [(2 : Int)]))),
  (23, 3, 3,
  Orc.call [encL (oneP [(2 : Int)]), encD (betweenS (oneP [(2 : Int)]) (oneP [(2 : Int), (3 : Int)])).fst]
  (IVal.tup [encL (applyS (oneP [(2 : Int)]) (betweenS (oneP [(2 : Int)]) (oneP [(2 : Int), (3 : Int)])).fst).fst, i64 (applyS (oneP [(2 : Int)]) (betweenS (oneP [(2 : Int)]) (oneP [(2 : Int), (3 : Int)])).fst).snd])),
  (33, 4, 0, Orc.call [u32 (4294967295 : Int), u32 (0 : Int)] (IVal.tup [bo (beforeS (4294967295 : Int) (0 : Int)).fst, i64 (beforeS (4294967295 : Int) (0 : Int)).snd])),
  (39, 5, 0, Orc.call [u32 (0 : Int), u32 (2147483648 : Int)] (IVal.tup [bo (beforeS (0 : Int) (2147483648 : Int)).fst, i64 (beforeS (0 : Int) (2147483648 : Int)).snd])),
  (45, 6, 5,
  Orc.call [encD (betweenS (oneP [(2 : Int)]) (oneP [(2 : Int), (3 : Int)])).fst, encD (Diff.mk (Payload.mk [] (oneP [(2 : Int)]).paths []) (Payload.mk [] (oneP [(2 : Int), (3 : Int)]).paths []))]
  (bo (decide ((betweenS (oneP [(2 : Int)]) (oneP [(2 : Int), (3 : Int)])).fst = Diff.mk (Payload.mk [] (oneP [(2 : Int)]).paths []) (Payload.mk [] (oneP [(2 : Int), (3 : Int)]).paths []))))),
  (45, 6, 14, Orc.call [lu32 [(2 : Int), (3 : Int)]] (encL (oneP [(2 : Int), (3 : Int)]))),
  (45, 6, 15,
  Orc.call [encL (applyS (oneP [(2 : Int)]) (betweenS (oneP [(2 : Int)]) (oneP [(2 : Int), (3 : Int)])).fst).fst, encL (oneP [(2 : Int), (3 : Int)])]
  (bo (decide ((applyS (oneP [(2 : Int)]) (betweenS (oneP [(2 : Int)]) (oneP [(2 : Int), (3 : Int)])).fst).fst = oneP [(2 : Int), (3 : Int)]))))])
  fun x x_1 => Tree.fail 1000003 0
theorem t22 : levF prog Proofs.Tryz.f22 [] T22 =
  Tree.need (ILeL [IVal.sl true false 1 [IVal.v (Value.int IntKind.u32 (2 : Int))]] [lu32 [(2 : Int)]] ∧ ASpec prog 38 [lu32 [(2 : Int)]] (encL (oneP [(2 : Int)])))
  (Tree.need
  (ILeL [IVal.sl true false 1 [IVal.v (Value.int IntKind.u32 (2 : Int)), IVal.v (Value.int IntKind.u32 (3 : Int))]] [lu32 [(2 : Int), (3 : Int)]] ∧
  ASpec prog 38 [lu32 [(2 : Int), (3 : Int)]] (encL (oneP [(2 : Int), (3 : Int)])))
  (Tree.need
  (ILeL [encL (oneP [(2 : Int)]), encL (oneP [(2 : Int), (3 : Int)])] [encL (oneP [(2 : Int)]), encL (oneP [(2 : Int), (3 : Int)])] ∧
  ASpec prog 10 [encL (oneP [(2 : Int)]), encL (oneP [(2 : Int), (3 : Int)])] (IVal.tup [encD (betweenS (oneP [(2 : Int)]) (oneP [(2 : Int), (3 : Int)])).fst, i64 (0 : Int)]))
  (Tree.need (ILeL [IVal.sl true false 1 [IVal.v (Value.int IntKind.u32 (2 : Int))]] [lu32 [(2 : Int)]] ∧ ASpec prog 38 [lu32 [(2 : Int)]] (encL (oneP [(2 : Int)])))
  (Tree.need
  (ILeL [IVal.sl true false 1 [IVal.v (Value.int IntKind.u32 (2 : Int)), IVal.v (Value.int IntKind.u32 (3 : Int))]] [lu32 [(2 : Int), (3 : Int)]] ∧
  ASpec prog 38 [lu32 [(2 : Int), (3 : Int)]] (encL (oneP [(2 : Int), (3 : Int)])))
  (Tree.need (ILeL [IVal.sl true false 1 [IVal.v (Value.int IntKind.u32 (2 : Int))]] [lu32 [(2 : Int)]] ∧ ASpec prog 38 [lu32 [(2 : Int)]] (encL (oneP [(2 : Int)])))
  (Tree.need
  (ILeL [encL (oneP [(2 : Int)]), encD (betweenS (oneP [(2 : Int)]) (oneP [(2 : Int), (3 : Int)])).fst] [encL (oneP [(2 : Int)]), encD (betweenS (oneP [(2 : Int)]) (oneP [(2 : Int), (3 : Int)])).fst] ∧
  ASpec prog 12 [encL (oneP [(2 : Int)]), encD (betweenS (oneP [(2 : Int)]) (oneP [(2 : Int), (3 : Int)])).fst]
  (IVal.tup [encL (applyS (oneP [(2 : Int)]) (betweenS (oneP [(2 : Int)]) (oneP [(2 : Int), (3 : Int)])).fst).fst, i64 (0 : Int)]))
  (Tree.need
  (ILeL [IVal.v (Value.int IntKind.u32 (4294967295 : Int)), IVal.v (Value.int IntKind.u32 (0 : Int))] [u32 (4294967295 : Int), u32 (0 : Int)] ∧
  ASpec prog 39 [u32 (4294967295 : Int), u32 (0 : Int)] (IVal.tup [bo true, i64 (0 : Int)]))
  (Tree.need
  (ILeL [IVal.v (Value.int IntKind.u32 (0 : Int)), IVal.v (Value.int IntKind.u32 (2147483648 : Int))] [u32 (0 : Int), u32 (2147483648 : Int)] ∧
  ASpec prog 39 [u32 (0 : Int), u32 (2147483648 : Int)] (IVal.tup [bo false, i64 (2 : Int)]))
  (Tree.br true
  (Tree.need
  (ILeL
  [encD (betweenS (oneP [(2 : Int)]) (oneP [(2 : Int), (3 : Int)])).fst,
  IVal.agg
  [IVal.v (Value.slice none 0 0), slE 2 encT (oneP [(2 : Int)]).paths, IVal.v (Value.slice none 0 0), IVal.v (Value.slice none 0 0),
  slE 2 encT (oneP [(2 : Int), (3 : Int)]).paths, IVal.v (Value.slice none 0 0)]]
  [encD (betweenS (oneP [(2 : Int)]) (oneP [(2 : Int), (3 : Int)])).fst, encD (Diff.mk (Payload.mk [] (oneP [(2 : Int)]).paths []) (Payload.mk [] (oneP [(2 : Int), (3 : Int)]).paths []))] ∧
  ASpec prog 14 [encD (betweenS (oneP [(2 : Int)]) (oneP [(2 : Int), (3 : Int)])).fst, encD (Diff.mk (Payload.mk [] (oneP [(2 : Int)]).paths []) (Payload.mk [] (oneP [(2 : Int), (3 : Int)]).paths []))]
  (bo true))
  (Tree.br true
  (Tree.br true
  (Tree.need
  (ILeL [IVal.sl true false 1 [IVal.v (Value.int IntKind.u32 (2 : Int)), IVal.v (Value.int IntKind.u32 (3 : Int))]] [lu32 [(2 : Int), (3 : Int)]] ∧
  ASpec prog 38 [lu32 [(2 : Int), (3 : Int)]] (encL (oneP [(2 : Int), (3 : Int)])))
  (Tree.need
  (ILeL [encL (applyS (oneP [(2 : Int)]) (betweenS (oneP [(2 : Int)]) (oneP [(2 : Int), (3 : Int)])).fst).fst, encL (oneP [(2 : Int), (3 : Int)])]
  [encL (applyS (oneP [(2 : Int)]) (betweenS (oneP [(2 : Int)]) (oneP [(2 : Int), (3 : Int)])).fst).fst, encL (oneP [(2 : Int), (3 : Int)])] ∧
  ASpec prog 15 [encL (applyS (oneP [(2 : Int)]) (betweenS (oneP [(2 : Int)]) (oneP [(2 : Int), (3 : Int)])).fst).fst, encL (oneP [(2 : Int), (3 : Int)])] (bo true))
  (Tree.br true (Tree.br true (Tree.br true (Tree.done Exit.ret (lret (IVal.v (Value.bool true)))) (Tree.done Exit.ret (lret (IVal.v (Value.bool false))))) (Tree.done Exit.ret (lret (IVal.v (Value.bool false)))))
  (Tree.done Exit.ret (lret (IVal.v (Value.bool false)))))))
  (Tree.done Exit.ret (lret (IVal.v (Value.bool false)))))
  (Tree.done Exit.ret (lret (IVal.v (Value.bool false))))))
  (Tree.done Exit.ret (lret (IVal.v (Value.bool false))))))))))))) := by kernel_rfl
theorem sm_of {p : Payload} (h : (decide (p.origins.length ≤ 3000) && decide (p.paths.length ≤ 3000) && decide (p.keys.length ≤ 3000) && p.paths.all fun a => decide (a.provs.length ≤ 1000000)) = true) : p.sm := by
  simp only [Bool.and_eq_true, decide_eq_true_eq, List.all_eq_true] at h
  exact ⟨h.1.1.1, h.1.1.2, h.1.2, h.2⟩
theorem c22 : ASpec prog 22 [] (bo true) := by
  refine ASpec.treeW Proofs.Tryz.f22 T22 (by kernel_rfl) (by kernel_rfl) t22 ?_
  refine need_sat ⟨(by repeat' first | exact ILeL.refl _ | exact ILe.refl _ | exact ILe.nil _ _ _ | exact ILe.sl (fun h => by cases h) (fun h => h) (ILeL.refl _) | apply ILeL.cons | apply ILe.agg | apply ILe.tup), c38 _⟩ (need_sat ⟨(by repeat' first | exact ILeL.refl _ | exact ILe.refl _ | exact ILe.nil _ _ _ | exact ILe.sl (fun h => by cases h) (fun h => h) (ILeL.refl _) | apply ILeL.cons | apply ILe.agg | apply ILe.tup), c38 _⟩ (need_sat ⟨ILeL.refl _, c10 _ _ ?_ ?_⟩ (need_sat ⟨(by repeat' first | exact ILeL.refl _ | exact ILe.refl _ | exact ILe.nil _ _ _ | exact ILe.sl (fun h => by cases h) (fun h => h) (ILeL.refl _) | apply ILeL.cons | apply ILe.agg | apply ILe.tup), c38 _⟩ (need_sat ⟨(by repeat' first | exact ILeL.refl _ | exact ILe.refl _ | exact ILe.nil _ _ _ | exact ILe.sl (fun h => by cases h) (fun h => h) (ILeL.refl _) | apply ILeL.cons | apply ILe.agg | apply ILe.tup), c38 _⟩ (need_sat ⟨(by repeat' first | exact ILeL.refl _ | exact ILe.refl _ | exact ILe.nil _ _ _ | exact ILe.sl (fun h => by cases h) (fun h => h) (ILeL.refl _) | apply ILeL.cons | apply ILe.agg | apply ILe.tup), c38 _⟩ (need_sat ⟨ILeL.refl _, c12 _ _ ?_ ?_⟩ (need_sat ⟨ILeL.refl _, c39 _ _⟩ (need_sat ⟨ILeL.refl _, c39 _ _⟩ ⟨fun _ => need_sat ⟨(by repeat' first | exact ILeL.refl _ | exact ILe.refl _ | exact ILe.nil _ _ _ | exact ILe.sl (fun h => by cases h) (fun h => h) (ILeL.refl _) | apply ILeL.cons | apply ILe.agg | apply ILe.tup), c14 _ _ ?_⟩ ⟨fun _ => ⟨fun _ => need_sat ⟨(by repeat' first | exact ILeL.refl _ | exact ILe.refl _ | exact ILe.nil _ _ _ | exact ILe.sl (fun h => by cases h) (fun h => h) (ILeL.refl _) | apply ILeL.cons | apply ILe.agg | apply ILe.tup), c38 _⟩ (need_sat ⟨ILeL.refl _, c15 _ _ ?_⟩ ⟨fun _ => ⟨fun _ => ⟨fun _ => ⟨_, rfl, ?_⟩, fun h => (by cases h)⟩, fun h => (by cases h)⟩, fun h => (by cases h)⟩), fun h => (by cases h)⟩, fun h => (by cases h)⟩, fun h => (by cases h)⟩))))))))
  all_goals first
    | exact .refl _
    | exact sm_of (by kernel_rfl)
    | exact ⟨sm_of (by kernel_rfl), sm_of (by kernel_rfl)⟩
    | exact (sm_of (by kernel_rfl)).ok
end Gp
namespace Gp
section
variable {H : Type} {enc : TypeId × Value → H} {w : World} {base : Nat} {spare : Nat → Bool} {held : Bool}
theorem wf_in {k : IntKind} {n : Int} (h : (Lit.int k n).wf = true) : k.min ≤ n ∧ n ≤ k.max := by simpa [Lit.wf] using h
theorem iv {k : IntKind} {n : Int} : IRep w (allF w) (.v (.int k n)) (.int k n) := by rw [IRep]; exact ⟨rfl, rfl⟩
theorem ic {d : IVal} {ds : List IVal} {u : Value} {us : List Value} (h : IRep w (allF w) d u) (h' : IRepL w (allF w) ds us) : IRepL w (allF w) (d :: ds) (u :: us) := by rw [IRepL]; exact ⟨u, us, rfl, h, h'⟩
theorem in0 : IRepL w (allF w) [] [] := by rw [IRepL]
theorem ia {ds : List IVal} {us : List Value} (h : IRepL w (allF w) ds us) (ho : ds.all ione = true) : IRep w (allF w) (.agg ds) (.agg us.toArray) := by rw [IRep]; exact ⟨us.toArray, rfl, by simpa using h, ho⟩
end
end Gp
namespace Gp
def byteI (n : Int) : Prop := 0 ≤ n ∧ n ≤ 255
def RKey.rng (k : RKey) : Prop := ∀ n ∈ rootL k, byteI n
def Addr.rng (a : Addr) : Prop := (0 ≤ a.hi ∧ a.hi < 2 ^ 64) ∧ (0 ≤ a.lo ∧ a.lo < 2 ^ 64)
def Attest.rng (a : Attest) : Prop := 0 ≤ a.cust ∧ ∀ n ∈ a.provs, 0 ≤ n
theorem anyI_none {p : Nat → Bool} {n : Nat} : anyI p 0 n = false ↔ ∀ i, i < n → p i = false := by
  constructor
  · intro h i hi
    cases hp : p i with
    | false => rfl
    | true => rw [anyI_iff.2 ⟨i, hi, hp⟩] at h; cases h
  · intro h
    cases hn : anyI p 0 n with
    | false => rfl
    | true => obtain ⟨i, hi, hp⟩ := anyI_iff.1 hn; rw [h i hi] at hp; cases hp
structure Payload.rng (p : Payload) : Prop where
  o : ∀ x ∈ p.origins, x.pfx.addr.rng
  t : ∀ x ∈ p.paths, x.rng
  k : ∀ x ∈ p.keys, x.rng
theorem getD_memG {α : Type} [Inhabited α] (l : List α) (i : Nat) (h : i < l.length) : l.getD i default ∈ l := by
  simp [List.getD_eq_getElem?_getD, List.getElem?_eq_getElem h]
end Gp
namespace Gp
section
variable {α : Type} [Inhabited α] [DecidableEq α] {c : α → α → Int}
theorem TW.self {β : Type} {c : β → β → Int} (h : TW c) (x : β) : c x x = 0 := by have := h.asy x x; omega
def SS {β : Type} (c : β → β → Int) (l : List β) : Prop := l.Pairwise fun a b => c a b < 0
theorem memD {β : Type} [Inhabited β] {l : List β} {x : β} : x ∈ l ↔ ∃ i, i < l.length ∧ l.getD i default = x := by
  rw [List.mem_iff_getElem]
  constructor
  · rintro ⟨i, hi, rfl⟩; exact ⟨i, hi, by simp [List.getD_eq_getElem?_getD, List.getElem?_eq_getElem hi]⟩
  · rintro ⟨i, hi, rfl⟩; exact ⟨i, hi, by simp [List.getD_eq_getElem?_getD, List.getElem?_eq_getElem hi]⟩
theorem SS.at {β : Type} [Inhabited β] {c : β → β → Int} {l : List β} (h : SS c l) {i j : Nat} (hij : i < j) (hj : j < l.length) : c (l.getD i default) (l.getD j default) < 0 := by
  have := List.pairwise_iff_getElem.1 h i j (by omega) hj hij
  simpa [List.getD_eq_getElem?_getD, List.getElem?_eq_getElem hj, List.getElem?_eq_getElem (show i < l.length by omega)] using this
theorem SS.of {β : Type} [Inhabited β] {c : β → β → Int} {l : List β} (h : ∀ i j, i < j → j < l.length → c (l.getD i default) (l.getD j default) < 0) : SS c l := by
  refine List.pairwise_iff_getElem.2 fun i j hi hj hij => ?_
  have := h i j hij hj
  simpa [List.getD_eq_getElem?_getD, List.getElem?_eq_getElem hj, List.getElem?_eq_getElem hi] using this
theorem SS.inj (tw : TW c) {l : List α} (h : SS c l) {x y : α} (hx : x ∈ l) (hy : y ∈ l) (hz : c x y = 0) : x = y := by
  obtain ⟨i, hi, rfl⟩ := memD.1 hx
  obtain ⟨j, hj, rfl⟩ := memD.1 hy
  rcases Nat.lt_trichotomy i j with g | g | g
  · have := h.at g hj; omega
  · rw [g]
  · have := (tw.asy _ _).1 (h.at g hi); omega
theorem SS.ext {β : Type} {c : β → β → Int} (tw : TW c) : ∀ {l l' : List β}, SS c l → SS c l' → (∀ x, x ∈ l ↔ x ∈ l') → l = l'
  | [], [], _, _, _ => rfl
  | [], y :: l', _, _, h => by have := (h y).2 (List.mem_cons_self ..); cases this
  | x :: l, [], _, _, h => by have := (h x).1 (List.mem_cons_self ..); cases this
  | x :: l, y :: l', h1, h2, h => by
    obtain ⟨a1, a2⟩ := List.pairwise_cons.1 h1
    obtain ⟨b1, b2⟩ := List.pairwise_cons.1 h2
    have e : x = y := by
      rcases List.mem_cons.1 ((h x).1 (List.mem_cons_self ..)) with g | g
      · exact g
      · rcases List.mem_cons.1 ((h y).2 (List.mem_cons_self ..)) with k | k
        · exact k.symm
        · have := (tw.asy _ _).1 (b1 x g); have := a1 y k; omega
    subst e
    congr 1
    refine SS.ext tw a2 b2 fun z => ⟨fun hz => ?_, fun hz => ?_⟩
    · rcases List.mem_cons.1 ((h z).1 (List.mem_cons_of_mem _ hz)) with g | g
      · subst g; have := a1 z hz; have := tw.self z; omega
      · exact g
    · rcases List.mem_cons.1 ((h z).2 (List.mem_cons_of_mem _ hz)) with g | g
      · subst g; have := b1 z hz; have := tw.self z; omega
      · exact g
theorem SS.filter {β : Type} {c : β → β → Int} {l : List β} (h : SS c l) (p : β → Bool) : SS c (l.filter p) := List.Pairwise.filter p h
theorem SS.sub_len {β : Type} [DecidableEq β] {c : β → β → Int} (tw : TW c) {l l' : List β} (h : SS c l) (h' : SS c l') (hs : ∀ x, x ∈ l → x ∈ l') : l.length ≤ l'.length := by
  have : l = l'.filter fun x => decide (x ∈ l) := SS.ext tw h (h'.filter _) fun x => by
    simp only [List.mem_filter, decide_eq_true_eq]; exact ⟨fun hx => ⟨hs x hx, hx⟩, fun hx => hx.2⟩
  rw [this]; exact List.length_filter_le _ _
def posG (c : α → α → Int) (l : List α) (x : α) : Nat := bs (fun h => decide (c (l.getD h default) x < 0)) l.length 0 l.length
def missG (c : α → α → Int) (l : List α) (x : α) : Bool := decide (posG c l x = l.length) || !decide (l.getD (posG c l x) default = x)
theorem miss_iff (tw : TW c) {l : List α} (h : SS c l) (x : α) : missG c l x = true ↔ x ∉ l := by
  obtain ⟨g1, g2, g3, g4⟩ := bs_spec (fun h => decide (c (l.getD h default) x < 0)) l.length 0 l.length (by omega) (by omega) (fun i j _ hij hj hp => by
    simp only [decide_eq_true_eq] at *
    by_cases e : i = j
    · rw [e]; exact hp
    · exact tw.lt_le (h.at (by omega) hj) (by omega))
  change posG c l x ≤ _ at g2
  change ∀ i, 0 ≤ i → i < posG c l x → _ at g3
  change ∀ i, posG c l x ≤ i → _ at g4
  have key : missG c l x = false ↔ x ∈ l := by
    rw [missG, Bool.or_eq_false_iff, decide_eq_false_iff_not, Bool.not_eq_false', decide_eq_true_eq]
    constructor
    · rintro ⟨a, b⟩
      exact memD.2 ⟨posG c l x, by omega, b⟩
    · intro hx
      obtain ⟨k, hk, rfl⟩ := memD.1 hx
      have hz := tw.self (l.getD k default)
      have k1 : posG c l (l.getD k default) ≤ k := by
        refine Nat.le_of_not_lt fun hlt => ?_
        have := g3 k (Nat.zero_le _) hlt
        simp only [decide_eq_true_eq] at this; omega
      have k2 : posG c l (l.getD k default) = k := by
        refine Nat.le_antisymm k1 (Nat.le_of_not_lt fun hlt => ?_)
        have := g4 _ (Nat.le_refl _) (by omega)
        simp only [decide_eq_false_iff_not] at this
        exact this (h.at hlt hk)
      rw [k2]
      exact ⟨by omega, rfl⟩
  rw [← Bool.not_eq_false, key]
theorem mem_lacks (tw : TW c) {a b : List α} (hb : SS c b) {x : α} : x ∈ a.filter (missG c b) ↔ x ∈ a ∧ x ∉ b := by
  rw [List.mem_filter, miss_iff tw hb]
def dupG {β : Type} [Inhabited β] (c : β → β → Int) (S : List β) : Bool := anyI (fun i => decide (c (S.getD i default) (S.getD (i + 1) default) = 0)) 0 (S.length - 1)
theorem dup_no {β : Type} [Inhabited β] {c : β → β → Int} (tw : TW c) {l : List β} (h : dupG c (sorted (fun a b => decide (c a b < 0)) l) = false) : SS c (sorted (fun a b => decide (c a b < 0)) l) := by
  have hs := (sorted_spec tw.tot l).2
  have hlen := sorted_length (fun a b => decide (c a b < 0)) l
  generalize sorted (fun a b => decide (c a b < 0)) l = S at *
  rw [dupG, anyI_none] at h
  have adj : ∀ i, i + 1 < S.length → c (S.getD i default) (S.getD (i + 1) default) < 0 := by
    intro i hi
    have h1 := h i (by omega)
    have h2 := hs i (i + 1) (by omega) (by omega) (by omega)
    simp only [decide_eq_false_iff_not] at h1 h2
    have := tw.asy (S.getD (i + 1) default) (S.getD i default); omega
  refine SS.of fun i j hij hj => ?_
  obtain ⟨d, rfl⟩ : ∃ d, j = i + 1 + d := ⟨j - (i + 1), by omega⟩
  induction d with
  | zero => exact adj i hj
  | succ d ih =>
    have := ih (by omega) (by omega)
    exact tw.lt_le this (by have := adj (i + 1 + d) hj; exact Int.le_of_lt this)
theorem dup_iff {β : Type} [Inhabited β] {c : β → β → Int} (tw : TW c) {a b : List β} (ha : SS c a) (hb : SS c b) : dupG c (sorted (fun a b => decide (c a b < 0)) (a ++ b)) = false ↔ ∀ x ∈ a, ∀ y ∈ b, c x y ≠ 0 := by
  have hp := (sorted_spec tw.tot (a ++ b)).1
  have sym : ∀ {x y : β}, c x y ≠ 0 → c y x ≠ 0 := fun h h' => h (tw.zero h')
  have weak : ∀ {l : List β}, SS c l → l.Pairwise fun x y => c x y ≠ 0 := fun h => h.imp fun h => by omega
  constructor
  · intro h
    have := (hp.pairwise_iff sym).1 (weak (dup_no tw h))
    exact (List.pairwise_append.1 this).2.2
  · intro h
    have hw : (sorted (fun a b => decide (c a b < 0)) (a ++ b)).Pairwise fun x y => c x y ≠ 0 := (hp.pairwise_iff sym).2 (List.pairwise_append.2 ⟨weak ha, weak hb, h⟩)
    rw [dupG, anyI_none]
    intro i hi
    have := List.pairwise_iff_getElem.1 hw i (i + 1) (by omega) (by omega) (by omega)
    simpa [List.getD_eq_getElem?_getD, List.getElem?_eq_getElem (show i + 1 < (sorted (fun a b => decide (c a b < 0)) (a ++ b)).length by omega), List.getElem?_eq_getElem (show i < (sorted (fun a b => decide (c a b < 0)) (a ++ b)).length by omega)] using this
theorem rising_iff {β : Type} [Inhabited β] {c : β → β → Int} (tw : TW c) {good : β → Bool} {l : List β} : risingB c good default l = true ↔ (∀ x ∈ l, good x = true) ∧ SS c l := by
  rw [risingB, Bool.not_eq_true', anyI_none]
  constructor
  · intro h
    have adj : ∀ i, i + 1 < l.length → c (l.getD i default) (l.getD (i + 1) default) < 0 := by
      intro i hi
      have := h (i + 1) hi
      simp only [bad, Bool.or_eq_false_iff, Bool.and_eq_false_iff, decide_eq_false_iff_not, Nat.add_sub_cancel] at this
      rcases this.2 with g | g <;> omega
    refine ⟨fun x hx => ?_, SS.of fun i j hij hj => ?_⟩
    · obtain ⟨i, hi, rfl⟩ := memD.1 hx
      have := h i hi
      simp only [bad, Bool.or_eq_false_iff, Bool.not_eq_false'] at this
      exact this.1
    · obtain ⟨d, rfl⟩ : ∃ d, j = i + 1 + d := ⟨j - (i + 1), by omega⟩
      induction d with
      | zero => exact adj i hj
      | succ d ih => exact tw.lt_le (ih (by omega) (by omega)) (by have := adj (i + 1 + d) hj; exact Int.le_of_lt this)
  · rintro ⟨h1, h2⟩ i hi
    simp only [bad, Bool.or_eq_false_iff, Bool.not_eq_false', Bool.and_eq_false_iff, decide_eq_false_iff_not]
    refine ⟨h1 _ (memD.2 ⟨i, hi, rfl⟩), ?_⟩
    by_cases h0 : 0 < i
    · exact .inr (by have := h2.at (show i - 1 < i by omega) hi; omega)
    · exact .inl h0
end
end Gp
namespace Gp
inductive El where
  | o (x : Origin)
  | t (x : Attest)
  | k (x : RKey)
  deriving DecidableEq
def inP : El → Payload → Prop
  | .o x, p => x ∈ p.origins
  | .t x, p => x ∈ p.paths
  | .k x, p => x ∈ p.keys
def same : El → El → Prop
  | .o x, .o y => cmpO x y = 0
  | .t x, .t y => cmpT x y = 0
  | .k x, .k y => cmpK x y = 0
  | _, _ => False
theorem same_self (e : El) : same e e := by cases e; exact tw_cmpO.self _; exact tw_cmpT.self _; exact tw_cmpK.self _
structure PSS (p : Payload) : Prop where
  o : SS cmpO p.origins
  t : SS cmpT p.paths
  k : SS cmpK p.keys
theorem PSS.inj {p : Payload} (h : PSS p) {e e' : El} (h1 : inP e p) (h2 : inP e' p) (hs : same e e') : e = e' := by
  cases e <;> cases e' <;> simp only [same] at hs
  · rw [h.o.inj tw_cmpO h1 h2 hs]
  · rw [h.t.inj tw_cmpT h1 h2 hs]
  · rw [h.k.inj tw_cmpK h1 h2 hs]
theorem PSS.ext {p q : Payload} (hp : PSS p) (hq : PSS q) (h : ∀ e, inP e p ↔ inP e q) : p = q := by
  have h1 := SS.ext tw_cmpO hp.o hq.o fun x => h (.o x)
  have h2 := SS.ext tw_cmpT hp.t hq.t fun x => h (.t x)
  have h3 := SS.ext tw_cmpK hp.k hq.k fun x => h (.k x)
  cases p; cases q; simp only at h1 h2 h3; subst h1 h2 h3; rfl
theorem in_minus {q : Payload} (hq : PSS q) (p : Payload) (e : El) : inP e (minusP p q) ↔ inP e p ∧ ¬ inP e q := by
  cases e
  · exact mem_lacks tw_cmpO hq.o
  · exact mem_lacks tw_cmpT hq.t
  · exact mem_lacks tw_cmpK hq.k
theorem PSS.minus {p : Payload} (hp : PSS p) (q : Payload) : PSS (minusP p q) := ⟨hp.o.filter _, hp.t.filter _, hp.k.filter _⟩
theorem in_plus (p q : Payload) (e : El) : inP e (plusP p q) ↔ inP e p ∨ inP e q := by
  cases e
  · exact (mem_sorted totO).trans List.mem_append
  · exact (mem_sorted totT).trans List.mem_append
  · exact (mem_sorted totK).trans List.mem_append
theorem dup_plus {p q : Payload} (hp : PSS p) (hq : PSS q) : dupP (plusP p q) = false ↔ ∀ e e', inP e p → inP e' q → ¬ same e e' := by
  have h1 := dup_iff tw_cmpO hp.o hq.o
  have h2 := dup_iff tw_cmpT hp.t hq.t
  have h3 := dup_iff tw_cmpK hp.k hq.k
  have e1 : dupP (plusP p q) = false ↔ (∀ x ∈ p.origins, ∀ y ∈ q.origins, cmpO x y ≠ 0) ∧ (∀ x ∈ p.paths, ∀ y ∈ q.paths, cmpT x y ≠ 0) ∧ (∀ x ∈ p.keys, ∀ y ∈ q.keys, cmpK x y ≠ 0) := by
    rw [dupP, Bool.or_eq_false_iff, Bool.or_eq_false_iff]
    exact and_congr h1 (and_congr h2 h3)
  rw [e1]
  constructor
  · rintro ⟨g1, g2, g3⟩ e e' a b
    cases e <;> cases e' <;> simp only [same, not_false_eq_true]
    · exact g1 _ a _ b
    · exact g2 _ a _ b
    · exact g3 _ a _ b
  · intro h
    exact ⟨fun x hx y hy => h (.o x) (.o y) hx hy, fun x hx y hy => h (.t x) (.t y) hx hy, fun x hx y hy => h (.k x) (.k y) hx hy⟩
theorem PSS.plus {p q : Payload} (h : dupP (plusP p q) = false) : PSS (plusP p q) := by
  rw [dupP, Bool.or_eq_false_iff, Bool.or_eq_false_iff] at h
  exact ⟨dup_no tw_cmpO h.1, dup_no tw_cmpT h.2.1, dup_no tw_cmpK h.2.2⟩
theorem size_minus (p q : Payload) : sizeP (minusP p q) = sizeP p ↔ (∀ x ∈ p.origins, missO q.origins x = true) ∧ (∀ x ∈ p.paths, missT q.paths x = true) ∧ (∀ x ∈ p.keys, missK q.keys x = true) := by
  have h1 := List.length_filter_le (missO q.origins) p.origins
  have h2 := List.length_filter_le (missT q.paths) p.paths
  have h3 := List.length_filter_le (missK q.keys) p.keys
  have k1 := List.length_filter_eq_length_iff (p := missO q.origins) (l := p.origins)
  have k2 := List.length_filter_eq_length_iff (p := missT q.paths) (l := p.paths)
  have k3 := List.length_filter_eq_length_iff (p := missK q.keys) (l := p.keys)
  rw [← k1, ← k2, ← k3]
  simp only [sizeP, minusP]
  omega
theorem apart_iff {p q : Payload} (hq : PSS q) : apartP p q = true ↔ ∀ e, inP e p → ¬ inP e q := by
  rw [apartP, decide_eq_true_eq, size_minus]
  constructor
  · rintro ⟨g1, g2, g3⟩ e he
    cases e with
    | o x => exact (miss_iff tw_cmpO hq.o x).1 (g1 x he)
    | t x => exact (miss_iff tw_cmpT hq.t x).1 (g2 x he)
    | k x => exact (miss_iff tw_cmpK hq.k x).1 (g3 x he)
  · intro h
    exact ⟨fun x hx => (miss_iff tw_cmpO hq.o x).2 (h (.o x) hx), fun x hx => (miss_iff tw_cmpT hq.t x).2 (h (.t x) hx), fun x hx => (miss_iff tw_cmpK hq.k x).2 (h (.k x) hx)⟩
theorem size_none (p : Payload) : ¬ 0 < sizeP p ↔ ∀ e, ¬ inP e p := by
  constructor
  · intro h e he
    simp only [sizeP] at h
    cases e with
    | o x => have := List.length_pos_of_mem (show x ∈ p.origins from he); omega
    | t x => have := List.length_pos_of_mem (show x ∈ p.paths from he); omega
    | k x => have := List.length_pos_of_mem (show x ∈ p.keys from he); omega
  · intro h
    have h1 : p.origins = [] := List.eq_nil_iff_forall_not_mem.2 fun x => h (.o x)
    have h2 : p.paths = [] := List.eq_nil_iff_forall_not_mem.2 fun x => h (.t x)
    have h3 : p.keys = [] := List.eq_nil_iff_forall_not_mem.2 fun x => h (.k x)
    simp [sizeP, h1, h2, h3]
def goodE : El → Prop
  | .o x => goodO x = true
  | .t x => x.provs.length ≤ 50 ∧ goodT x = true
  | .k x => goodK x = true
structure Good (p : Payload) : Prop where
  s : PSS p
  g : ∀ e, inP e p → goodE e
  lo : p.origins.length ≤ 1000
  lt' : p.paths.length ≤ 300
  lk : p.keys.length ≤ 100
theorem ck_iff (p : Payload) : ckL p = 0 ↔ Good p := by
  have r1 := rising_iff tw_cmpO (good := goodO) (l := p.origins)
  have r2 := rising_iff tw_cmpT (good := goodT) (l := p.paths)
  have r3 := rising_iff tw_cmpK (good := goodK) (l := p.keys)
  rw [ckL]
  by_cases h : 1000 < p.origins.length ∨ 300 < p.paths.length ∨ 100 < p.keys.length ∨ manyP p = true
  · rw [if_pos h]
    refine ⟨fun h => (by cases h), fun g => ?_⟩
    rcases h with h | h | h | h
    · have := g.lo; omega
    · have := g.lt'; omega
    · have := g.lk; omega
    · rw [manyP, decide_eq_true_eq] at h
      obtain ⟨a, ha, hl⟩ := h
      have := (g.g (.t a) ha).1; omega
  · rw [if_neg h]
    have hm : ∀ a ∈ p.paths, a.provs.length ≤ 50 := fun a ha => Nat.le_of_not_lt fun hl => h (.inr (.inr (.inr (by rw [manyP, decide_eq_true_eq]; exact ⟨a, ha, hl⟩))))
    by_cases hr : (risingB cmpO goodO default p.origins && risingB cmpT goodT default p.paths && risingB cmpK goodK default p.keys) = true
    · rw [if_pos hr]
      rw [Bool.and_eq_true, Bool.and_eq_true, r1, r2, r3] at hr
      refine ⟨fun _ => ⟨⟨hr.1.1.2, hr.1.2.2, hr.2.2⟩, fun e he => ?_, by omega, by omega, by omega⟩, fun _ => rfl⟩
      cases e with
      | o x => exact hr.1.1.1 x he
      | t x => exact ⟨hm x he, hr.1.2.1 x he⟩
      | k x => exact hr.2.1 x he
    · rw [if_neg hr]
      refine ⟨fun h => (by cases h), fun g => absurd ?_ hr⟩
      rw [Bool.and_eq_true, Bool.and_eq_true, r1, r2, r3]
      exact ⟨⟨⟨fun x hx => g.g (.o x) hx, g.s.o⟩, ⟨fun x hx => (g.g (.t x) hx).2, g.s.t⟩⟩, ⟨fun x hx => g.g (.k x) hx, g.s.k⟩⟩
theorem Good.sub {p q : Payload} (h : Good q) (hp : PSS p) (hs : ∀ e, inP e p → inP e q) : Good p :=
  ⟨hp, fun e he => h.g e (hs e he), Nat.le_trans (hp.o.sub_len tw_cmpO h.s.o fun x hx => hs (.o x) hx) h.lo, Nat.le_trans (hp.t.sub_len tw_cmpT h.s.t fun x hx => hs (.t x) hx) h.lt', Nat.le_trans (hp.k.sub_len tw_cmpK h.s.k fun x hx => hs (.k x) hx) h.lk⟩
theorem Good.sm {p : Payload} (h : Good p) : p.sm :=
  ⟨by have := h.lo; omega, by have := h.lt'; omega, by have := h.lk; omega, fun a ha => by have := (h.g (.t a) ha).1; unfold okT; omega⟩
theorem noP_good : Good noP := ⟨⟨.nil, .nil, .nil⟩, fun e he => (by cases e <;> cases he), by simp [noP], by simp [noP], by simp [noP]⟩
structure Valid (d : Diff) : Prop where
  g : Good d.gone
  c : Good d.come
  a : ∀ e, inP e d.gone → ¬ inP e d.come
theorem valid_iff (d : Diff) : validD d = 0 ↔ Valid d := by
  rw [validD]
  by_cases h1 : ckL d.gone = 0
  · rw [if_neg (Decidable.not_not.2 h1)]
    by_cases h2 : ckL d.come = 0
    · rw [if_neg (Decidable.not_not.2 h2)]
      have g1 := (ck_iff _).1 h1; have g2 := (ck_iff _).1 h2
      have ha := apart_iff (p := d.gone) g2.s
      by_cases h3 : apartP d.gone d.come = true
      · rw [if_pos h3]; exact ⟨fun _ => ⟨g1, g2, ha.1 h3⟩, fun _ => rfl⟩
      · rw [if_neg h3]; exact ⟨fun h => (by cases h), fun v => absurd (ha.2 v.a) h3⟩
    · rw [if_pos h2]; exact ⟨fun h => absurd h h2, fun v => absurd ((ck_iff _).2 v.c) h2⟩
  · rw [if_pos h1]; exact ⟨fun h => absurd h h1, fun v => absurd ((ck_iff _).2 v.g) h1⟩
structure App (p : Payload) (d : Diff) (q : Payload) : Prop where
  gp : Good p
  gd : Valid d
  gq : Good q
  sub : ∀ e, inP e d.gone → inP e p
  free : ∀ e e', inP e p → ¬ inP e d.gone → inP e' d.come → ¬ same e e'
  out : ∀ e, inP e q ↔ (inP e p ∧ ¬ inP e d.gone) ∨ inP e d.come
theorem apply_iff {p : Payload} {d : Diff} {q : Payload} : applyS p d = (q, 0) ↔ App p d q := by
  constructor
  · intro h
    rw [applyS] at h
    by_cases h1 : ckL p = 0
    · rw [if_neg (Decidable.not_not.2 h1)] at h
      by_cases h2 : validD d = 0
      · rw [if_neg (Decidable.not_not.2 h2)] at h
        have gp := (ck_iff _).1 h1; have gd := (valid_iff _).1 h2
        by_cases h3 : 0 < sizeP (minusP d.gone p)
        · rw [if_pos h3] at h; simp at h
        · rw [if_neg h3] at h
          have h3' := (size_none _).1 h3
          by_cases h4 : dupP (plusP (minusP p d.gone) d.come) = true
          · rw [if_pos h4] at h; simp at h
          · rw [if_neg h4] at h
            have h4' := (dup_plus (gp.s.minus d.gone) gd.c.s).1 (by simpa using h4)
            by_cases h5 : ckL (plusP (minusP p d.gone) d.come) = 0
            · rw [if_neg (Decidable.not_not.2 h5)] at h
              simp only [Prod.mk.injEq, and_true] at h; subst h
              refine ⟨gp, gd, (ck_iff _).1 h5, fun e he => Classical.byContradiction fun hn => h3' e ((in_minus gp.s _ e).2 ⟨he, hn⟩), fun e e' a b c' => h4' e e' ((in_minus gd.g.s _ e).2 ⟨a, b⟩) c', fun e => ?_⟩
              rw [in_plus, in_minus gd.g.s]
            · rw [if_pos h5] at h; simp only [Prod.mk.injEq] at h; exact absurd h.2 h5
      · rw [if_pos h2] at h; simp only [Prod.mk.injEq] at h; exact absurd h.2 h2
    · rw [if_pos h1] at h; simp only [Prod.mk.injEq] at h; exact absurd h.2 h1
  · intro h
    have h1 := (ck_iff _).2 h.gp; have h2 := (valid_iff _).2 h.gd
    have h3 : ¬ 0 < sizeP (minusP d.gone p) := (size_none _).2 fun e he => by
      obtain ⟨a, b⟩ := (in_minus h.gp.s _ e).1 he
      exact b (h.sub e a)
    have h4 : dupP (plusP (minusP p d.gone) d.come) = false := (dup_plus (h.gp.s.minus _) h.gd.c.s).2 fun e e' a b => by
      obtain ⟨a1, a2⟩ := (in_minus h.gd.g.s _ e).1 a
      exact h.free e e' a1 a2 b
    have hq : plusP (minusP p d.gone) d.come = q := PSS.ext (PSS.plus h4) h.gq.s fun e => by rw [in_plus, in_minus h.gd.g.s, h.out]
    have h5 : ckL (plusP (minusP p d.gone) d.come) = 0 := by rw [hq]; exact (ck_iff _).2 h.gq
    rw [applyS, if_neg (Decidable.not_not.2 h1), if_neg (Decidable.not_not.2 h2), if_neg h3, if_neg (by rw [h4]; decide), if_neg (Decidable.not_not.2 h5), hq]
theorem apply_fail {p : Payload} {d : Diff} (h : (applyS p d).2 ≠ 0) : (applyS p d).1 = noP := by
  unfold applyS at *
  (repeat' split) <;> first | rfl | simp_all
theorem apply_eta (p : Payload) (d : Diff) (h : (applyS p d).2 = 0) : applyS p d = ((applyS p d).1, 0) := by rw [← h]
theorem App.uniq {p q : Payload} {d : Diff} (h : App p d q) : (∀ e, inP e d.gone ↔ inP e p ∧ ¬ inP e q) ∧ (∀ e, inP e d.come ↔ inP e q ∧ ¬ inP e p) := by
  refine ⟨fun e => ⟨fun he => ⟨h.sub e he, fun hq => ?_⟩, fun ⟨a, b⟩ => ?_⟩, fun e => ⟨fun he => ⟨(h.out e).2 (.inr he), fun hp => ?_⟩, fun ⟨a, b⟩ => ?_⟩⟩
  · rcases (h.out e).1 hq with g | g
    · exact g.2 he
    · exact h.gd.a e he g
  · exact Classical.byContradiction fun hn => b ((h.out e).2 (.inl ⟨a, hn⟩))
  · exact h.free e e hp (fun hg => h.gd.a e hg he) he (same_self e)
  · rcases (h.out e).1 a with g | g
    · exact absurd g.1 b
    · exact g
theorem App.between {p q : Payload} {d : Diff} (hp : Good p) (hq : Good q) (hd : Valid d) (h1 : ∀ e, inP e d.gone ↔ inP e p ∧ ¬ inP e q) (h2 : ∀ e, inP e d.come ↔ inP e q ∧ ¬ inP e p) : App p d q := by
  refine ⟨hp, hd, hq, fun e he => ((h1 e).1 he).1, fun e e' a b c hs => ?_, fun e => ?_⟩
  · have hqe : inP e q := Classical.byContradiction fun hn => b ((h1 e).2 ⟨a, hn⟩)
    obtain ⟨c1, c2⟩ := (h2 e').1 c
    exact c2 (hq.s.inj hqe c1 hs ▸ a)
  · rw [h1, h2]
    constructor
    · intro hq'
      by_cases hp' : inP e p
      · exact .inl ⟨hp', fun g => g.2 hq'⟩
      · exact .inr ⟨hq', hp'⟩
    · rintro (⟨a, b⟩ | ⟨a, _⟩)
      · exact Classical.byContradiction fun hn => b ⟨a, hn⟩
      · exact a
theorem diff_ext {d f : Diff} (hd : Valid d) (hf : Valid f) (h1 : ∀ e, inP e d.gone ↔ inP e f.gone) (h2 : ∀ e, inP e d.come ↔ inP e f.come) : d = f := by
  have e1 := PSS.ext hd.g.s hf.g.s h1
  have e2 := PSS.ext hd.c.s hf.c.s h2
  cases d; cases f; simp only at e1 e2; subst e1 e2; rfl
theorem App.same {p q : Payload} {d f : Diff} (h : App p d q) (h' : App p f q) : d = f :=
  diff_ext h.gd h'.gd (fun e => (h.uniq.1 e).trans (h'.uniq.1 e).symm) (fun e => (h.uniq.2 e).trans (h'.uniq.2 e).symm)
end Gp
namespace Gp
theorem cmpI_lt (a b : Int) : cmpI a b < 0 ↔ a < b := by unfold cmpI; split; · simp [*]
                                                         split <;> simp [*]
theorem cmpI_eq (a b : Int) : cmpI a b = 0 ↔ a = b := by unfold cmpI; split; · simp; omega
                                                         split; · simp; omega
                                                         · simp; omega
theorem cmpA_lt (a b : Addr) : cmpA a b < 0 ↔ (a.hi < b.hi ∨ (a.hi = b.hi ∧ a.lo < b.lo)) := by
  unfold cmpA
  have h1 := cmpI_lt a.hi b.hi; have h2 := cmpI_eq a.hi b.hi; have h3 := cmpI_lt a.lo b.lo
  split
  · rw [h1]; omega
  · rw [h3]; omega
theorem cmpA_eq (a b : Addr) : cmpA a b = 0 ↔ a = b := by
  unfold cmpA
  have h2 := cmpI_eq a.hi b.hi; have h3 := cmpI_eq a.lo b.lo
  rw [Addr.ext_iff]
  split
  · omega
  · rw [h3]; omega
theorem cmpA'_lt (a b : Addr) : cmpA' a b < 0 ↔ (a.hi < b.hi ∨ (a.hi = b.hi ∧ a.lo < b.lo)) := by
  unfold cmpA'
  split
  · rename_i h; rw [Addr.ext_iff] at h; simp; omega
  · split
    · simp; omega
    · simp; omega
theorem orI_lt (x : Int) (l : List Int) : orI (x :: l) < 0 ↔ (x < 0 ∨ (x = 0 ∧ orI l < 0)) := by
  rw [orI]; split
  · rename_i h; simp [h]
  · rename_i h; simp only [ne_eq, Classical.not_not] at h; simp [h]
theorem orI_nil : orI [] < 0 ↔ False := by simp [orI]
theorem befO_eq (a b : Origin) : decide (0 ≤ cmpO a b) = !befO a b := by
  have a1 := cmpI_lt a.asn b.asn; have a2 := cmpI_eq a.asn b.asn
  have b1 := cmpI_lt a.pfx.fam b.pfx.fam; have b2 := cmpI_eq a.pfx.fam b.pfx.fam
  have c1 := cmpA_lt a.pfx.addr b.pfx.addr; have c2 := cmpA_eq a.pfx.addr b.pfx.addr; have c18003 := cmpA'_lt a.pfx.addr b.pfx.addr
  have d1 := cmpI_lt a.pfx.len b.pfx.len; have d2 := cmpI_eq a.pfx.len b.pfx.len
  have e1 := cmpI_lt a.max b.max
  have ne : ∀ x : Int, decide (0 ≤ x) = !decide (x < 0) := fun x => by rw [Bool.eq_iff_iff]; simp
  have key : decide (cmpO a b < 0) = befO a b := by
    rw [Bool.eq_iff_iff, decide_eq_true_eq]
    unfold cmpO
    simp only [orI_lt, orI_nil, a1, a2, b1, b2, c1, c2, d1, d2, e1]
    unfold befO
    split
    · rename_i h; simp [h]
    · rename_i h; simp only [ne_eq, Classical.not_not] at h
      split
      · rename_i h2; simp [h, h2]
      · rename_i h2; simp only [ne_eq, Classical.not_not] at h2
        split
        · rename_i h3; simp [h, h2, h3, c18003]
        · rename_i h3; simp only [ne_eq, Classical.not_not] at h3
          split
          · rename_i h4; simp [h, h2, h3, h4]
          · rename_i h4; simp only [ne_eq, Classical.not_not] at h4
            simp [h, h2, h3, h4]
  rw [ne, key]
theorem befT_eq (a b : Attest) : decide (0 ≤ cmpT a b) = !befT a b := by
  have a1 := cmpI_lt a.cust b.cust
  unfold cmpT befT
  rw [Bool.eq_iff_iff]; simp; omega
theorem u8_of (n : Int) (h : byteI n) : ((UInt8.ofNat n.toNat).toNat : Int) = n := by
  obtain ⟨h1, h2⟩ := h
  rw [UInt8.toNat_ofNat']; omega
theorem u8_lt (a b : Int) (ha : byteI a) (hb : byteI b) : UInt8.ofNat a.toNat < UInt8.ofNat b.toNat ↔ a < b := by
  rw [UInt8.lt_iff_toNat_lt]
  have h1 := u8_of a ha; have h2 := u8_of b hb; omega
theorem cmpB_lex (e : Bool) : ∀ (x y : List Int), x.length = y.length → (∀ n ∈ x, byteI n) → (∀ n ∈ y, byteI n) → lexB (x.zip y) e = if cmpB x y ≠ 0 then decide (cmpB x y < 0) else e
  | [], [], _, _, _ => by simp [lexB, cmpB, Lib.bytesOf, Lib.compareBytes]
  | [], _ :: _, h, _, _ => by simp at h
  | _ :: _, [], h, _, _ => by simp at h
  | a :: x, b :: y, h, hx, hy => by
    have ih := cmpB_lex e x y (by simpa using h) (fun n hn => hx n (by simp [hn])) (fun n hn => hy n (by simp [hn]))
    have ha := hx a (by simp); have hb := hy b (by simp)
    have e1 : cmpB (a :: x) (b :: y) = if a < b then -1 else if b < a then 1 else cmpB x y := by
      show Lib.compareBytes (UInt8.ofNat a.toNat :: Lib.bytesOf x) (UInt8.ofNat b.toNat :: Lib.bytesOf y) = _
      rw [Lib.compareBytes]
      simp only [u8_lt a b ha hb, u8_lt b a hb ha]; rfl
    rw [List.zip_cons_cons, lexB, ih, e1]
    by_cases h1 : a < b
    · rw [if_pos (by omega), if_pos h1]; simp [h1]
    · by_cases h2 : b < a
      · rw [if_pos (by omega), if_neg h1, if_pos h2]; simp [h1]
      · rw [if_neg (by omega), if_neg h1, if_neg h2]
theorem befK_eq (a b : RKey) (ha : a.rng) (hb : b.rng) : decide (0 ≤ cmpK a b) = !befK a b := by
  have ne : ∀ x : Int, decide (0 ≤ x) = !decide (x < 0) := fun x => by rw [Bool.eq_iff_iff]; simp
  have hz : befK a b = if a.asn ≠ b.asn then decide (a.asn < b.asn) else lexB ((rootL a).zip (rootL b)) (decide (a.height < b.height)) := rfl
  have hl := cmpB_lex (decide (a.height < b.height)) (rootL a) (rootL b) rfl ha hb
  have a1 := cmpI_lt a.asn b.asn; have a2 := cmpI_eq a.asn b.asn
  have e1 := cmpI_lt a.height b.height
  have key : decide (cmpK a b < 0) = befK a b := by
    rw [hz, hl, Bool.eq_iff_iff, decide_eq_true_eq]
    unfold cmpK
    simp only [orI_lt, orI_nil, a1, a2, e1]
    split
    · rename_i h; simp [h]
    · rename_i h; simp only [ne_eq, Classical.not_not] at h
      split
      · rename_i h2; simp [h, h2]
      · rename_i h2; simp only [ne_eq, Classical.not_not] at h2
        simp [h, h2]
  rw [ne, key]
end Gp
namespace Gp
theorem and64 (a b : Int) (ha : 0 ≤ a ∧ a < 2 ^ 64) (hb : 0 ≤ b ∧ b < 2 ^ 64) : ibits .u64 (· &&& ·) a b = ((a.toNat &&& b.toNat : Nat) : Int) := by
  have e : ∀ x : Int, 0 ≤ x ∧ x < 2 ^ 64 → (BitVec.ofInt 64 x).toNat = x.toNat := by
    intro x hx
    rw [BitVec.toNat_ofInt, Int.emod_eq_of_lt hx.1 (by simpa using hx.2)]
  unfold ibits
  show IntKind.u64.wrap (((BitVec.ofInt 64 a) &&& (BitVec.ofInt 64 b)).toNat : Int) = _
  rw [BitVec.toNat_and, e a ha, e b hb]
  have : a.toNat &&& b.toNat ≤ a.toNat := Nat.and_le_left
  rw [IntWalk.u64_in _ ⟨by omega, by omega⟩]
theorem hole_bit (n m k : Nat) (h : m ≤ n) : (2 ^ n - 2 ^ m).testBit k = decide (m ≤ k ∧ k < n) := by
  have e : 2 ^ n - 2 ^ m = (2 ^ (n - m) - 1) <<< m := by
    rw [Nat.shiftLeft_eq, Nat.sub_mul, ← Nat.pow_add, Nat.one_mul, Nat.sub_add_cancel h]
  rw [e, Nat.testBit_shiftLeft, Nat.testBit_two_pow_sub_one, Bool.eq_iff_iff]
  simp; omega
theorem and_hole (n m x : Nat) (h : m ≤ n) (hx : x < 2 ^ n) : x &&& (2 ^ n - 2 ^ m) = x ↔ ∀ k, k < m → x.testBit k = false := by
  constructor
  · intro e k hk
    have := congrArg (fun y => y.testBit k) e
    simp only [Nat.testBit_and, hole_bit n m k h] at this
    rw [← this, show decide (m ≤ k ∧ k < n) = false from by simp; omega, Bool.and_false]
  · intro hz
    refine Nat.eq_of_testBit_eq fun k => ?_
    rw [Nat.testBit_and, hole_bit n m k h]
    rcases Nat.lt_or_ge k m with hk | hk
    · rw [hz k hk]; rfl
    · rcases Nat.lt_or_ge k n with hn | hn
      · rw [show decide (m ≤ k ∧ k < n) = true from by simp; omega, Bool.and_true]
      · rw [Nat.testBit_lt_two_pow (Nat.lt_of_lt_of_le hx (Nat.pow_le_pow_right (by decide) hn))]; rfl
theorem shl_ones (m : Int) (h0 : 0 ≤ m) (h : m ≤ 64) : shl64 ones m = ((2 ^ 64 - 2 ^ m.toNat : Nat) : Int) := by
  unfold shl64 ones
  have hm : min m.toNat 64 = m.toNat := by omega
  rw [hm]
  have hp : (2 : Nat) ^ m.toNat ≤ 2 ^ 64 := Nat.pow_le_pow_right (by decide) (by omega)
  have hpos : 0 < (2 : Nat) ^ m.toNat := Nat.pos_of_ne_zero (by simp)
  generalize hq : (2 : Nat) ^ m.toNat = q at *
  have e : (2 : Int) ^ m.toNat = (q : Int) := by rw [← hq]; simp
  rw [e, IntKind.wrap]
  simp [IntKind.bits, IntKind.signed]
  omega
theorem bitV_eq (x k : Int) (hx : 0 ≤ x ∧ x < 2 ^ 64) (hk : 0 ≤ k) : bitV x k = if x.toNat.testBit k.toNat = true then 1 else 0 := by
  unfold bitV
  have e : x.tdiv (2 ^ k.toNat) = ((x.toNat / 2 ^ k.toNat : Nat) : Int) := by
    obtain ⟨n, rfl⟩ := Int.eq_ofNat_of_zero_le hx.1
    simp [Int.tdiv]
    rfl
  have hle : x.toNat / 2 ^ k.toNat ≤ x.toNat := Nat.div_le_self _ _
  rw [Nat.testBit_eq_decide_div_mod_eq, e]
  generalize x.toNat / 2 ^ k.toNat = q at hle
  rw [IntWalk.u64_in _ ⟨by omega, by omega⟩]
  have e2 : (q : Int).tmod 2 = ((q % 2 : Nat) : Int) := by simp [Int.tmod]
  rw [e2, IntWalk.i64_in _ ⟨by omega, by omega⟩]
  split
  · rename_i h; simp at h; omega
  · rename_i h; simp at h; omega
theorem mask_bits (x m : Int) (hx : 0 ≤ x ∧ x < 2 ^ 64) (h0 : 0 ≤ m) (h : m ≤ 64) : ibits .u64 (· &&& ·) x (shl64 ones m) = x ↔ ∀ k : Nat, (k : Int) < m → bitV x k = 0 := by
  rw [shl_ones m h0 h]
  have hp : (2 : Nat) ^ m.toNat ≤ 2 ^ 64 := Nat.pow_le_pow_right (by decide) (by omega)
  have hpos : 0 < (2 : Nat) ^ m.toNat := Nat.pos_of_ne_zero (by simp)
  rw [and64 x _ hx ⟨by omega, by omega⟩, Int.toNat_natCast]
  have hb := and_hole 64 m.toNat x.toNat (by omega) (by omega)
  constructor
  · intro he k hk
    rw [bitV_eq x k hx (by omega), Int.toNat_natCast]
    have h1 : x.toNat &&& (2 ^ 64 - 2 ^ m.toNat) = x.toNat := by omega
    rw [hb.1 h1 k (by omega)]; rfl
  · intro hz
    have h1 : x.toNat &&& (2 ^ 64 - 2 ^ m.toNat) = x.toNat := hb.2 fun k hk => by
      have := hz k (by omega)
      rw [bitV_eq x k hx (by omega), Int.toNat_natCast] at this
      cases hc : x.toNat.testBit k with
      | false => rfl
      | true => rw [hc] at this; simp at this
    rw [h1]; omega
theorem ones_eq : shl64 ones 0 = ones := by decide
theorem zero_bits (x : Int) (hx : 0 ≤ x ∧ x < 2 ^ 64) : x = 0 ↔ ∀ k : Nat, (k : Int) < 64 → bitV x k = 0 := by
  rw [← mask_bits x 64 hx (by omega) (by omega), shl_ones 64 (by omega) (by omega), show ((2 ^ 64 - 2 ^ (64 : Int).toNat : Nat) : Int) = 0 from rfl, and64 x 0 hx ⟨by omega, by omega⟩]
  simp; omega
def lowBit (a : Addr) (k : Nat) : Int := if 63 < k then bitV a.hi ((k : Int) - 64) else bitV a.lo k
theorem and_ones (x : Int) (hx : 0 ≤ x ∧ x < 2 ^ 64) : ibits .u64 (· &&& ·) x ones = x := by
  rw [← ones_eq]
  exact (mask_bits x 0 hx (by omega) (by omega)).2 fun k hk => by omega
theorem and_zero (x : Int) (hx : 0 ≤ x ∧ x < 2 ^ 64) : ibits .u64 (· &&& ·) x 0 = 0 := by
  rw [and64 x 0 hx ⟨by omega, by omega⟩]; simp
theorem mask6 (a : Addr) (n : Int) (ha : a.rng) (h0 : 0 ≤ n) (h : n ≤ 128) : andA a (mask 6 n) = a ↔ ∀ k : Nat, (k : Int) < 128 - n → lowBit a k = 0 := by
  have hw : mask 6 n = maskM 6 (128 - n) := rfl
  rw [hw, Addr.ext_iff]
  unfold andA maskM
  by_cases h64 : 64 ≤ 128 - n
  · rw [if_pos h64, if_neg (by decide)]
    simp only
    rw [mask_bits a.hi _ ha.1 (by omega) (by omega), and_zero a.lo ha.2, eq_comm, zero_bits a.lo ha.2]
    constructor
    · rintro ⟨h1, h2⟩ k hk
      unfold lowBit
      split
      · have := h1 (k - 64) (by omega)
        rwa [show ((k - 64 : Nat) : Int) = (k : Int) - 64 from by omega] at this
      · exact h2 k (by omega)
    · intro hz
      refine ⟨fun k hk => ?_, fun k hk => ?_⟩
      · have := hz (k + 64) (by omega)
        unfold lowBit at this
        rw [if_pos (by omega)] at this
        rwa [show ((k + 64 : Nat) : Int) - 64 = k from by omega] at this
      · have := hz k (by omega)
        unfold lowBit at this
        rwa [if_neg (by omega)] at this
  · rw [if_neg h64, if_neg (by decide)]
    simp only
    rw [and_ones a.hi ha.1, mask_bits a.lo _ ha.2 (by omega) (by omega)]
    constructor
    · rintro ⟨_, h2⟩ k hk
      unfold lowBit
      rw [if_neg (by omega)]; exact h2 k (by omega)
    · intro hz
      refine ⟨rfl, fun k hk => ?_⟩
      have := hz k (by omega)
      unfold lowBit at this
      rwa [if_neg (by omega)] at this
theorem mask4 (a : Addr) (n : Int) (ha : a.rng) (hh : a.hi = 0) (hl : a.lo < 2 ^ 32) (h0 : 0 ≤ n) (h : n ≤ 32) : andA a (mask 4 n) = a ↔ ∀ k : Nat, (k : Int) < 32 - n → lowBit a k = 0 := by
  have hw : mask 4 n = maskM 4 (32 - n) := rfl
  rw [hw, Addr.ext_iff]
  unfold andA maskM
  rw [if_neg (by omega), if_pos rfl]
  simp only
  have e0 : ibits .u64 (· &&& ·) a.hi 0 = a.hi := by rw [and_zero a.hi ha.1, hh]
  have hp : (2 : Nat) ^ (32 - n).toNat ≤ 2 ^ 64 := Nat.pow_le_pow_right (by decide) (by omega)
  have hp2 : (2 : Nat) ^ (32 - n).toNat ≤ 2 ^ 32 := Nat.pow_le_pow_right (by decide) (by omega)
  have hpos : 0 < (2 : Nat) ^ (32 - n).toNat := Nat.pos_of_ne_zero (by simp)
  have e1 : ibits .u64 (· &&& ·) (shl64 ones (32 - n)) 4294967295 = ((2 ^ 32 - 2 ^ (32 - n).toNat : Nat) : Int) := by
    rw [shl_ones _ (by omega) (by omega), and64 _ _ ⟨by omega, by omega⟩ ⟨by omega, by omega⟩]
    congr 1
    refine Nat.eq_of_testBit_eq fun k => ?_
    rw [Int.toNat_natCast, show (4294967295 : Int).toNat = 2 ^ 32 - 1 from rfl, Nat.testBit_and, hole_bit 64 _ k (by omega), Nat.testBit_two_pow_sub_one, hole_bit 32 _ k (by omega), Bool.eq_iff_iff]
    simp; omega
  rw [e0, e1, and64 a.lo _ ha.2 ⟨by omega, by omega⟩, Int.toNat_natCast]
  have hb := and_hole 32 (32 - n).toNat a.lo.toNat (by omega) (by omega)
  constructor
  · rintro ⟨_, he⟩ k hk
    unfold lowBit
    rw [if_neg (by omega), bitV_eq a.lo k ha.2 (by omega), Int.toNat_natCast]
    have h1 : a.lo.toNat &&& (2 ^ 32 - 2 ^ (32 - n).toNat) = a.lo.toNat := by omega
    rw [hb.1 h1 k (by omega)]; rfl
  · intro hz
    have h1 : a.lo.toNat &&& (2 ^ 32 - 2 ^ (32 - n).toNat) = a.lo.toNat := hb.2 fun k hk => by
      have := hz k (by omega)
      unfold lowBit at this
      rw [if_neg (by omega), bitV_eq a.lo k ha.2 (by omega), Int.toNat_natCast] at this
      cases hc : a.lo.toNat.testBit k with
      | false => rfl
      | true => rw [hc] at this; simp at this
    refine ⟨rfl, ?_⟩
    have := ha.2.1
    rw [h1]; omega
theorem ckP_eq (p : Pfx) (ha : p.addr.rng) : ckP p = ckP' p := by
  unfold ckP ckP'
  by_cases hw : width p.fam = 0
  · rw [if_pos hw, if_pos hw]
  rw [if_neg hw, if_neg hw]
  have key : ckA p.fam p.addr = true → 0 ≤ p.len → p.len ≤ width p.fam → (andA p.addr (mask p.fam p.len) = p.addr ↔ anyI (P72 p) 0 (width p.fam - p.len).toNat = false) := by
    intro hc h0 hl
    have hfam : p.fam = 4 ∨ p.fam = 6 := by
      unfold width at hw
      split at hw
      · left; assumption
      · split at hw
        · right; assumption
        · exact absurd rfl hw
    have hany : anyI (P72 p) 0 (width p.fam - p.len).toNat = false ↔ ∀ k : Nat, (k : Int) < width p.fam - p.len → lowBit p.addr k = 0 := by
      have hwl := width_le p.fam
      have hget : ∀ i : Nat, (i : Int) < width p.fam - p.len → (bitsL p.fam p.addr).getD (p.len + (i : Int)).toNat 0 = lowBit p.addr (width p.fam - 1 - p.len - i).toNat := by
        intro i hi
        have hlt : (p.len + (i : Int)).toNat < (width p.fam).toNat := by omega
        have e : (bitsL p.fam p.addr).getD (p.len + (i : Int)).toNat 0 = bitF p.fam p.addr (p.len + (i : Int)).toNat := by
          simp [bitsL, List.getD_eq_getElem?_getD, List.getElem?_eq_getElem, hlt]
        rw [e]
        unfold bitF lowBit
        have e1 : width p.fam - 1 - ((p.len + (i : Int)).toNat : Int) = width p.fam - 1 - p.len - i := by omega
        rw [e1]
        by_cases h63 : 63 < width p.fam - 1 - p.len - i
        · rw [if_pos h63, if_pos (by omega)]; congr 1; omega
        · rw [if_neg h63, if_neg (by omega)]; congr 1; omega
      constructor
      · intro hn k hk
        have h1 : P72 p (width p.fam - 1 - p.len - k).toNat = false := by
          cases hp : P72 p (width p.fam - 1 - p.len - k).toNat with
          | false => rfl
          | true => rw [anyI_iff.2 ⟨_, by omega, hp⟩] at hn; cases hn
        unfold P72 at h1
        rw [hget _ (by omega)] at h1
        have e2 : (width p.fam - 1 - p.len - ((width p.fam - 1 - p.len - k).toNat : Int)).toNat = k := by omega
        rw [e2] at h1
        simpa using h1
      · intro hz
        cases hn : anyI (P72 p) 0 (width p.fam - p.len).toNat with
        | false => rfl
        | true =>
          obtain ⟨i, hi, hp⟩ := anyI_iff.1 hn
          unfold P72 at hp
          rw [hget i (by omega), hz _ (by omega)] at hp
          simp at hp
    rw [hany]
    rcases hfam with h4 | h6
    · rw [h4] at hl hc ⊢
      have hw4 : width 4 = 32 := rfl
      rw [hw4] at hl ⊢
      simp [ckA] at hc
      exact mask4 p.addr p.len ha hc.1 (by omega) h0 hl
    · rw [h6] at hl ⊢
      have hw6 : width 6 = 128 := rfl
      rw [hw6] at hl ⊢
      exact mask6 p.addr p.len ha h0 hl
  by_cases hc : ckA p.fam p.addr = true
  · by_cases h0 : 0 ≤ p.len
    · by_cases hl : p.len ≤ width p.fam
      · have := key hc h0 hl
        by_cases hn : anyI (P72 p) 0 (width p.fam - p.len).toNat = false
        · rw [if_pos ⟨hc, h0, hl, this.2 hn⟩, if_pos (by simp [hc, h0, hl, hn])]
        · rw [if_neg (fun h => hn (this.1 h.2.2.2)), if_neg (by simp only [Bool.not_eq_false] at hn; simp [hn])]
      · rw [if_neg (fun h => hl h.2.2.1), if_neg (by simp [hl])]
    · rw [if_neg (fun h => h0 h.2.1), if_neg (by simp [h0])]
  · rw [if_neg (fun h => hc h.1), if_neg (by simp [hc])]
end Gp
namespace Gp
theorem strict_iff (l : List Int) : ∀ n, strict l n = true ↔ ∀ i, i < n → l.getD i 0 < l.getD (i + 1) 0
  | 0 => by simp [strict]
  | n + 1 => by
    rw [strict, Bool.and_eq_true, strict_iff l n, decide_eq_true_eq]
    constructor
    · rintro ⟨h1, h2⟩ i hi
      rcases Nat.lt_or_ge i n with h | h
      · exact h1 i h
      · obtain rfl : i = n := by omega
        exact h2
    · intro h; exact ⟨fun i hi => h i (by omega), h n (by omega)⟩
theorem getD_memI (l : List Int) (i : Nat) (h : i < l.length) : l.getD i 0 ∈ l := by
  simp [List.getD_eq_getElem?_getD, List.getElem?_eq_getElem h]
theorem ckPr_eq (a : Attest) (ha : a.rng) : ckPr a = ckPr' a := by
  unfold ckPr ckPr'
  by_cases h50 : 50 < a.provs.length
  · rw [if_pos h50, if_pos h50]
  rw [if_neg h50, if_neg h50]
  have hP : anyI (P75 a) 0 a.provs.length = false ↔ (a.cust ∉ a.provs ∧ ∀ i, i < a.provs.length - 1 → a.provs.getD i 0 < a.provs.getD (i + 1) 0) := by
    rw [anyI_none]
    constructor
    · intro h
      refine ⟨fun hm => ?_, fun i hi => ?_⟩
      · obtain ⟨i, hi, hx⟩ := List.mem_iff_getElem.1 hm
        have := h i hi
        simp [P75, List.getD_eq_getElem?_getD, List.getElem?_eq_getElem hi, hx] at this
      · have := h (i + 1) (by omega)
        simp only [P75, Bool.or_eq_false_iff, Bool.and_eq_false_imp, decide_eq_true_eq, decide_eq_false_iff_not, Nat.add_sub_cancel] at this
        have := this.2 (by omega); omega
    · rintro ⟨h1, h2⟩ i hi
      simp only [P75, Bool.or_eq_false_iff, Bool.and_eq_false_imp, decide_eq_true_eq, decide_eq_false_iff_not]
      refine ⟨fun he => h1 (he ▸ getD_memI a.provs i hi), fun h0 => ?_⟩
      have := h2 (i - 1) (by omega)
      rw [show i - 1 + 1 = i from by omega] at this; omega
  have hs := strict_iff a.provs (a.provs.length - 1)
  by_cases hg : (d83 a && strict a.provs (a.provs.length - 1)) = true
  · rw [if_pos hg]
    simp only [d83, b83, Bool.and_eq_true, Bool.or_eq_true, decide_eq_true_eq, Bool.not_eq_true', decide_eq_false_iff_not] at hg
    obtain ⟨⟨⟨⟨g1, g2⟩, g3⟩, g4⟩, g5⟩ := hg
    rw [if_neg]
    rintro (h | h | h | h)
    · omega
    · omega
    · omega
    · rw [hP.2 ⟨g3, hs.1 g5⟩] at h; cases h
  · rw [if_neg hg, if_pos]
    refine Classical.byContradiction fun hc => hg ?_
    simp only [not_or, Bool.not_eq_true] at hc
    obtain ⟨h1, h2, h3, h4⟩ := hc
    obtain ⟨p1, p2⟩ := hP.1 h4
    have hc0 := ha.1
    have h0 := ha.2 _ (getD_memI a.provs 0 (by omega))
    simp only [d83, b83, Bool.and_eq_true, Bool.or_eq_true, decide_eq_true_eq, Bool.not_eq_true', decide_eq_false_iff_not]
    refine ⟨⟨⟨⟨by omega, by omega⟩, p1⟩, ?_⟩, hs.2 p2⟩
    rcases Nat.lt_or_ge 1 a.provs.length with h | h
    · right
      have : ¬ a.provs.getD 0 0 = 0 := fun he => h3 ⟨h, he⟩
      omega
    · left; omega
theorem goodO_eq (o : Origin) (h : o.pfx.addr.rng) : goodO o = goodO' o := by
  unfold goodO goodO'
  rw [ckP_eq _ h]
  by_cases hc : ckP' o.pfx = 0
  · have hwn : width o.pfx.fam ≠ 0 := fun h0 => by unfold ckP' at hc; rw [if_pos h0] at hc; cases hc
    have hw : o.pfx.fam = 4 ∨ o.pfx.fam = 6 := by
      unfold width at hwn
      split at hwn
      · left; assumption
      · split at hwn
        · right; assumption
        · exact absurd rfl hwn
    have : (if o.pfx.fam = 6 then (128 : Int) else 32) = width o.pfx.fam := by
      rcases hw with h | h <;> rw [h] <;> rfl
    rw [this]
  · simp [hc]
theorem bad_eq {α : Type} [Inhabited α] {order : α → α → Int} {good good' : α → Bool} {bef : α → α → Bool} {l : List α} (hg : ∀ x ∈ l, good x = good' x) (hb : ∀ x ∈ l, ∀ y ∈ l, decide (0 ≤ order x y) = !bef x y) (i : Nat) (hi : i < l.length) : bad order good default l i = badAt good' bef l i := by
  unfold bad badAt
  rw [hg _ (getD_memG l i hi)]
  rcases Nat.eq_zero_or_pos i with h | h
  · subst h; simp
  · rw [hb _ (getD_memG l (i - 1) (by omega)) _ (getD_memG l i hi)]
theorem rising_eq {α : Type} [Inhabited α] {order : α → α → Int} {good good' : α → Bool} {bef : α → α → Bool} {l : List α} (hg : ∀ x ∈ l, good x = good' x) (hb : ∀ x ∈ l, ∀ y ∈ l, decide (0 ≤ order x y) = !bef x y) : risingB order good default l = !anyI (badAt good' bef l) 0 l.length := by
  unfold risingB
  congr 1
  rw [Bool.eq_iff_iff, anyI_iff, anyI_iff]
  exact ⟨fun ⟨i, hi, h⟩ => ⟨i, hi, by rw [← bad_eq hg hb i hi]; exact h⟩, fun ⟨i, hi, h⟩ => ⟨i, hi, by rw [bad_eq hg hb i hi]; exact h⟩⟩
theorem many_eq (p : Payload) : manyP p = anyI (P23a p) 0 p.paths.length := by
  rw [Bool.eq_iff_iff, anyI_iff]
  simp only [manyP, decide_eq_true_eq]
  constructor
  · rintro ⟨a, hm, ha⟩
    obtain ⟨i, hi, hx⟩ := List.mem_iff_getElem.1 hm
    refine ⟨i, hi, ?_⟩
    simp [P23a, List.getD_eq_getElem?_getD, List.getElem?_eq_getElem hi, hx]; omega
  · rintro ⟨i, hi, hp⟩
    refine ⟨_, getD_mem p.paths i hi, ?_⟩
    simp only [P23a, decide_eq_true_eq] at hp; omega
theorem ckL_eq (p : Payload) (hp : p.rng) : ckL p = ckL' p := by
  have e1 : risingB cmpO goodO default p.origins = !anyI (P23b p) 0 p.origins.length := rising_eq (fun x hx => goodO_eq x (hp.o x hx)) (fun x _ y _ => befO_eq x y)
  have e2 : risingB cmpT goodT default p.paths = !anyI (P23c p) 0 p.paths.length := rising_eq (fun x hx => by unfold goodT goodT'; rw [ckPr_eq x (hp.t x hx)]) (fun x _ y _ => befT_eq x y)
  have e3 : risingB cmpK goodK default p.keys = !anyI (P23d p) 0 p.keys.length := rising_eq (fun x hx => by unfold goodK goodK'; rw [Bool.eq_iff_iff]; simp) (fun x hx y hy => befK_eq x y (hp.k x hx) (hp.k y hy))
  unfold ckL ckL'
  rw [many_eq, e1, e2, e3]
  split
  · rfl
  · cases anyI (P23b p) 0 p.origins.length <;> cases anyI (P23c p) 0 p.paths.length <;> cases anyI (P23d p) 0 p.keys.length <;> rfl
end Gp
namespace Gp
theorem eqO (a b : Origin) : decide (a = b) = !neO a b := by
  rw [Bool.eq_iff_iff, Bool.not_eq_true', neO_iff, decide_eq_true_eq]
theorem eqK (a b : RKey) : decide (a = b) = !neK a b := by
  rw [Bool.eq_iff_iff, Bool.not_eq_true', neK_iff, decide_eq_true_eq]
theorem any_mem {α : Type} [Inhabited α] [DecidableEq α] (l : List α) (x : α) : anyI (fun i => decide (l.getD i default = x)) 0 l.length = decide (x ∈ l) := by
  rw [Bool.eq_iff_iff, anyI_iff, decide_eq_true_eq, memD]
  simp only [decide_eq_true_eq]
def P62 (l : List Origin) (x : Origin) (i : Nat) : Bool := decide (l.getD i default = x)
def I62 (l : List Origin) (x : Origin) (i : Nat) : LState := { t := [(5, .imm (i64 i)), (3, .ptr 0 0), (0, .imm (slE 6 encO l))], s := [(0, .box 68 (.imm (encO x)))], m := 18, n := 1 }
def R62 (l : List Origin) (x : Origin) (i : Nat) : LState := { t := [(4, .imm (bo true))], s := [], m := 18, n := 1 }
def E62 (l : List Origin) (x : Origin) : LState := { t := [], s := [], m := 18, n := 1 }
def fin62 : Exit → Fin
  | .normal => ⟨[], [5, 3, 0], [0]⟩
  | .ret => ⟨[], [4], []⟩
  | _ => ⟨[], [], []⟩
def L62 (l : List Origin) (x : Origin) : Tree := Lfirst (P62 l x) l.length 0 (R62 l x) (E62 l x)
def T62r (l : List Origin) (x : Origin) (i : Nat) : Tell :=
  Tell.mk (fun x x_1 => false) (fun x x_1 => Orc.no) (fun x => Tree.fail 1000003 0) (fun x => 0) (fun x => ([], [])) (oget [(5, 4, 2, Orc.elem (encO (List.getD l i default)))]) fun x x_1 =>
  Tree.fail 1000003 0
theorem t62r (l : List Origin) (x : Origin) (i : Nat) : levL prog Proofs.Tryz.f62 2 (I62 l x i) (T62r l x i) fin62 =
  Tree.br (decide ((↑i : Int) < (↑(List.length (List.map encO l)) : Int)))
  (Tree.need ((0 : Int) ≤ (↑i : Int) ∧ (List.map encO l)[i]? = some (encO (List.getD l i default)))
  (Tree.br
  (if BinOp.eql = BinOp.neq then
  !(decide ((List.getD l i default).asn = x.asn) &&
  (decide ((List.getD l i default).pfx.fam = x.pfx.fam) &&
  (decide ((List.getD l i default).pfx.addr.hi = x.pfx.addr.hi) &&
  (decide ((List.getD l i default).pfx.addr.lo = x.pfx.addr.lo) && (decide ((List.getD l i default).pfx.len = x.pfx.len) && (decide ((List.getD l i default).max = x.max) && true))))))
  else
  decide ((List.getD l i default).asn = x.asn) &&
  (decide ((List.getD l i default).pfx.fam = x.pfx.fam) &&
  (decide ((List.getD l i default).pfx.addr.hi = x.pfx.addr.hi) &&
  (decide ((List.getD l i default).pfx.addr.lo = x.pfx.addr.lo) && (decide ((List.getD l i default).pfx.len = x.pfx.len) && (decide ((List.getD l i default).max = x.max) && true))))))
  (Tree.done Exit.ret (LState.mk [(4, AVal.imm (IVal.v (Value.bool true)))] [] 18 12 []))
  (Tree.done Exit.normal
  (LState.mk [(5, AVal.imm (IVal.v (Value.int IntKind.i64 (IntKind.wrap IntKind.i64 ((↑i : Int) + (1 : Int)))))), (3, AVal.ptr 0 0), (0, AVal.imm (slE 6 encO l))]
  [(0, Entry.box 68 (AVal.imm (encO x)))] 18 14 []))))
  (Tree.done (Exit.exit 0) (LState.mk [] [] 18 5 [])) := by kernel_rfl
def T62 (l : List Origin) (x : Origin) : Tell :=
  Tell.mk (fun x x_1 => false) (fun x x_1 => Orc.no) (fun x_1 => L62 l x) (fun x => 0) (fun x => ([5, 3, 0], [0])) (fun x x_1 x_2 => Orc.no) fun x_1 x_2 => L62 l x
theorem t62 (l : List Origin) (x : Origin) : levF prog Proofs.Tryz.f62 [slE 6 encO l, encO x] (T62 l x) =
  Tree.loop 2
  (LState.mk [(5, AVal.imm (IVal.v (Value.int IntKind.i64 (0 : Int)))), (3, AVal.ptr 0 0), (0, AVal.imm (slE 6 encO l))] [(0, Entry.box 68 (AVal.imm (encO x)))] 18
  3 [])
  (Tree.br (anyI (P62 l x) 0 (List.length l)) (Tree.done Exit.ret (R62 l x (firstI (P62 l x) 0 (List.length l)))) (Tree.done (Exit.exit 0) (E62 l x)))
  (Tree.br (anyI (P62 l x) 0 (List.length l)) (Tree.done Exit.ret (lret (IVal.v (Value.bool true)))) (Tree.done Exit.ret (lret (IVal.v (Value.bool false))))) := by kernel_rfl
theorem l62 (l : List Origin) (x : Origin) (hl : l.length ≤ 2 ^ 62) (σ : LState) (h : LSub σ (I62 l x 0)) : LoopOk prog [] (bodyOf Proofs.Tryz.f62) 2 σ (L62 l x) := by
  refine LoopOk.first (P62 l x) l.length 0 (I62 l x) (R62 l x) (E62 l x) (T62r l x) fin62 (by kernel_rfl) h fun i hi hz => ?_
  rw [t62r]
  refine ⟨fun h1 => need_sat (elem_need ?_) ⟨fun h2 => ?_, fun h2 => ?_⟩, fun h1 => ?_⟩
  · (refine ⟨by omega, ?_, ?_⟩ <;> (simp only [List.length_map, decide_eq_true_eq, decide_eq_false_iff_not, Int.toNat_natCast] at * <;> omega))
  · rw [if_neg (by decide)] at h2
    exact ⟨by (simp only [List.length_map, decide_eq_true_eq, decide_eq_false_iff_not, Int.toNat_natCast] at * <;> omega), by rw [P62, eqO, neO, Bool.not_not]; exact h2, by simp [R62, bo, LSub, tsub, ssub, tl, sl, linT, linS, ainB, ainBL]⟩
  · rw [if_neg (by decide)] at h2
    exact ⟨by (simp only [List.length_map, decide_eq_true_eq, decide_eq_false_iff_not, Int.toNat_natCast] at * <;> omega), by rw [P62, eqO, neO, Bool.not_not]; exact h2, by simp [I62, i64, i64_small (n := i) (by (simp only [List.length_map, decide_eq_true_eq, decide_eq_false_iff_not, Int.toNat_natCast] at * <;> omega)) hl, LSub, tsub, ssub, tl, sl, linT, linS, ainB, ainBL]⟩
  · exact ⟨rfl, by (simp only [List.length_map, decide_eq_true_eq, decide_eq_false_iff_not, Int.toNat_natCast] at * <;> omega), by simp [E62, LSub, tsub, ssub, tl, sl, linT, linS, ainB, ainBL]⟩
theorem c62 (l : List Origin) (x : Origin) (hl : l.length ≤ 2 ^ 62) : ASpec prog 62 [slE 6 encO l, encO x] (bo (decide (x ∈ l))) := by
  rw [← any_mem]
  refine ASpec.treeW Proofs.Tryz.f62 (T62 l x) (by kernel_rfl) (by kernel_rfl) (t62 l x) ?_
  refine ⟨?_, ⟨fun h1 => ⟨_, rfl, ?_⟩, fun h1 => ⟨_, rfl, ?_⟩⟩⟩
  · exact l62 l x hl _ (by simp [I62, i64, LSub, tsub, ssub, tl, sl, linT, linS, ainB, ainBL])
  · exact ile_bo h1.symm
  · exact ile_bo h1.symm
def P63 (l : List Attest) (x : Attest) (i : Nat) : Bool := decide (l.getD i default = x)
def I63 (l : List Attest) (x : Attest) (i : Nat) : LState := { t := [(5, .imm (i64 i)), (3, .ptr 0 0), (0, .imm (slE 2 encT l))], s := [(0, .box 57 (.imm (encT x)))], m := 18, n := 1 }
def R63 (l : List Attest) (x : Attest) (i : Nat) : LState := { t := [(4, .imm (bo true))], s := [], m := 18, n := 1 }
def E63 (l : List Attest) (x : Attest) : LState := { t := [], s := [], m := 18, n := 1 }
def fin63 : Exit → Fin
  | .normal => ⟨[], [5, 3, 0], [0]⟩
  | .ret => ⟨[], [4], []⟩
  | _ => ⟨[], [], []⟩
def L63 (l : List Attest) (x : Attest) : Tree := Lfirst (P63 l x) l.length 0 (R63 l x) (E63 l x)
def T63r (l : List Attest) (x : Attest) (i : Nat) : Tell :=
  Tell.mk (fun x x_1 => false) (fun x x_1 => Orc.no) (fun x => Tree.fail 1000003 0) (fun x => 0) (fun x => ([], []))
  (oget [(5, 4, 2, Orc.elem (encT (List.getD l i default))), (5, 4, 5, Orc.call [encT (List.getD l i default), encT x] (bo (decide (List.getD l i default = x))))]) fun x x_1 =>
  Tree.fail 1000003 0
theorem t63r (l : List Attest) (x : Attest) (i : Nat) : levL prog Proofs.Tryz.f63 2 (I63 l x i) (T63r l x i) fin63 =
  Tree.br (decide ((↑i : Int) < (↑(List.length (List.map encT l)) : Int)))
  (Tree.need ((0 : Int) ≤ (↑i : Int) ∧ (List.map encT l)[i]? = some (encT (List.getD l i default)))
  (Tree.need (ILeL [encT (List.getD l i default), encT x] [encT (List.getD l i default), encT x] ∧ ASpec prog 33 [encT (List.getD l i default), encT x] (bo (decide (List.getD l i default = x))))
  (Tree.br (decide (List.getD l i default = x)) (Tree.done Exit.ret (LState.mk [(4, AVal.imm (IVal.v (Value.bool true)))] [] 18 12 []))
  (Tree.done Exit.normal
  (LState.mk [(5, AVal.imm (IVal.v (Value.int IntKind.i64 (IntKind.wrap IntKind.i64 ((↑i : Int) + (1 : Int)))))), (3, AVal.ptr 0 0), (0, AVal.imm (slE 2 encT l))]
  [(0, Entry.box 57 (AVal.imm (encT x)))] 18 14 [])))))
  (Tree.done (Exit.exit 0) (LState.mk [] [] 18 5 [])) := by kernel_rfl
def T63 (l : List Attest) (x : Attest) : Tell :=
  Tell.mk (fun x x_1 => false) (fun x x_1 => Orc.no) (fun x_1 => L63 l x) (fun x => 0) (fun x => ([5, 3, 0], [0])) (fun x x_1 x_2 => Orc.no) fun x_1 x_2 => L63 l x
theorem t63 (l : List Attest) (x : Attest) : levF prog Proofs.Tryz.f63 [slE 2 encT l, encT x] (T63 l x) =
  Tree.loop 2
  (LState.mk [(5, AVal.imm (IVal.v (Value.int IntKind.i64 (0 : Int)))), (3, AVal.ptr 0 0), (0, AVal.imm (slE 2 encT l))] [(0, Entry.box 57 (AVal.imm (encT x)))] 18
  3 [])
  (Tree.br (anyI (P63 l x) 0 (List.length l)) (Tree.done Exit.ret (R63 l x (firstI (P63 l x) 0 (List.length l)))) (Tree.done (Exit.exit 0) (E63 l x)))
  (Tree.br (anyI (P63 l x) 0 (List.length l)) (Tree.done Exit.ret (lret (IVal.v (Value.bool true)))) (Tree.done Exit.ret (lret (IVal.v (Value.bool false))))) := by kernel_rfl
theorem l63 (l : List Attest) (x : Attest) (hT : ∀ a ∈ l, okT a) (hl : l.length ≤ 2 ^ 62) (σ : LState) (h : LSub σ (I63 l x 0)) : LoopOk prog [] (bodyOf Proofs.Tryz.f63) 2 σ (L63 l x) := by
  refine LoopOk.first (P63 l x) l.length 0 (I63 l x) (R63 l x) (E63 l x) (T63r l x) fin63 (by kernel_rfl) h fun i hi hz => ?_
  rw [t63r]
  refine ⟨fun h1 => need_sat (elem_need ?_) (need_sat ⟨ILeL.refl _, c33 _ _ ?_⟩ ⟨fun h2 => ?_, fun h2 => ?_⟩), fun h1 => ?_⟩
  · (refine ⟨by omega, ?_, ?_⟩ <;> (simp only [List.length_map, decide_eq_true_eq, decide_eq_false_iff_not, Int.toNat_natCast] at * <;> omega))
  · have := hT _ (getD_mem l i (by (simp only [List.length_map, decide_eq_true_eq, decide_eq_false_iff_not, Int.toNat_natCast] at * <;> omega))); unfold okT at this; omega
  · exact ⟨by (simp only [List.length_map, decide_eq_true_eq, decide_eq_false_iff_not, Int.toNat_natCast] at * <;> omega), h2, by simp [R63, bo, LSub, tsub, ssub, tl, sl, linT, linS, ainB, ainBL]⟩
  · exact ⟨by (simp only [List.length_map, decide_eq_true_eq, decide_eq_false_iff_not, Int.toNat_natCast] at * <;> omega), h2, by simp [I63, i64, i64_small (n := i) (by (simp only [List.length_map, decide_eq_true_eq, decide_eq_false_iff_not, Int.toNat_natCast] at * <;> omega)) hl, LSub, tsub, ssub, tl, sl, linT, linS, ainB, ainBL]⟩
  · exact ⟨rfl, by (simp only [List.length_map, decide_eq_true_eq, decide_eq_false_iff_not, Int.toNat_natCast] at * <;> omega), by simp [E63, LSub, tsub, ssub, tl, sl, linT, linS, ainB, ainBL]⟩
theorem c63 (l : List Attest) (x : Attest) (hT : ∀ a ∈ l, okT a) (hl : l.length ≤ 2 ^ 62) : ASpec prog 63 [slE 2 encT l, encT x] (bo (decide (x ∈ l))) := by
  rw [← any_mem]
  refine ASpec.treeW Proofs.Tryz.f63 (T63 l x) (by kernel_rfl) (by kernel_rfl) (t63 l x) ?_
  refine ⟨?_, ⟨fun h1 => ⟨_, rfl, ?_⟩, fun h1 => ⟨_, rfl, ?_⟩⟩⟩
  · exact l63 l x hT hl _ (by simp [I63, i64, LSub, tsub, ssub, tl, sl, linT, linS, ainB, ainBL])
  · exact ile_bo h1.symm
  · exact ile_bo h1.symm
def P64 (l : List RKey) (x : RKey) (i : Nat) : Bool := decide (l.getD i default = x)
def I64 (l : List RKey) (x : RKey) (i : Nat) : LState := { t := [(5, .imm (i64 i)), (3, .ptr 0 0), (0, .imm (slE 18 encK l))], s := [(0, .box 75 (.imm (encK x)))], m := 18, n := 1 }
def R64 (l : List RKey) (x : RKey) (i : Nat) : LState := { t := [(4, .imm (bo true))], s := [], m := 18, n := 1 }
def E64 (l : List RKey) (x : RKey) : LState := { t := [], s := [], m := 18, n := 1 }
def fin64 : Exit → Fin
  | .normal => ⟨[], [5, 3, 0], [0]⟩
  | .ret => ⟨[], [4], []⟩
  | _ => ⟨[], [], []⟩
def L64 (l : List RKey) (x : RKey) : Tree := Lfirst (P64 l x) l.length 0 (R64 l x) (E64 l x)
def T64r (l : List RKey) (x : RKey) (i : Nat) : Tell :=
  Tell.mk (fun x x_1 => false) (fun x x_1 => Orc.no) (fun x => Tree.fail 1000003 0) (fun x => 0) (fun x => ([], [])) (oget [(5, 4, 2, Orc.elem (encK (List.getD l i default)))]) fun x x_1 =>
  Tree.fail 1000003 0
theorem t64r (l : List RKey) (x : RKey) (i : Nat) : levL prog Proofs.Tryz.f64 2 (I64 l x i) (T64r l x i) fin64 =
  Tree.br (decide ((↑i : Int) < (↑(List.length (List.map encK l)) : Int)))
  (Tree.need ((0 : Int) ≤ (↑i : Int) ∧ (List.map encK l)[i]? = some (encK (List.getD l i default)))
  (Tree.br
  (if BinOp.eql = BinOp.neq then
  !(decide ((List.getD l i default).asn = x.asn) &&
  (decide ((List.getD l i default).root[0] = x.root[0]) &&
  (decide ((List.getD l i default).root[1] = x.root[1]) &&
  (decide ((List.getD l i default).root[2] = x.root[2]) &&
  (decide ((List.getD l i default).root[3] = x.root[3]) &&
  (decide ((List.getD l i default).root[4] = x.root[4]) &&
  (decide ((List.getD l i default).root[5] = x.root[5]) &&
  (decide ((List.getD l i default).root[6] = x.root[6]) &&
  (decide ((List.getD l i default).root[7] = x.root[7]) &&
  (decide ((List.getD l i default).root[8] = x.root[8]) &&
  (decide ((List.getD l i default).root[9] = x.root[9]) &&
  (decide ((List.getD l i default).root[10] = x.root[10]) &&
  (decide ((List.getD l i default).root[11] = x.root[11]) &&
  (decide ((List.getD l i default).root[12] = x.root[12]) &&
  (decide ((List.getD l i default).root[13] = x.root[13]) &&
  (decide ((List.getD l i default).root[14] = x.root[14]) &&
  (decide ((List.getD l i default).root[15] = x.root[15]) && (decide ((List.getD l i default).height = x.height) && true))))))))))))))))))
  else
  decide ((List.getD l i default).asn = x.asn) &&
  (decide ((List.getD l i default).root[0] = x.root[0]) &&
  (decide ((List.getD l i default).root[1] = x.root[1]) &&
  (decide ((List.getD l i default).root[2] = x.root[2]) &&
  (decide ((List.getD l i default).root[3] = x.root[3]) &&
  (decide ((List.getD l i default).root[4] = x.root[4]) &&
  (decide ((List.getD l i default).root[5] = x.root[5]) &&
  (decide ((List.getD l i default).root[6] = x.root[6]) &&
  (decide ((List.getD l i default).root[7] = x.root[7]) &&
  (decide ((List.getD l i default).root[8] = x.root[8]) &&
  (decide ((List.getD l i default).root[9] = x.root[9]) &&
  (decide ((List.getD l i default).root[10] = x.root[10]) &&
  (decide ((List.getD l i default).root[11] = x.root[11]) &&
  (decide ((List.getD l i default).root[12] = x.root[12]) &&
  (decide ((List.getD l i default).root[13] = x.root[13]) &&
  (decide ((List.getD l i default).root[14] = x.root[14]) &&
  (decide ((List.getD l i default).root[15] = x.root[15]) && (decide ((List.getD l i default).height = x.height) && true))))))))))))))))))
  (Tree.done Exit.ret (LState.mk [(4, AVal.imm (IVal.v (Value.bool true)))] [] 18 12 []))
  (Tree.done Exit.normal
  (LState.mk [(5, AVal.imm (IVal.v (Value.int IntKind.i64 (IntKind.wrap IntKind.i64 ((↑i : Int) + (1 : Int)))))), (3, AVal.ptr 0 0), (0, AVal.imm (slE 18 encK l))]
  [(0, Entry.box 75 (AVal.imm (encK x)))] 18 14 []))))
  (Tree.done (Exit.exit 0) (LState.mk [] [] 18 5 [])) := by kernel_rfl
def T64 (l : List RKey) (x : RKey) : Tell :=
  Tell.mk (fun x x_1 => false) (fun x x_1 => Orc.no) (fun x_1 => L64 l x) (fun x => 0) (fun x => ([5, 3, 0], [0])) (fun x x_1 x_2 => Orc.no) fun x_1 x_2 => L64 l x
theorem t64 (l : List RKey) (x : RKey) : levF prog Proofs.Tryz.f64 [slE 18 encK l, encK x] (T64 l x) =
  Tree.loop 2
  (LState.mk [(5, AVal.imm (IVal.v (Value.int IntKind.i64 (0 : Int)))), (3, AVal.ptr 0 0), (0, AVal.imm (slE 18 encK l))] [(0, Entry.box 75 (AVal.imm (encK x)))] 18
  3 [])
  (Tree.br (anyI (P64 l x) 0 (List.length l)) (Tree.done Exit.ret (R64 l x (firstI (P64 l x) 0 (List.length l)))) (Tree.done (Exit.exit 0) (E64 l x)))
  (Tree.br (anyI (P64 l x) 0 (List.length l)) (Tree.done Exit.ret (lret (IVal.v (Value.bool true)))) (Tree.done Exit.ret (lret (IVal.v (Value.bool false))))) := by kernel_rfl
theorem l64 (l : List RKey) (x : RKey) (hl : l.length ≤ 2 ^ 62) (σ : LState) (h : LSub σ (I64 l x 0)) : LoopOk prog [] (bodyOf Proofs.Tryz.f64) 2 σ (L64 l x) := by
  refine LoopOk.first (P64 l x) l.length 0 (I64 l x) (R64 l x) (E64 l x) (T64r l x) fin64 (by kernel_rfl) h fun i hi hz => ?_
  rw [t64r]
  refine ⟨fun h1 => need_sat (elem_need ?_) ⟨fun h2 => ?_, fun h2 => ?_⟩, fun h1 => ?_⟩
  · (refine ⟨by omega, ?_, ?_⟩ <;> (simp only [List.length_map, decide_eq_true_eq, decide_eq_false_iff_not, Int.toNat_natCast] at * <;> omega))
  · rw [if_neg (by decide)] at h2
    exact ⟨by (simp only [List.length_map, decide_eq_true_eq, decide_eq_false_iff_not, Int.toNat_natCast] at * <;> omega), by rw [P64, eqK, neK, Bool.not_not]; exact h2, by simp [R64, bo, LSub, tsub, ssub, tl, sl, linT, linS, ainB, ainBL]⟩
  · rw [if_neg (by decide)] at h2
    exact ⟨by (simp only [List.length_map, decide_eq_true_eq, decide_eq_false_iff_not, Int.toNat_natCast] at * <;> omega), by rw [P64, eqK, neK, Bool.not_not]; exact h2, by simp [I64, i64, i64_small (n := i) (by (simp only [List.length_map, decide_eq_true_eq, decide_eq_false_iff_not, Int.toNat_natCast] at * <;> omega)) hl, LSub, tsub, ssub, tl, sl, linT, linS, ainB, ainBL]⟩
  · exact ⟨rfl, by (simp only [List.length_map, decide_eq_true_eq, decide_eq_false_iff_not, Int.toNat_natCast] at * <;> omega), by simp [E64, LSub, tsub, ssub, tl, sl, linT, linS, ainB, ainBL]⟩
theorem c64 (l : List RKey) (x : RKey) (hl : l.length ≤ 2 ^ 62) : ASpec prog 64 [slE 18 encK l, encK x] (bo (decide (x ∈ l))) := by
  rw [← any_mem]
  refine ASpec.treeW Proofs.Tryz.f64 (T64 l x) (by kernel_rfl) (by kernel_rfl) (t64 l x) ?_
  refine ⟨?_, ⟨fun h1 => ⟨_, rfl, ?_⟩, fun h1 => ⟨_, rfl, ?_⟩⟩⟩
  · exact l64 l x hl _ (by simp [I64, i64, LSub, tsub, ssub, tl, sl, linT, linS, ainB, ainBL])
  · exact ile_bo h1.symm
  · exact ile_bo h1.symm
end Gp
