/- Part 6 of the walk and of the plain law of PduCuts. -/
import Derived.Test.YtnfdbpopcfcegaaW5
set_option maxRecDepth 100000
set_option maxHeartbeats 0
set_option linter.unusedVariables false
set_option linter.unusedSimpArgs false
open Go Go.Abs
noncomputable section
namespace Gp
def gu8 (l : List Int) : Int := IntKind.u8.wrap (getV l 1)
def s35 (l : List Int) : LState := { t := [(3, .ptr 1 0), (2, .ptr 0 0), (0, .imm (slE 1 u8 l))], s := [(1, .box 4 (.imm (bo false))), (0, .box 42 (.imm z42))], m := 56, n := 2 }
def σ35 (l : List Int) (ls : Nat → Abs.Loc) : LState := { t := [(3, .ptr 1 0), (2, .ptr 0 0), (0, .imm (slE 1 u8 l))], s := [(1, .bbox (ls 1) 4 (.imm (bo false))), (0, .bbox (ls 0) 42 (.imm z42))], m := 56, n := 4 }
def form9 : IVal := .agg [fnV 62, fnV 63, fnV 64, fnV 65, fnV 66]
def form10 : IVal := .agg [fnV 67, fnV 68, fnV 69, fnV 70, fnV 71]
def form11 : IVal := .agg [fnV 72, fnV 63, fnV 73, fnV 65, fnV 74]
theorem r35 (l : List Int) : ∀ k, lev prog ({} : Tell).fz ({} : Tell).Ob ({} : Tell).Lb ({} : Tell).un ({} : Tell).lv (defHead (bodyOf Proofs.Try.f35)) (lstart [slE 1 u8 l] Proofs.Try.f35.ntmps) k = k .normal (s35 l) := fun k => rfl
theorem shape35 : DefShape (bodyOf Proofs.Try.f35) Proofs.Try.f35.ntmps 75 [2, 3] 8 := ⟨_, _, _, _, rfl, rfl, rfl, rfl, by decide, rfl, rfl, rfl, rfl, rfl⟩
theorem lsub35 (l : List Int) (ls : Nat → Abs.Loc) : LSub ((s35 l).pin ls [0, 1]) (σ35 l ls) := ⟨⟨rfl, rfl, rfl, trivial⟩, ⟨rfl, rfl, trivial⟩, rfl, rfl, rfl⟩
theorem c35_of {l : List Int} {r : IVal} (T : (Nat → Abs.Loc) → Tell) (h : ∀ ls, (levD prog Proofs.Try.f35 (σ35 l ls) (T ls) ls [0, 1] (immB cells35) cells35 errE).sat (LoopOk prog [] (bodyOf Proofs.Try.f35)) (fun _ s => ∃ d, s = lret d ∧ ILe d r)) : ASpec prog 35 [slE 1 u8 l] r := by
  refine ASpec.treeD (g := 75) (d := 8) (ts := [2, 3]) (ids := [0, 1]) (bx := immB cells35) (bx' := cells35) (v := errE) Proofs.Try.f35 (s35 l) (σ35 l) {} T (by kernel_rfl) (by kernel_rfl) shape35 nop75 catch75 rfl ?_ rfl rfl (r35 l) (fun ls => lsub35 l ls) h
  intro i t id h1 h2
  match i with
  | 0 => cases h1; cases h2; rfl
  | 1 => cases h1; cases h2; rfl
  | n + 2 => simp at h1
def T35n (ls : Nat → Abs.Loc) (l : List Int) : Tell :=
  Tell.mk (fun x x_1 => false)
  (fun r i => if (r == 4 && i == 6) = true then Orc.look (AVal.imm (IVal.agg [IVal.v Value.nilFunc, IVal.v Value.nilFunc, IVal.v Value.nilFunc, IVal.v Value.nilFunc, IVal.v Value.nilFunc])) false else Orc.no)
  (fun x => Tree.fail 1000003 0) (fun x => 0) (fun x => ([], []))
  (ogetO (fun r i => if (r == 4 && i == 6) = true then Orc.look (AVal.imm (IVal.agg [IVal.v Value.nilFunc, IVal.v Value.nilFunc, IVal.v Value.nilFunc, IVal.v Value.nilFunc, IVal.v Value.nilFunc])) false else Orc.no)
  [(8, 3, 1,
  Orc.may (k76 l (1 : Int)) [6] 1 [AVal.ptr 0 0, AVal.imm (i64 (1 : Int))] errE
  (Orc.callg [6] 1 [AVal.ptr 0 0, AVal.imm (i64 (1 : Int))] [(92, AVal.agg [AVal.imm (slE 1 u8 (List.drop (Int.toNat (1 : Int)) l))])] [] (AVal.imm (u64 (getV l (1 : Int)))))),
  (8, 3, 4,
  Orc.may (k76 (List.drop 1 l) (1 : Int)) [6] 1 [AVal.ptr 0 0, AVal.imm (i64 (1 : Int))] errE
  (Orc.callg [6] 1 [AVal.ptr 0 0, AVal.imm (i64 (1 : Int))] [(92, AVal.agg [AVal.imm (slE 1 u8 (List.drop (Int.toNat (1 : Int)) (List.drop 1 l)))])] []
  (AVal.imm (u64 (getV (List.drop 1 l) (1 : Int)))))),
  (18, 4, 0, Orc.call [] (IVal.map ksF dsF))])
  fun x x_1 => Tree.fail 1000003 0
theorem t35n (ls : Nat → Abs.Loc) (l : List Int) : levD prog Proofs.Try.f35 (σ35 l ls) (T35n ls l) ls [0, 1] (immB cells35) cells35 errE =
  Tree.br (k76 l (1 : Int))
  (Tree.need
  (ALeL [AVal.ptr 0 0, AVal.imm (IVal.v (Value.int IntKind.i64 (1 : Int)))] [AVal.ptr 0 0, AVal.imm (i64 (1 : Int))] ∧
  GSpec prog 42 [(92, AVal.agg [AVal.imm (slE 1 u8 l)])] [] [AVal.ptr 0 0, AVal.imm (i64 (1 : Int))] [(92, AVal.agg [AVal.imm (slE 1 u8 (List.drop 1 l))])] []
  (AVal.imm (u64 (getV l (1 : Int)))))
  (Tree.br (k76 (List.drop 1 l) (1 : Int))
  (Tree.need
  (ALeL [AVal.ptr 0 0, AVal.imm (IVal.v (Value.int IntKind.i64 (1 : Int)))] [AVal.ptr 0 0, AVal.imm (i64 (1 : Int))] ∧
  GSpec prog 42 [(92, AVal.agg [AVal.imm (slE 1 u8 (List.drop 1 l))])] [] [AVal.ptr 0 0, AVal.imm (i64 (1 : Int))]
  [(92, AVal.agg [AVal.imm (slE 1 u8 (List.drop 1 (List.drop 1 l)))])] [] (AVal.imm (u64 (getV (List.drop 1 l) (1 : Int)))))
  (Tree.need (ILeL [] [] ∧ ASpec prog 34 [] (IVal.map ksF dsF))
  (Tree.need
  (true = true ∧
  (if IntKind.wrap IntKind.u8 (getV (List.drop 1 l) (1 : Int)) = (0 : Int) then (AVal.imm (formI (0 : Int)), true)
  else
  if IntKind.wrap IntKind.u8 (getV (List.drop 1 l) (1 : Int)) = (1 : Int) then (AVal.imm (formI (1 : Int)), true)
  else
  if IntKind.wrap IntKind.u8 (getV (List.drop 1 l) (1 : Int)) = (2 : Int) then (AVal.imm (formI (2 : Int)), true)
  else
  if IntKind.wrap IntKind.u8 (getV (List.drop 1 l) (1 : Int)) = (8 : Int) then (AVal.imm (formI (8 : Int)), true)
  else
  if IntKind.wrap IntKind.u8 (getV (List.drop 1 l) (1 : Int)) = (4 : Int) then (AVal.imm (formI (4 : Int)), true)
  else
  if IntKind.wrap IntKind.u8 (getV (List.drop 1 l) (1 : Int)) = (6 : Int) then (AVal.imm (formI (6 : Int)), true)
  else
  if IntKind.wrap IntKind.u8 (getV (List.drop 1 l) (1 : Int)) = (3 : Int) then (AVal.imm (formI (3 : Int)), true)
  else
  if IntKind.wrap IntKind.u8 (getV (List.drop 1 l) (1 : Int)) = (7 : Int) then (AVal.imm (formI (7 : Int)), true)
  else
  if IntKind.wrap IntKind.u8 (getV (List.drop 1 l) (1 : Int)) = (9 : Int) then (AVal.imm (formI (9 : Int)), true)
  else
  if IntKind.wrap IntKind.u8 (getV (List.drop 1 l) (1 : Int)) = (10 : Int) then (AVal.imm (formI (10 : Int)), true)
  else
  if IntKind.wrap IntKind.u8 (getV (List.drop 1 l) (1 : Int)) = (11 : Int) then (AVal.imm (formI (11 : Int)), true)
  else (AVal.imm (IVal.agg [IVal.v Value.nilFunc, IVal.v Value.nilFunc, IVal.v Value.nilFunc, IVal.v Value.nilFunc, IVal.v Value.nilFunc]), false)) =
  (AVal.imm (IVal.agg [IVal.v Value.nilFunc, IVal.v Value.nilFunc, IVal.v Value.nilFunc, IVal.v Value.nilFunc, IVal.v Value.nilFunc]), false))
  (Tree.br true
  (Tree.done Exit.ret
  (lret
  (IVal.tup
  [IVal.agg
  [IVal.v (Value.int IntKind.u8 (0 : Int)), IVal.v (Value.int IntKind.u8 (0 : Int)), IVal.v (Value.int IntKind.u16 (0 : Int)), IVal.v (Value.int IntKind.u32 (0 : Int)), IVal.v (Value.bool false),
  IVal.v (Value.int IntKind.u32 (0 : Int)), IVal.v (Value.int IntKind.u8 (0 : Int)), IVal.v (Value.int IntKind.u64 (0 : Int)), IVal.v (Value.int IntKind.u64 (0 : Int)), IVal.v (Value.int IntKind.i64 (0 : Int)),
  IVal.v (Value.int IntKind.i64 (0 : Int)), IVal.v (Value.int IntKind.u32 (0 : Int)), IVal.v (Value.slice none 0 0), IVal.v (Value.int IntKind.u32 (0 : Int)), IVal.v (Value.int IntKind.u8 (0 : Int)),
  IVal.v (Value.int IntKind.u8 (0 : Int)), IVal.v (Value.int IntKind.u8 (0 : Int)), IVal.v (Value.int IntKind.u8 (0 : Int)), IVal.v (Value.int IntKind.u8 (0 : Int)), IVal.v (Value.int IntKind.u8 (0 : Int)),
  IVal.v (Value.int IntKind.u8 (0 : Int)), IVal.v (Value.int IntKind.u8 (0 : Int)), IVal.v (Value.int IntKind.u8 (0 : Int)), IVal.v (Value.int IntKind.u8 (0 : Int)), IVal.v (Value.int IntKind.u8 (0 : Int)),
  IVal.v (Value.int IntKind.u8 (0 : Int)), IVal.v (Value.int IntKind.u8 (0 : Int)), IVal.v (Value.int IntKind.u8 (0 : Int)), IVal.v (Value.int IntKind.u8 (0 : Int)), IVal.v (Value.int IntKind.u8 (0 : Int)),
  IVal.v (Value.int IntKind.i64 (0 : Int)), IVal.v (Value.int IntKind.u32 (0 : Int)), IVal.v (Value.int IntKind.u32 (0 : Int)), IVal.v (Value.int IntKind.u32 (0 : Int)), IVal.v (Value.int IntKind.u16 (0 : Int)),
  IVal.v (Value.slice none 0 0), IVal.v (Value.string (ByteArray.mk (Array.mk [])))],
  IVal.v (Value.bool false)])))
  (Tree.stop
  (LState.mk
  [(37, AVal.ptr 6 0), (36, AVal.ptr 16 0), (35, AVal.imm (IVal.v Value.nilFunc)), (34, AVal.ptr 28 3),
  (32, AVal.imm (IVal.v (Value.bool true))), (31, AVal.imm (IVal.v (Value.bool false))), (7, AVal.imm (IVal.v (Value.bool false))), (6, AVal.ptr 28 0),
  (30, AVal.imm (IVal.v (Value.bool false))), (29, AVal.imm (IVal.agg [IVal.v Value.nilFunc, IVal.v Value.nilFunc, IVal.v Value.nilFunc, IVal.v Value.nilFunc, IVal.v Value.nilFunc])),
  (21, AVal.tup [AVal.imm (IVal.agg [IVal.v Value.nilFunc, IVal.v Value.nilFunc, IVal.v Value.nilFunc, IVal.v Value.nilFunc, IVal.v Value.nilFunc]), AVal.imm (IVal.v (Value.bool false))]),
  (28, AVal.tup [AVal.imm (IVal.agg [IVal.v Value.nilFunc, IVal.v Value.nilFunc, IVal.v Value.nilFunc, IVal.v Value.nilFunc, IVal.v Value.nilFunc]), AVal.imm (IVal.v (Value.bool false))]),
  (27, AVal.imm (IVal.v (Value.int IntKind.u8 (IntKind.wrap IntKind.u8 (getV (List.drop 1 l) (1 : Int)))))), (26, AVal.ptr 16 1), (25, AVal.ptr 16 0),
  (24, AVal.ptr 16 0), (23, AVal.ptr 16 0), (22, AVal.imm (IVal.map ksF dsF)), (5, AVal.ptr 16 0),
  (20, AVal.ptr 16 0),
  (19,
  AVal.agg
  [AVal.imm (IVal.v (Value.int IntKind.u8 (IntKind.wrap IntKind.u8 (getV l (1 : Int))))), AVal.imm (IVal.v (Value.int IntKind.u8 (IntKind.wrap IntKind.u8 (getV (List.drop 1 l) (1 : Int))))),
  AVal.imm (IVal.v (Value.int IntKind.u16 (0 : Int))), AVal.imm (IVal.v (Value.int IntKind.u32 (0 : Int))), AVal.imm (IVal.v (Value.bool false)), AVal.imm (IVal.v (Value.int IntKind.u32 (0 : Int))),
  AVal.imm (IVal.v (Value.int IntKind.u8 (0 : Int))), AVal.imm (IVal.v (Value.int IntKind.u64 (0 : Int))), AVal.imm (IVal.v (Value.int IntKind.u64 (0 : Int))), AVal.imm (IVal.v (Value.int IntKind.i64 (0 : Int))),
  AVal.imm (IVal.v (Value.int IntKind.i64 (0 : Int))), AVal.imm (IVal.v (Value.int IntKind.u32 (0 : Int))), AVal.imm (IVal.v (Value.slice none 0 0)),
  AVal.imm (IVal.v (Value.int IntKind.u32 (0 : Int))), AVal.imm (IVal.v (Value.int IntKind.u8 (0 : Int))), AVal.imm (IVal.v (Value.int IntKind.u8 (0 : Int))), AVal.imm (IVal.v (Value.int IntKind.u8 (0 : Int))),
  AVal.imm (IVal.v (Value.int IntKind.u8 (0 : Int))), AVal.imm (IVal.v (Value.int IntKind.u8 (0 : Int))), AVal.imm (IVal.v (Value.int IntKind.u8 (0 : Int))), AVal.imm (IVal.v (Value.int IntKind.u8 (0 : Int))),
  AVal.imm (IVal.v (Value.int IntKind.u8 (0 : Int))), AVal.imm (IVal.v (Value.int IntKind.u8 (0 : Int))), AVal.imm (IVal.v (Value.int IntKind.u8 (0 : Int))), AVal.imm (IVal.v (Value.int IntKind.u8 (0 : Int))),
  AVal.imm (IVal.v (Value.int IntKind.u8 (0 : Int))), AVal.imm (IVal.v (Value.int IntKind.u8 (0 : Int))), AVal.imm (IVal.v (Value.int IntKind.u8 (0 : Int))), AVal.imm (IVal.v (Value.int IntKind.u8 (0 : Int))),
  AVal.imm (IVal.v (Value.int IntKind.u8 (0 : Int))), AVal.imm (IVal.v (Value.int IntKind.i64 (0 : Int))), AVal.imm (IVal.v (Value.int IntKind.u32 (0 : Int))), AVal.imm (IVal.v (Value.int IntKind.u32 (0 : Int))),
  AVal.imm (IVal.v (Value.int IntKind.u32 (0 : Int))), AVal.imm (IVal.v (Value.int IntKind.u16 (0 : Int))), AVal.imm (IVal.v (Value.slice none 0 0)),
  AVal.imm (IVal.v (Value.string (ByteArray.mk (Array.mk []))))]),
  (18,
  AVal.agg
  [AVal.imm (IVal.v (Value.int IntKind.u8 (IntKind.wrap IntKind.u8 (getV l (1 : Int))))), AVal.imm (IVal.v (Value.int IntKind.u8 (IntKind.wrap IntKind.u8 (getV (List.drop 1 l) (1 : Int))))),
  AVal.imm (IVal.v (Value.int IntKind.u16 (0 : Int))), AVal.imm (IVal.v (Value.int IntKind.u32 (0 : Int))), AVal.imm (IVal.v (Value.bool false)), AVal.imm (IVal.v (Value.int IntKind.u32 (0 : Int))),
  AVal.imm (IVal.v (Value.int IntKind.u8 (0 : Int))), AVal.imm (IVal.v (Value.int IntKind.u64 (0 : Int))), AVal.imm (IVal.v (Value.int IntKind.u64 (0 : Int))), AVal.imm (IVal.v (Value.int IntKind.i64 (0 : Int))),
  AVal.imm (IVal.v (Value.int IntKind.i64 (0 : Int))), AVal.imm (IVal.v (Value.int IntKind.u32 (0 : Int))), AVal.imm (IVal.v (Value.slice none 0 0)),
  AVal.imm (IVal.v (Value.int IntKind.u32 (0 : Int))), AVal.imm (IVal.v (Value.int IntKind.u8 (0 : Int))), AVal.imm (IVal.v (Value.int IntKind.u8 (0 : Int))), AVal.imm (IVal.v (Value.int IntKind.u8 (0 : Int))),
  AVal.imm (IVal.v (Value.int IntKind.u8 (0 : Int))), AVal.imm (IVal.v (Value.int IntKind.u8 (0 : Int))), AVal.imm (IVal.v (Value.int IntKind.u8 (0 : Int))), AVal.imm (IVal.v (Value.int IntKind.u8 (0 : Int))),
  AVal.imm (IVal.v (Value.int IntKind.u8 (0 : Int))), AVal.imm (IVal.v (Value.int IntKind.u8 (0 : Int))), AVal.imm (IVal.v (Value.int IntKind.u8 (0 : Int))), AVal.imm (IVal.v (Value.int IntKind.u8 (0 : Int))),
  AVal.imm (IVal.v (Value.int IntKind.u8 (0 : Int))), AVal.imm (IVal.v (Value.int IntKind.u8 (0 : Int))), AVal.imm (IVal.v (Value.int IntKind.u8 (0 : Int))), AVal.imm (IVal.v (Value.int IntKind.u8 (0 : Int))),
  AVal.imm (IVal.v (Value.int IntKind.u8 (0 : Int))), AVal.imm (IVal.v (Value.int IntKind.i64 (0 : Int))), AVal.imm (IVal.v (Value.int IntKind.u32 (0 : Int))), AVal.imm (IVal.v (Value.int IntKind.u32 (0 : Int))),
  AVal.imm (IVal.v (Value.int IntKind.u32 (0 : Int))), AVal.imm (IVal.v (Value.int IntKind.u16 (0 : Int))), AVal.imm (IVal.v (Value.slice none 0 0)),
  AVal.imm (IVal.v (Value.string (ByteArray.mk (Array.mk []))))]),
  (17, AVal.imm (IVal.v (Value.int IntKind.u8 (IntKind.wrap IntKind.u8 (getV (List.drop 1 l) (1 : Int)))))), (16, AVal.imm (u64 (getV (List.drop 1 l) (1 : Int)))),
  (15, AVal.ptr 6 0), (14, AVal.imm (IVal.v (Value.int IntKind.u8 (IntKind.wrap IntKind.u8 (getV l (1 : Int)))))), (13, AVal.imm (u64 (getV l (1 : Int)))),
  (12, AVal.ptr 6 0), (4, AVal.ptr 6 0), (11, AVal.ptr 6 0), (10, AVal.agg [AVal.imm (slE 1 u8 l)]),
  (9, AVal.imm (slE 1 u8 l)), (3, AVal.ptr 1 0), (2, AVal.ptr 0 0), (0, AVal.imm (slE 1 u8 l))]
  [(28, Entry.box 80 (AVal.imm (IVal.agg [IVal.v Value.nilFunc, IVal.v Value.nilFunc, IVal.v Value.nilFunc, IVal.v Value.nilFunc, IVal.v Value.nilFunc]))),
  (16,
  Entry.box 85
  (AVal.agg
  [AVal.imm (IVal.v (Value.int IntKind.u8 (IntKind.wrap IntKind.u8 (getV l (1 : Int))))), AVal.imm (IVal.v (Value.int IntKind.u8 (IntKind.wrap IntKind.u8 (getV (List.drop 1 l) (1 : Int))))),
  AVal.imm (IVal.v (Value.int IntKind.u16 (0 : Int))), AVal.imm (IVal.v (Value.int IntKind.u32 (0 : Int))), AVal.imm (IVal.v (Value.bool false)), AVal.imm (IVal.v (Value.int IntKind.u32 (0 : Int))),
  AVal.imm (IVal.v (Value.int IntKind.u8 (0 : Int))), AVal.imm (IVal.v (Value.int IntKind.u64 (0 : Int))), AVal.imm (IVal.v (Value.int IntKind.u64 (0 : Int))), AVal.imm (IVal.v (Value.int IntKind.i64 (0 : Int))),
  AVal.imm (IVal.v (Value.int IntKind.i64 (0 : Int))), AVal.imm (IVal.v (Value.int IntKind.u32 (0 : Int))), AVal.imm (IVal.v (Value.slice none 0 0)),
  AVal.imm (IVal.v (Value.int IntKind.u32 (0 : Int))), AVal.imm (IVal.v (Value.int IntKind.u8 (0 : Int))), AVal.imm (IVal.v (Value.int IntKind.u8 (0 : Int))), AVal.imm (IVal.v (Value.int IntKind.u8 (0 : Int))),
  AVal.imm (IVal.v (Value.int IntKind.u8 (0 : Int))), AVal.imm (IVal.v (Value.int IntKind.u8 (0 : Int))), AVal.imm (IVal.v (Value.int IntKind.u8 (0 : Int))), AVal.imm (IVal.v (Value.int IntKind.u8 (0 : Int))),
  AVal.imm (IVal.v (Value.int IntKind.u8 (0 : Int))), AVal.imm (IVal.v (Value.int IntKind.u8 (0 : Int))), AVal.imm (IVal.v (Value.int IntKind.u8 (0 : Int))), AVal.imm (IVal.v (Value.int IntKind.u8 (0 : Int))),
  AVal.imm (IVal.v (Value.int IntKind.u8 (0 : Int))), AVal.imm (IVal.v (Value.int IntKind.u8 (0 : Int))), AVal.imm (IVal.v (Value.int IntKind.u8 (0 : Int))), AVal.imm (IVal.v (Value.int IntKind.u8 (0 : Int))),
  AVal.imm (IVal.v (Value.int IntKind.u8 (0 : Int))), AVal.imm (IVal.v (Value.int IntKind.i64 (0 : Int))), AVal.imm (IVal.v (Value.int IntKind.u32 (0 : Int))), AVal.imm (IVal.v (Value.int IntKind.u32 (0 : Int))),
  AVal.imm (IVal.v (Value.int IntKind.u32 (0 : Int))), AVal.imm (IVal.v (Value.int IntKind.u16 (0 : Int))), AVal.imm (IVal.v (Value.slice none 0 0)),
  AVal.imm (IVal.v (Value.string (ByteArray.mk (Array.mk []))))])),
  (6, Entry.box 92 (AVal.agg [AVal.imm (slE 1 u8 (List.drop 1 (List.drop 1 l)))])), (1, Entry.bbox (ls 1) 4 (AVal.imm (bo false))),
  (0, Entry.bbox (ls 0) 42 (AVal.imm z42))]
  56 33 [])
  7 4 (Op.call (Call.mk (Callee.value (Operand.tmp 35)) (Array.mk [Operand.tmp 36, Operand.tmp 37]) (Array.mk [98, 90]))))))))
  (Tree.need
  (ALeL [AVal.ptr 0 0, AVal.imm (IVal.v (Value.int IntKind.i64 (1 : Int)))] [AVal.ptr 0 0, AVal.imm (i64 (1 : Int))] ∧
  PSpec prog 42 [(92, AVal.agg [AVal.imm (slE 1 u8 (List.drop 1 l))])] [] [AVal.ptr 0 0, AVal.imm (i64 (1 : Int))] errE)
  (Tree.need
  (errE = errE ∧
  [(42, AVal.imm z42), (4, AVal.imm (bo false))] =
  [(42,
  AVal.imm
  (IVal.agg
  [u8 (0 : Int), u8 (0 : Int), u16 (0 : Int), u32 (0 : Int), bo false, u32 (0 : Int), u8 (0 : Int), u64 (0 : Int), u64 (0 : Int), i64 (0 : Int), i64 (0 : Int), u32 (0 : Int),
  IVal.v (Value.slice none 0 0), u32 (0 : Int), u8 (0 : Int), u8 (0 : Int), u8 (0 : Int), u8 (0 : Int), u8 (0 : Int), u8 (0 : Int), u8 (0 : Int), u8 (0 : Int), u8 (0 : Int), u8 (0 : Int),
  u8 (0 : Int), u8 (0 : Int), u8 (0 : Int), u8 (0 : Int), u8 (0 : Int), u8 (0 : Int), i64 (0 : Int), u32 (0 : Int), u32 (0 : Int), u32 (0 : Int), u16 (0 : Int), IVal.v (Value.slice none 0 0),
  IVal.v (Value.string (ByteArray.mk (Array.mk [])))])),
  (4, AVal.imm (IVal.v (Value.bool false)))] ∧
  ls 0 = ls 0 ∧ ls 1 = ls 1 ∧ True)
  (Tree.done Exit.ret
  (lret
  (IVal.tup
  [IVal.agg
  [u8 (0 : Int), u8 (0 : Int), u16 (0 : Int), u32 (0 : Int), bo false, u32 (0 : Int), u8 (0 : Int), u64 (0 : Int), u64 (0 : Int), i64 (0 : Int), i64 (0 : Int), u32 (0 : Int), IVal.v (Value.slice none 0 0),
  u32 (0 : Int), u8 (0 : Int), u8 (0 : Int), u8 (0 : Int), u8 (0 : Int), u8 (0 : Int), u8 (0 : Int), u8 (0 : Int), u8 (0 : Int), u8 (0 : Int), u8 (0 : Int), u8 (0 : Int), u8 (0 : Int), u8 (0 : Int), u8 (0 : Int),
  u8 (0 : Int), u8 (0 : Int), i64 (0 : Int), u32 (0 : Int), u32 (0 : Int), u32 (0 : Int), u16 (0 : Int), IVal.v (Value.slice none 0 0), IVal.v (Value.string (ByteArray.mk (Array.mk [])))],
  IVal.v (Value.bool false)])))))))
  (Tree.need
  (ALeL [AVal.ptr 0 0, AVal.imm (IVal.v (Value.int IntKind.i64 (1 : Int)))] [AVal.ptr 0 0, AVal.imm (i64 (1 : Int))] ∧
  PSpec prog 42 [(92, AVal.agg [AVal.imm (slE 1 u8 l)])] [] [AVal.ptr 0 0, AVal.imm (i64 (1 : Int))] errE)
  (Tree.need
  (errE = errE ∧
  [(42, AVal.imm z42), (4, AVal.imm (bo false))] =
  [(42,
  AVal.imm
  (IVal.agg
  [u8 (0 : Int), u8 (0 : Int), u16 (0 : Int), u32 (0 : Int), bo false, u32 (0 : Int), u8 (0 : Int), u64 (0 : Int), u64 (0 : Int), i64 (0 : Int), i64 (0 : Int), u32 (0 : Int), IVal.v (Value.slice none 0 0),
  u32 (0 : Int), u8 (0 : Int), u8 (0 : Int), u8 (0 : Int), u8 (0 : Int), u8 (0 : Int), u8 (0 : Int), u8 (0 : Int), u8 (0 : Int), u8 (0 : Int), u8 (0 : Int), u8 (0 : Int), u8 (0 : Int), u8 (0 : Int), u8 (0 : Int),
  u8 (0 : Int), u8 (0 : Int), i64 (0 : Int), u32 (0 : Int), u32 (0 : Int), u32 (0 : Int), u16 (0 : Int), IVal.v (Value.slice none 0 0), IVal.v (Value.string (ByteArray.mk (Array.mk [])))])),
  (4, AVal.imm (IVal.v (Value.bool false)))] ∧
  ls 0 = ls 0 ∧ ls 1 = ls 1 ∧ True)
  (Tree.done Exit.ret
  (lret
  (IVal.tup
  [IVal.agg
  [u8 (0 : Int), u8 (0 : Int), u16 (0 : Int), u32 (0 : Int), bo false, u32 (0 : Int), u8 (0 : Int), u64 (0 : Int), u64 (0 : Int), i64 (0 : Int), i64 (0 : Int), u32 (0 : Int), IVal.v (Value.slice none 0 0),
  u32 (0 : Int), u8 (0 : Int), u8 (0 : Int), u8 (0 : Int), u8 (0 : Int), u8 (0 : Int), u8 (0 : Int), u8 (0 : Int), u8 (0 : Int), u8 (0 : Int), u8 (0 : Int), u8 (0 : Int), u8 (0 : Int), u8 (0 : Int), u8 (0 : Int),
  u8 (0 : Int), u8 (0 : Int), i64 (0 : Int), u32 (0 : Int), u32 (0 : Int), u32 (0 : Int), u16 (0 : Int), IVal.v (Value.slice none 0 0), IVal.v (Value.string (ByteArray.mk (Array.mk [])))],
  IVal.v (Value.bool false)]))))) := by kernel_rfl
def T35s (ls : Nat → Abs.Loc) (l : List Int) : Tell :=
  Tell.mk (fun x x_1 => false) (fun r i => if (r == 4 && i == 6) = true then Orc.look (AVal.imm (formI (gu8 (List.drop 1 l)))) true else Orc.no) (fun x => Tree.fail 1000003 0) (fun x => 0)
  (fun x => ([], []))
  (ogetO (fun r i => if (r == 4 && i == 6) = true then Orc.look (AVal.imm (formI (gu8 (List.drop 1 l)))) true else Orc.no)
  [(8, 3, 1,
  Orc.may (k76 l (1 : Int)) [6] 1 [AVal.ptr 0 0, AVal.imm (i64 (1 : Int))] errE
  (Orc.callg [6] 1 [AVal.ptr 0 0, AVal.imm (i64 (1 : Int))] [(92, AVal.agg [AVal.imm (slE 1 u8 (List.drop (Int.toNat (1 : Int)) l))])] [] (AVal.imm (u64 (getV l (1 : Int)))))),
  (8, 3, 4,
  Orc.may (k76 (List.drop 1 l) (1 : Int)) [6] 1 [AVal.ptr 0 0, AVal.imm (i64 (1 : Int))] errE
  (Orc.callg [6] 1 [AVal.ptr 0 0, AVal.imm (i64 (1 : Int))] [(92, AVal.agg [AVal.imm (slE 1 u8 (List.drop (Int.toNat (1 : Int)) (List.drop 1 l)))])] []
  (AVal.imm (u64 (getV (List.drop 1 l) (1 : Int)))))),
  (18, 4, 0, Orc.call [] (IVal.map ksF dsF)),
  (33, 7, 4,
  Orc.may (kF (getV (List.drop 1 l) (1 : Int) % (2 : Int) ^ IntKind.bits IntKind.u8) (List.drop 1 (List.drop 1 l))) [16, 6] 2 [AVal.ptr 0 0, AVal.ptr 1 0]
  errE
  (Orc.callg [16, 6] 2 [AVal.ptr 0 0, AVal.ptr 1 0]
  (two
  (z1 (getV l (1 : Int) % (2 : Int) ^ IntKind.bits IntKind.u8) (getV (List.drop 1 l) (1 : Int) % (2 : Int) ^ IntKind.bits IntKind.u8)
  (sF (getV (List.drop 1 l) (1 : Int) % (2 : Int) ^ IntKind.bits IntKind.u8) (List.drop 1 (List.drop 1 l)))
  (aF (getV (List.drop 1 l) (1 : Int) % (2 : Int) ^ IntKind.bits IntKind.u8) (List.drop 1 (List.drop 1 l)))
  (cF (getV (List.drop 1 l) (1 : Int) % (2 : Int) ^ IntKind.bits IntKind.u8) (List.drop 1 (List.drop 1 l))))
  (List.drop 2 (List.drop 1 (List.drop 1 l))))
  [] (AVal.tup []))),
  (38, 8, 1,
  Orc.may (k76 (List.drop 2 (List.drop 1 (List.drop 1 l))) (4 : Int)) [6] 1 [AVal.ptr 0 0, AVal.imm (i64 (4 : Int))] errE
  (Orc.callg [6] 1 [AVal.ptr 0 0, AVal.imm (i64 (4 : Int))]
  [(92, AVal.agg [AVal.imm (slE 1 u8 (List.drop (Int.toNat (4 : Int)) (List.drop 2 (List.drop 1 (List.drop 1 l)))))])] []
  (AVal.imm (slE 1 u8 (List.take (Int.toNat (4 : Int)) (List.drop 2 (List.drop 1 (List.drop 1 l)))))))),
  (40, 9, 4,
  Orc.may (kT (getV l (1 : Int) % (256 : Int)) (getV (List.drop 1 l) (1 : Int) % (256 : Int)) (List.drop 4 (List.drop 2 (List.drop 1 (List.drop 1 l))))) [16, 6] 2
  [AVal.ptr 0 0, AVal.ptr 1 0] errE
  (Orc.callg [16, 6] 2 [AVal.ptr 0 0, AVal.ptr 1 0]
  (two
  (tS
  (z1 (getV l (1 : Int) % (256 : Int)) (getV (List.drop 1 l) (1 : Int) % (256 : Int)) (sF (getV (List.drop 1 l) (1 : Int) % (256 : Int)) (List.drop 1 (List.drop 1 l)))
  (aF (getV (List.drop 1 l) (1 : Int) % (256 : Int)) (List.drop 1 (List.drop 1 l))) (cF (getV (List.drop 1 l) (1 : Int) % (256 : Int)) (List.drop 1 (List.drop 1 l))))
  (List.drop 4 (List.drop 2 (List.drop 1 (List.drop 1 l)))))
  (List.drop (tN (getV l (1 : Int) % (256 : Int)) (getV (List.drop 1 l) (1 : Int) % (256 : Int))) (List.drop 4 (List.drop 2 (List.drop 1 (List.drop 1 l))))))
  [] (AVal.tup [])))])
  fun x x_1 => Tree.fail 1000003 0
theorem t35s (ls : Nat → Abs.Loc) (l : List Int) : levD prog Proofs.Try.f35 (σ35 l ls) (T35s ls l) ls [0, 1] (immB cells35) cells35 errE =
  Tree.br (k76 l (1 : Int))
  (Tree.need
  (ALeL [AVal.ptr 0 0, AVal.imm (IVal.v (Value.int IntKind.i64 (1 : Int)))] [AVal.ptr 0 0, AVal.imm (i64 (1 : Int))] ∧
  GSpec prog 42 [(92, AVal.agg [AVal.imm (slE 1 u8 l)])] [] [AVal.ptr 0 0, AVal.imm (i64 (1 : Int))] [(92, AVal.agg [AVal.imm (slE 1 u8 (List.drop 1 l))])] []
  (AVal.imm (u64 (getV l (1 : Int)))))
  (Tree.br (k76 (List.drop 1 l) (1 : Int))
  (Tree.need
  (ALeL [AVal.ptr 0 0, AVal.imm (IVal.v (Value.int IntKind.i64 (1 : Int)))] [AVal.ptr 0 0, AVal.imm (i64 (1 : Int))] ∧
  GSpec prog 42 [(92, AVal.agg [AVal.imm (slE 1 u8 (List.drop 1 l))])] [] [AVal.ptr 0 0, AVal.imm (i64 (1 : Int))]
  [(92, AVal.agg [AVal.imm (slE 1 u8 (List.drop 1 (List.drop 1 l)))])] [] (AVal.imm (u64 (getV (List.drop 1 l) (1 : Int)))))
  (Tree.need (ILeL [] [] ∧ ASpec prog 34 [] (IVal.map ksF dsF))
  (Tree.need
  (true = true ∧
  (if IntKind.wrap IntKind.u8 (getV (List.drop 1 l) (1 : Int)) = (0 : Int) then (AVal.imm (formI (0 : Int)), true)
  else
  if IntKind.wrap IntKind.u8 (getV (List.drop 1 l) (1 : Int)) = (1 : Int) then (AVal.imm (formI (1 : Int)), true)
  else
  if IntKind.wrap IntKind.u8 (getV (List.drop 1 l) (1 : Int)) = (2 : Int) then (AVal.imm (formI (2 : Int)), true)
  else
  if IntKind.wrap IntKind.u8 (getV (List.drop 1 l) (1 : Int)) = (8 : Int) then (AVal.imm (formI (8 : Int)), true)
  else
  if IntKind.wrap IntKind.u8 (getV (List.drop 1 l) (1 : Int)) = (4 : Int) then (AVal.imm (formI (4 : Int)), true)
  else
  if IntKind.wrap IntKind.u8 (getV (List.drop 1 l) (1 : Int)) = (6 : Int) then (AVal.imm (formI (6 : Int)), true)
  else
  if IntKind.wrap IntKind.u8 (getV (List.drop 1 l) (1 : Int)) = (3 : Int) then (AVal.imm (formI (3 : Int)), true)
  else
  if IntKind.wrap IntKind.u8 (getV (List.drop 1 l) (1 : Int)) = (7 : Int) then (AVal.imm (formI (7 : Int)), true)
  else
  if IntKind.wrap IntKind.u8 (getV (List.drop 1 l) (1 : Int)) = (9 : Int) then (AVal.imm (formI (9 : Int)), true)
  else
  if IntKind.wrap IntKind.u8 (getV (List.drop 1 l) (1 : Int)) = (10 : Int) then (AVal.imm (formI (10 : Int)), true)
  else
  if IntKind.wrap IntKind.u8 (getV (List.drop 1 l) (1 : Int)) = (11 : Int) then (AVal.imm (formI (11 : Int)), true)
  else (AVal.imm (IVal.agg [IVal.v Value.nilFunc, IVal.v Value.nilFunc, IVal.v Value.nilFunc, IVal.v Value.nilFunc, IVal.v Value.nilFunc]), false)) =
  (AVal.imm (formI (gu8 (List.drop 1 l))), true))
  (Tree.br false
  (Tree.done Exit.ret
  (lret
  (IVal.tup
  [IVal.agg
  [IVal.v (Value.int IntKind.u8 (0 : Int)), IVal.v (Value.int IntKind.u8 (0 : Int)), IVal.v (Value.int IntKind.u16 (0 : Int)), IVal.v (Value.int IntKind.u32 (0 : Int)), IVal.v (Value.bool false),
  IVal.v (Value.int IntKind.u32 (0 : Int)), IVal.v (Value.int IntKind.u8 (0 : Int)), IVal.v (Value.int IntKind.u64 (0 : Int)), IVal.v (Value.int IntKind.u64 (0 : Int)), IVal.v (Value.int IntKind.i64 (0 : Int)),
  IVal.v (Value.int IntKind.i64 (0 : Int)), IVal.v (Value.int IntKind.u32 (0 : Int)), IVal.v (Value.slice none 0 0), IVal.v (Value.int IntKind.u32 (0 : Int)), IVal.v (Value.int IntKind.u8 (0 : Int)),
  IVal.v (Value.int IntKind.u8 (0 : Int)), IVal.v (Value.int IntKind.u8 (0 : Int)), IVal.v (Value.int IntKind.u8 (0 : Int)), IVal.v (Value.int IntKind.u8 (0 : Int)), IVal.v (Value.int IntKind.u8 (0 : Int)),
  IVal.v (Value.int IntKind.u8 (0 : Int)), IVal.v (Value.int IntKind.u8 (0 : Int)), IVal.v (Value.int IntKind.u8 (0 : Int)), IVal.v (Value.int IntKind.u8 (0 : Int)), IVal.v (Value.int IntKind.u8 (0 : Int)),
  IVal.v (Value.int IntKind.u8 (0 : Int)), IVal.v (Value.int IntKind.u8 (0 : Int)), IVal.v (Value.int IntKind.u8 (0 : Int)), IVal.v (Value.int IntKind.u8 (0 : Int)), IVal.v (Value.int IntKind.u8 (0 : Int)),
  IVal.v (Value.int IntKind.i64 (0 : Int)), IVal.v (Value.int IntKind.u32 (0 : Int)), IVal.v (Value.int IntKind.u32 (0 : Int)), IVal.v (Value.int IntKind.u32 (0 : Int)), IVal.v (Value.int IntKind.u16 (0 : Int)),
  IVal.v (Value.slice none 0 0), IVal.v (Value.string (ByteArray.mk (Array.mk [])))],
  IVal.v (Value.bool false)])))
  (Tree.br (kF (getV (List.drop 1 l) (1 : Int) % (256 : Int)) (List.drop 1 (List.drop 1 l)))
  (Tree.need
  (ALeL [AVal.ptr 0 0, AVal.ptr 1 0] [AVal.ptr 0 0, AVal.ptr 1 0] ∧
  GSpec prog (firstN (gu8 (List.drop 1 l)))
  [(85,
  AVal.agg
  [AVal.imm (IVal.v (Value.int IntKind.u8 (IntKind.wrap IntKind.u8 (getV l (1 : Int))))), AVal.imm (IVal.v (Value.int IntKind.u8 (IntKind.wrap IntKind.u8 (getV (List.drop 1 l) (1 : Int))))),
  AVal.imm (IVal.v (Value.int IntKind.u16 (0 : Int))), AVal.imm (IVal.v (Value.int IntKind.u32 (0 : Int))), AVal.imm (IVal.v (Value.bool false)), AVal.imm (IVal.v (Value.int IntKind.u32 (0 : Int))),
  AVal.imm (IVal.v (Value.int IntKind.u8 (0 : Int))), AVal.imm (IVal.v (Value.int IntKind.u64 (0 : Int))), AVal.imm (IVal.v (Value.int IntKind.u64 (0 : Int))), AVal.imm (IVal.v (Value.int IntKind.i64 (0 : Int))),
  AVal.imm (IVal.v (Value.int IntKind.i64 (0 : Int))), AVal.imm (IVal.v (Value.int IntKind.u32 (0 : Int))), AVal.imm (IVal.v (Value.slice none 0 0)),
  AVal.imm (IVal.v (Value.int IntKind.u32 (0 : Int))), AVal.imm (IVal.v (Value.int IntKind.u8 (0 : Int))), AVal.imm (IVal.v (Value.int IntKind.u8 (0 : Int))), AVal.imm (IVal.v (Value.int IntKind.u8 (0 : Int))),
  AVal.imm (IVal.v (Value.int IntKind.u8 (0 : Int))), AVal.imm (IVal.v (Value.int IntKind.u8 (0 : Int))), AVal.imm (IVal.v (Value.int IntKind.u8 (0 : Int))), AVal.imm (IVal.v (Value.int IntKind.u8 (0 : Int))),
  AVal.imm (IVal.v (Value.int IntKind.u8 (0 : Int))), AVal.imm (IVal.v (Value.int IntKind.u8 (0 : Int))), AVal.imm (IVal.v (Value.int IntKind.u8 (0 : Int))), AVal.imm (IVal.v (Value.int IntKind.u8 (0 : Int))),
  AVal.imm (IVal.v (Value.int IntKind.u8 (0 : Int))), AVal.imm (IVal.v (Value.int IntKind.u8 (0 : Int))), AVal.imm (IVal.v (Value.int IntKind.u8 (0 : Int))), AVal.imm (IVal.v (Value.int IntKind.u8 (0 : Int))),
  AVal.imm (IVal.v (Value.int IntKind.u8 (0 : Int))), AVal.imm (IVal.v (Value.int IntKind.i64 (0 : Int))), AVal.imm (IVal.v (Value.int IntKind.u32 (0 : Int))), AVal.imm (IVal.v (Value.int IntKind.u32 (0 : Int))),
  AVal.imm (IVal.v (Value.int IntKind.u32 (0 : Int))), AVal.imm (IVal.v (Value.int IntKind.u16 (0 : Int))), AVal.imm (IVal.v (Value.slice none 0 0)),
  AVal.imm (IVal.v (Value.string (ByteArray.mk (Array.mk []))))]),
  (92, AVal.agg [AVal.imm (slE 1 u8 (List.drop 1 (List.drop 1 l)))])]
  [] [AVal.ptr 0 0, AVal.ptr 1 0]
  (two
  (z1 (getV l (1 : Int) % (256 : Int)) (getV (List.drop 1 l) (1 : Int) % (256 : Int)) (sF (getV (List.drop 1 l) (1 : Int) % (256 : Int)) (List.drop 1 (List.drop 1 l)))
  (aF (getV (List.drop 1 l) (1 : Int) % (256 : Int)) (List.drop 1 (List.drop 1 l))) (cF (getV (List.drop 1 l) (1 : Int) % (256 : Int)) (List.drop 1 (List.drop 1 l))))
  (List.drop 2 (List.drop 1 (List.drop 1 l))))
  [] (AVal.tup []))
  (Tree.br (k76 (List.drop 2 (List.drop 1 (List.drop 1 l))) (4 : Int))
  (Tree.need
  (ALeL [AVal.ptr 0 0, AVal.imm (IVal.v (Value.int IntKind.i64 (4 : Int)))] [AVal.ptr 0 0, AVal.imm (i64 (4 : Int))] ∧
  GSpec prog 76 [(92, AVal.agg [AVal.imm (slE 1 u8 (List.drop 2 (List.drop 1 (List.drop 1 l))))])] [] [AVal.ptr 0 0, AVal.imm (i64 (4 : Int))]
  [(92, AVal.agg [AVal.imm (slE 1 u8 (List.drop 4 (List.drop 2 (List.drop 1 (List.drop 1 l)))))])] []
  (AVal.imm (slE 1 u8 (List.take 4 (List.drop 2 (List.drop 1 (List.drop 1 l)))))))
  (Tree.br (kT (getV l (1 : Int) % (256 : Int)) (getV (List.drop 1 l) (1 : Int) % (256 : Int)) (List.drop 4 (List.drop 2 (List.drop 1 (List.drop 1 l)))))
  (Tree.need
  (ALeL [AVal.ptr 0 0, AVal.ptr 1 0] [AVal.ptr 0 0, AVal.ptr 1 0] ∧
  GSpec prog (thenN (gu8 (List.drop 1 l)))
  [(85,
  AVal.agg
  [AVal.imm
  (u8
  (z1 (getV l (1 : Int) % (256 : Int)) (getV (List.drop 1 l) (1 : Int) % (256 : Int)) (sF (getV (List.drop 1 l) (1 : Int) % (256 : Int)) (List.drop 1 (List.drop 1 l)))
  (aF (getV (List.drop 1 l) (1 : Int) % (256 : Int)) (List.drop 1 (List.drop 1 l)))
  (cF (getV (List.drop 1 l) (1 : Int) % (256 : Int)) (List.drop 1 (List.drop 1 l)))).version),
  AVal.imm
  (u8
  (z1 (getV l (1 : Int) % (256 : Int)) (getV (List.drop 1 l) (1 : Int) % (256 : Int)) (sF (getV (List.drop 1 l) (1 : Int) % (256 : Int)) (List.drop 1 (List.drop 1 l)))
  (aF (getV (List.drop 1 l) (1 : Int) % (256 : Int)) (List.drop 1 (List.drop 1 l)))
  (cF (getV (List.drop 1 l) (1 : Int) % (256 : Int)) (List.drop 1 (List.drop 1 l)))).kind),
  AVal.imm
  (u16
  (z1 (getV l (1 : Int) % (256 : Int)) (getV (List.drop 1 l) (1 : Int) % (256 : Int)) (sF (getV (List.drop 1 l) (1 : Int) % (256 : Int)) (List.drop 1 (List.drop 1 l)))
  (aF (getV (List.drop 1 l) (1 : Int) % (256 : Int)) (List.drop 1 (List.drop 1 l)))
  (cF (getV (List.drop 1 l) (1 : Int) % (256 : Int)) (List.drop 1 (List.drop 1 l)))).session),
  AVal.imm
  (u32
  (z1 (getV l (1 : Int) % (256 : Int)) (getV (List.drop 1 l) (1 : Int) % (256 : Int)) (sF (getV (List.drop 1 l) (1 : Int) % (256 : Int)) (List.drop 1 (List.drop 1 l)))
  (aF (getV (List.drop 1 l) (1 : Int) % (256 : Int)) (List.drop 1 (List.drop 1 l)))
  (cF (getV (List.drop 1 l) (1 : Int) % (256 : Int)) (List.drop 1 (List.drop 1 l)))).serial),
  AVal.imm
  (bo
  (z1 (getV l (1 : Int) % (256 : Int)) (getV (List.drop 1 l) (1 : Int) % (256 : Int)) (sF (getV (List.drop 1 l) (1 : Int) % (256 : Int)) (List.drop 1 (List.drop 1 l)))
  (aF (getV (List.drop 1 l) (1 : Int) % (256 : Int)) (List.drop 1 (List.drop 1 l)))
  (cF (getV (List.drop 1 l) (1 : Int) % (256 : Int)) (List.drop 1 (List.drop 1 l)))).add),
  AVal.imm
  (u32
  (z1 (getV l (1 : Int) % (256 : Int)) (getV (List.drop 1 l) (1 : Int) % (256 : Int)) (sF (getV (List.drop 1 l) (1 : Int) % (256 : Int)) (List.drop 1 (List.drop 1 l)))
  (aF (getV (List.drop 1 l) (1 : Int) % (256 : Int)) (List.drop 1 (List.drop 1 l)))
  (cF (getV (List.drop 1 l) (1 : Int) % (256 : Int)) (List.drop 1 (List.drop 1 l)))).origin.asn),
  AVal.imm
  (u8
  (z1 (getV l (1 : Int) % (256 : Int)) (getV (List.drop 1 l) (1 : Int) % (256 : Int)) (sF (getV (List.drop 1 l) (1 : Int) % (256 : Int)) (List.drop 1 (List.drop 1 l)))
  (aF (getV (List.drop 1 l) (1 : Int) % (256 : Int)) (List.drop 1 (List.drop 1 l)))
  (cF (getV (List.drop 1 l) (1 : Int) % (256 : Int)) (List.drop 1 (List.drop 1 l)))).origin.pfx.fam),
  AVal.imm
  (u64
  (z1 (getV l (1 : Int) % (256 : Int)) (getV (List.drop 1 l) (1 : Int) % (256 : Int)) (sF (getV (List.drop 1 l) (1 : Int) % (256 : Int)) (List.drop 1 (List.drop 1 l)))
  (aF (getV (List.drop 1 l) (1 : Int) % (256 : Int)) (List.drop 1 (List.drop 1 l)))
  (cF (getV (List.drop 1 l) (1 : Int) % (256 : Int)) (List.drop 1 (List.drop 1 l)))).origin.pfx.addr.hi),
  AVal.imm
  (u64
  (z1 (getV l (1 : Int) % (256 : Int)) (getV (List.drop 1 l) (1 : Int) % (256 : Int)) (sF (getV (List.drop 1 l) (1 : Int) % (256 : Int)) (List.drop 1 (List.drop 1 l)))
  (aF (getV (List.drop 1 l) (1 : Int) % (256 : Int)) (List.drop 1 (List.drop 1 l)))
  (cF (getV (List.drop 1 l) (1 : Int) % (256 : Int)) (List.drop 1 (List.drop 1 l)))).origin.pfx.addr.lo),
  AVal.imm
  (i64
  (z1 (getV l (1 : Int) % (256 : Int)) (getV (List.drop 1 l) (1 : Int) % (256 : Int)) (sF (getV (List.drop 1 l) (1 : Int) % (256 : Int)) (List.drop 1 (List.drop 1 l)))
  (aF (getV (List.drop 1 l) (1 : Int) % (256 : Int)) (List.drop 1 (List.drop 1 l)))
  (cF (getV (List.drop 1 l) (1 : Int) % (256 : Int)) (List.drop 1 (List.drop 1 l)))).origin.pfx.len),
  AVal.imm
  (i64
  (z1 (getV l (1 : Int) % (256 : Int)) (getV (List.drop 1 l) (1 : Int) % (256 : Int)) (sF (getV (List.drop 1 l) (1 : Int) % (256 : Int)) (List.drop 1 (List.drop 1 l)))
  (aF (getV (List.drop 1 l) (1 : Int) % (256 : Int)) (List.drop 1 (List.drop 1 l)))
  (cF (getV (List.drop 1 l) (1 : Int) % (256 : Int)) (List.drop 1 (List.drop 1 l)))).origin.max),
  AVal.imm
  (u32
  (z1 (getV l (1 : Int) % (256 : Int)) (getV (List.drop 1 l) (1 : Int) % (256 : Int)) (sF (getV (List.drop 1 l) (1 : Int) % (256 : Int)) (List.drop 1 (List.drop 1 l)))
  (aF (getV (List.drop 1 l) (1 : Int) % (256 : Int)) (List.drop 1 (List.drop 1 l)))
  (cF (getV (List.drop 1 l) (1 : Int) % (256 : Int)) (List.drop 1 (List.drop 1 l)))).path.cust),
  AVal.imm (IVal.v (Value.slice none 0 0)),
  AVal.imm
  (u32
  (z1 (getV l (1 : Int) % (256 : Int)) (getV (List.drop 1 l) (1 : Int) % (256 : Int)) (sF (getV (List.drop 1 l) (1 : Int) % (256 : Int)) (List.drop 1 (List.drop 1 l)))
  (aF (getV (List.drop 1 l) (1 : Int) % (256 : Int)) (List.drop 1 (List.drop 1 l)))
  (cF (getV (List.drop 1 l) (1 : Int) % (256 : Int)) (List.drop 1 (List.drop 1 l)))).key.asn),
  AVal.imm (u8 (0 : Int)), AVal.imm (u8 (0 : Int)), AVal.imm (u8 (0 : Int)), AVal.imm (u8 (0 : Int)), AVal.imm (u8 (0 : Int)), AVal.imm (u8 (0 : Int)), AVal.imm (u8 (0 : Int)), AVal.imm (u8 (0 : Int)),
  AVal.imm (u8 (0 : Int)), AVal.imm (u8 (0 : Int)), AVal.imm (u8 (0 : Int)), AVal.imm (u8 (0 : Int)), AVal.imm (u8 (0 : Int)), AVal.imm (u8 (0 : Int)), AVal.imm (u8 (0 : Int)), AVal.imm (u8 (0 : Int)),
  AVal.imm
  (i64
  (z1 (getV l (1 : Int) % (256 : Int)) (getV (List.drop 1 l) (1 : Int) % (256 : Int)) (sF (getV (List.drop 1 l) (1 : Int) % (256 : Int)) (List.drop 1 (List.drop 1 l)))
  (aF (getV (List.drop 1 l) (1 : Int) % (256 : Int)) (List.drop 1 (List.drop 1 l)))
  (cF (getV (List.drop 1 l) (1 : Int) % (256 : Int)) (List.drop 1 (List.drop 1 l)))).key.height),
  AVal.imm
  (u32
  (z1 (getV l (1 : Int) % (256 : Int)) (getV (List.drop 1 l) (1 : Int) % (256 : Int)) (sF (getV (List.drop 1 l) (1 : Int) % (256 : Int)) (List.drop 1 (List.drop 1 l)))
  (aF (getV (List.drop 1 l) (1 : Int) % (256 : Int)) (List.drop 1 (List.drop 1 l)))
  (cF (getV (List.drop 1 l) (1 : Int) % (256 : Int)) (List.drop 1 (List.drop 1 l)))).refresh),
  AVal.imm
  (u32
  (z1 (getV l (1 : Int) % (256 : Int)) (getV (List.drop 1 l) (1 : Int) % (256 : Int)) (sF (getV (List.drop 1 l) (1 : Int) % (256 : Int)) (List.drop 1 (List.drop 1 l)))
  (aF (getV (List.drop 1 l) (1 : Int) % (256 : Int)) (List.drop 1 (List.drop 1 l)))
  (cF (getV (List.drop 1 l) (1 : Int) % (256 : Int)) (List.drop 1 (List.drop 1 l)))).retry),
  AVal.imm
  (u32
  (z1 (getV l (1 : Int) % (256 : Int)) (getV (List.drop 1 l) (1 : Int) % (256 : Int)) (sF (getV (List.drop 1 l) (1 : Int) % (256 : Int)) (List.drop 1 (List.drop 1 l)))
  (aF (getV (List.drop 1 l) (1 : Int) % (256 : Int)) (List.drop 1 (List.drop 1 l)))
  (cF (getV (List.drop 1 l) (1 : Int) % (256 : Int)) (List.drop 1 (List.drop 1 l)))).expire),
  AVal.imm
  (u16
  (z1 (getV l (1 : Int) % (256 : Int)) (getV (List.drop 1 l) (1 : Int) % (256 : Int)) (sF (getV (List.drop 1 l) (1 : Int) % (256 : Int)) (List.drop 1 (List.drop 1 l)))
  (aF (getV (List.drop 1 l) (1 : Int) % (256 : Int)) (List.drop 1 (List.drop 1 l)))
  (cF (getV (List.drop 1 l) (1 : Int) % (256 : Int)) (List.drop 1 (List.drop 1 l)))).code),
  AVal.imm (IVal.v (Value.slice none 0 0)),
  AVal.imm
  (st
  (z1 (getV l (1 : Int) % (256 : Int)) (getV (List.drop 1 l) (1 : Int) % (256 : Int)) (sF (getV (List.drop 1 l) (1 : Int) % (256 : Int)) (List.drop 1 (List.drop 1 l)))
  (aF (getV (List.drop 1 l) (1 : Int) % (256 : Int)) (List.drop 1 (List.drop 1 l)))
  (cF (getV (List.drop 1 l) (1 : Int) % (256 : Int)) (List.drop 1 (List.drop 1 l)))).text)]),
  (92, AVal.agg [AVal.imm (slE 1 u8 (List.drop 4 (List.drop 2 (List.drop 1 (List.drop 1 l)))))])]
  [] [AVal.ptr 0 0, AVal.ptr 1 0]
  (two
  (tS
  (z1 (getV l (1 : Int) % (256 : Int)) (getV (List.drop 1 l) (1 : Int) % (256 : Int)) (sF (getV (List.drop 1 l) (1 : Int) % (256 : Int)) (List.drop 1 (List.drop 1 l)))
  (aF (getV (List.drop 1 l) (1 : Int) % (256 : Int)) (List.drop 1 (List.drop 1 l)))
  (cF (getV (List.drop 1 l) (1 : Int) % (256 : Int)) (List.drop 1 (List.drop 1 l))))
  (List.drop 4 (List.drop 2 (List.drop 1 (List.drop 1 l)))))
  (List.drop (tN (getV l (1 : Int) % (256 : Int)) (getV (List.drop 1 l) (1 : Int) % (256 : Int))) (List.drop 4 (List.drop 2 (List.drop 1 (List.drop 1 l))))))
  [] (AVal.tup []))
  (Tree.done Exit.ret
  (lret
  (IVal.tup
  [IVal.agg
  [u8
  (tS
  (z1 (getV l (1 : Int) % (256 : Int)) (getV (List.drop 1 l) (1 : Int) % (256 : Int))
  (sF (getV (List.drop 1 l) (1 : Int) % (256 : Int)) (List.drop 1 (List.drop 1 l)))
  (aF (getV (List.drop 1 l) (1 : Int) % (256 : Int)) (List.drop 1 (List.drop 1 l)))
  (cF (getV (List.drop 1 l) (1 : Int) % (256 : Int)) (List.drop 1 (List.drop 1 l))))
  (List.drop 4 (List.drop 2 (List.drop 1 (List.drop 1 l))))).version,
  u8
  (tS
  (z1 (getV l (1 : Int) % (256 : Int)) (getV (List.drop 1 l) (1 : Int) % (256 : Int))
  (sF (getV (List.drop 1 l) (1 : Int) % (256 : Int)) (List.drop 1 (List.drop 1 l)))
  (aF (getV (List.drop 1 l) (1 : Int) % (256 : Int)) (List.drop 1 (List.drop 1 l)))
  (cF (getV (List.drop 1 l) (1 : Int) % (256 : Int)) (List.drop 1 (List.drop 1 l))))
  (List.drop 4 (List.drop 2 (List.drop 1 (List.drop 1 l))))).kind,
  u16
  (tS
  (z1 (getV l (1 : Int) % (256 : Int)) (getV (List.drop 1 l) (1 : Int) % (256 : Int))
  (sF (getV (List.drop 1 l) (1 : Int) % (256 : Int)) (List.drop 1 (List.drop 1 l)))
  (aF (getV (List.drop 1 l) (1 : Int) % (256 : Int)) (List.drop 1 (List.drop 1 l)))
  (cF (getV (List.drop 1 l) (1 : Int) % (256 : Int)) (List.drop 1 (List.drop 1 l))))
  (List.drop 4 (List.drop 2 (List.drop 1 (List.drop 1 l))))).session,
  u32
  (tS
  (z1 (getV l (1 : Int) % (256 : Int)) (getV (List.drop 1 l) (1 : Int) % (256 : Int))
  (sF (getV (List.drop 1 l) (1 : Int) % (256 : Int)) (List.drop 1 (List.drop 1 l)))
  (aF (getV (List.drop 1 l) (1 : Int) % (256 : Int)) (List.drop 1 (List.drop 1 l)))
  (cF (getV (List.drop 1 l) (1 : Int) % (256 : Int)) (List.drop 1 (List.drop 1 l))))
  (List.drop 4 (List.drop 2 (List.drop 1 (List.drop 1 l))))).serial,
  bo
  (tS
  (z1 (getV l (1 : Int) % (256 : Int)) (getV (List.drop 1 l) (1 : Int) % (256 : Int))
  (sF (getV (List.drop 1 l) (1 : Int) % (256 : Int)) (List.drop 1 (List.drop 1 l)))
  (aF (getV (List.drop 1 l) (1 : Int) % (256 : Int)) (List.drop 1 (List.drop 1 l)))
  (cF (getV (List.drop 1 l) (1 : Int) % (256 : Int)) (List.drop 1 (List.drop 1 l))))
  (List.drop 4 (List.drop 2 (List.drop 1 (List.drop 1 l))))).add,
  u32
  (tS
  (z1 (getV l (1 : Int) % (256 : Int)) (getV (List.drop 1 l) (1 : Int) % (256 : Int))
  (sF (getV (List.drop 1 l) (1 : Int) % (256 : Int)) (List.drop 1 (List.drop 1 l)))
  (aF (getV (List.drop 1 l) (1 : Int) % (256 : Int)) (List.drop 1 (List.drop 1 l)))
  (cF (getV (List.drop 1 l) (1 : Int) % (256 : Int)) (List.drop 1 (List.drop 1 l))))
  (List.drop 4 (List.drop 2 (List.drop 1 (List.drop 1 l))))).origin.asn,
  u8
  (tS
  (z1 (getV l (1 : Int) % (256 : Int)) (getV (List.drop 1 l) (1 : Int) % (256 : Int))
  (sF (getV (List.drop 1 l) (1 : Int) % (256 : Int)) (List.drop 1 (List.drop 1 l)))
  (aF (getV (List.drop 1 l) (1 : Int) % (256 : Int)) (List.drop 1 (List.drop 1 l)))
  (cF (getV (List.drop 1 l) (1 : Int) % (256 : Int)) (List.drop 1 (List.drop 1 l))))
  (List.drop 4 (List.drop 2 (List.drop 1 (List.drop 1 l))))).origin.pfx.fam,
  u64
  (tS
  (z1 (getV l (1 : Int) % (256 : Int)) (getV (List.drop 1 l) (1 : Int) % (256 : Int))
  (sF (getV (List.drop 1 l) (1 : Int) % (256 : Int)) (List.drop 1 (List.drop 1 l)))
  (aF (getV (List.drop 1 l) (1 : Int) % (256 : Int)) (List.drop 1 (List.drop 1 l)))
  (cF (getV (List.drop 1 l) (1 : Int) % (256 : Int)) (List.drop 1 (List.drop 1 l))))
  (List.drop 4 (List.drop 2 (List.drop 1 (List.drop 1 l))))).origin.pfx.addr.hi,
  u64
  (tS
  (z1 (getV l (1 : Int) % (256 : Int)) (getV (List.drop 1 l) (1 : Int) % (256 : Int))
  (sF (getV (List.drop 1 l) (1 : Int) % (256 : Int)) (List.drop 1 (List.drop 1 l)))
  (aF (getV (List.drop 1 l) (1 : Int) % (256 : Int)) (List.drop 1 (List.drop 1 l)))
  (cF (getV (List.drop 1 l) (1 : Int) % (256 : Int)) (List.drop 1 (List.drop 1 l))))
  (List.drop 4 (List.drop 2 (List.drop 1 (List.drop 1 l))))).origin.pfx.addr.lo,
  i64
  (tS
  (z1 (getV l (1 : Int) % (256 : Int)) (getV (List.drop 1 l) (1 : Int) % (256 : Int))
  (sF (getV (List.drop 1 l) (1 : Int) % (256 : Int)) (List.drop 1 (List.drop 1 l)))
  (aF (getV (List.drop 1 l) (1 : Int) % (256 : Int)) (List.drop 1 (List.drop 1 l)))
  (cF (getV (List.drop 1 l) (1 : Int) % (256 : Int)) (List.drop 1 (List.drop 1 l))))
  (List.drop 4 (List.drop 2 (List.drop 1 (List.drop 1 l))))).origin.pfx.len,
  i64
  (tS
  (z1 (getV l (1 : Int) % (256 : Int)) (getV (List.drop 1 l) (1 : Int) % (256 : Int))
  (sF (getV (List.drop 1 l) (1 : Int) % (256 : Int)) (List.drop 1 (List.drop 1 l)))
  (aF (getV (List.drop 1 l) (1 : Int) % (256 : Int)) (List.drop 1 (List.drop 1 l)))
  (cF (getV (List.drop 1 l) (1 : Int) % (256 : Int)) (List.drop 1 (List.drop 1 l))))
  (List.drop 4 (List.drop 2 (List.drop 1 (List.drop 1 l))))).origin.max,
  u32
  (tS
  (z1 (getV l (1 : Int) % (256 : Int)) (getV (List.drop 1 l) (1 : Int) % (256 : Int))
  (sF (getV (List.drop 1 l) (1 : Int) % (256 : Int)) (List.drop 1 (List.drop 1 l)))
  (aF (getV (List.drop 1 l) (1 : Int) % (256 : Int)) (List.drop 1 (List.drop 1 l)))
  (cF (getV (List.drop 1 l) (1 : Int) % (256 : Int)) (List.drop 1 (List.drop 1 l))))
  (List.drop 4 (List.drop 2 (List.drop 1 (List.drop 1 l))))).path.cust,
  IVal.v (Value.slice none 0 0),
  u32
  (tS
  (z1 (getV l (1 : Int) % (256 : Int)) (getV (List.drop 1 l) (1 : Int) % (256 : Int))
  (sF (getV (List.drop 1 l) (1 : Int) % (256 : Int)) (List.drop 1 (List.drop 1 l)))
  (aF (getV (List.drop 1 l) (1 : Int) % (256 : Int)) (List.drop 1 (List.drop 1 l)))
  (cF (getV (List.drop 1 l) (1 : Int) % (256 : Int)) (List.drop 1 (List.drop 1 l))))
  (List.drop 4 (List.drop 2 (List.drop 1 (List.drop 1 l))))).key.asn,
  u8
  (tS
  (z1 (getV l (1 : Int) % (256 : Int)) (getV (List.drop 1 l) (1 : Int) % (256 : Int))
  (sF (getV (List.drop 1 l) (1 : Int) % (256 : Int)) (List.drop 1 (List.drop 1 l)))
  (aF (getV (List.drop 1 l) (1 : Int) % (256 : Int)) (List.drop 1 (List.drop 1 l)))
  (cF (getV (List.drop 1 l) (1 : Int) % (256 : Int)) (List.drop 1 (List.drop 1 l))))
  (List.drop 4 (List.drop 2 (List.drop 1 (List.drop 1 l))))).key.root[0],
  u8
  (tS
  (z1 (getV l (1 : Int) % (256 : Int)) (getV (List.drop 1 l) (1 : Int) % (256 : Int))
  (sF (getV (List.drop 1 l) (1 : Int) % (256 : Int)) (List.drop 1 (List.drop 1 l)))
  (aF (getV (List.drop 1 l) (1 : Int) % (256 : Int)) (List.drop 1 (List.drop 1 l)))
  (cF (getV (List.drop 1 l) (1 : Int) % (256 : Int)) (List.drop 1 (List.drop 1 l))))
  (List.drop 4 (List.drop 2 (List.drop 1 (List.drop 1 l))))).key.root[1],
  u8
  (tS
  (z1 (getV l (1 : Int) % (256 : Int)) (getV (List.drop 1 l) (1 : Int) % (256 : Int))
  (sF (getV (List.drop 1 l) (1 : Int) % (256 : Int)) (List.drop 1 (List.drop 1 l)))
  (aF (getV (List.drop 1 l) (1 : Int) % (256 : Int)) (List.drop 1 (List.drop 1 l)))
  (cF (getV (List.drop 1 l) (1 : Int) % (256 : Int)) (List.drop 1 (List.drop 1 l))))
  (List.drop 4 (List.drop 2 (List.drop 1 (List.drop 1 l))))).key.root[2],
  u8
  (tS
  (z1 (getV l (1 : Int) % (256 : Int)) (getV (List.drop 1 l) (1 : Int) % (256 : Int))
  (sF (getV (List.drop 1 l) (1 : Int) % (256 : Int)) (List.drop 1 (List.drop 1 l)))
  (aF (getV (List.drop 1 l) (1 : Int) % (256 : Int)) (List.drop 1 (List.drop 1 l)))
  (cF (getV (List.drop 1 l) (1 : Int) % (256 : Int)) (List.drop 1 (List.drop 1 l))))
  (List.drop 4 (List.drop 2 (List.drop 1 (List.drop 1 l))))).key.root[3],
  u8
  (tS
  (z1 (getV l (1 : Int) % (256 : Int)) (getV (List.drop 1 l) (1 : Int) % (256 : Int))
  (sF (getV (List.drop 1 l) (1 : Int) % (256 : Int)) (List.drop 1 (List.drop 1 l)))
  (aF (getV (List.drop 1 l) (1 : Int) % (256 : Int)) (List.drop 1 (List.drop 1 l)))
  (cF (getV (List.drop 1 l) (1 : Int) % (256 : Int)) (List.drop 1 (List.drop 1 l))))
  (List.drop 4 (List.drop 2 (List.drop 1 (List.drop 1 l))))).key.root[4],
  u8
  (tS
  (z1 (getV l (1 : Int) % (256 : Int)) (getV (List.drop 1 l) (1 : Int) % (256 : Int))
  (sF (getV (List.drop 1 l) (1 : Int) % (256 : Int)) (List.drop 1 (List.drop 1 l)))
  (aF (getV (List.drop 1 l) (1 : Int) % (256 : Int)) (List.drop 1 (List.drop 1 l)))
  (cF (getV (List.drop 1 l) (1 : Int) % (256 : Int)) (List.drop 1 (List.drop 1 l))))
  (List.drop 4 (List.drop 2 (List.drop 1 (List.drop 1 l))))).key.root[5],
  u8
  (tS
  (z1 (getV l (1 : Int) % (256 : Int)) (getV (List.drop 1 l) (1 : Int) % (256 : Int))
  (sF (getV (List.drop 1 l) (1 : Int) % (256 : Int)) (List.drop 1 (List.drop 1 l)))
  (aF (getV (List.drop 1 l) (1 : Int) % (256 : Int)) (List.drop 1 (List.drop 1 l)))
  (cF (getV (List.drop 1 l) (1 : Int) % (256 : Int)) (List.drop 1 (List.drop 1 l))))
  (List.drop 4 (List.drop 2 (List.drop 1 (List.drop 1 l))))).key.root[6],
  u8
  (tS
  (z1 (getV l (1 : Int) % (256 : Int)) (getV (List.drop 1 l) (1 : Int) % (256 : Int))
  (sF (getV (List.drop 1 l) (1 : Int) % (256 : Int)) (List.drop 1 (List.drop 1 l)))
  (aF (getV (List.drop 1 l) (1 : Int) % (256 : Int)) (List.drop 1 (List.drop 1 l)))
  (cF (getV (List.drop 1 l) (1 : Int) % (256 : Int)) (List.drop 1 (List.drop 1 l))))
  (List.drop 4 (List.drop 2 (List.drop 1 (List.drop 1 l))))).key.root[7],
  u8
  (tS
  (z1 (getV l (1 : Int) % (256 : Int)) (getV (List.drop 1 l) (1 : Int) % (256 : Int))
  (sF (getV (List.drop 1 l) (1 : Int) % (256 : Int)) (List.drop 1 (List.drop 1 l)))
  (aF (getV (List.drop 1 l) (1 : Int) % (256 : Int)) (List.drop 1 (List.drop 1 l)))
  (cF (getV (List.drop 1 l) (1 : Int) % (256 : Int)) (List.drop 1 (List.drop 1 l))))
  (List.drop 4 (List.drop 2 (List.drop 1 (List.drop 1 l))))).key.root[8],
  u8
  (tS
  (z1 (getV l (1 : Int) % (256 : Int)) (getV (List.drop 1 l) (1 : Int) % (256 : Int))
  (sF (getV (List.drop 1 l) (1 : Int) % (256 : Int)) (List.drop 1 (List.drop 1 l)))
  (aF (getV (List.drop 1 l) (1 : Int) % (256 : Int)) (List.drop 1 (List.drop 1 l)))
  (cF (getV (List.drop 1 l) (1 : Int) % (256 : Int)) (List.drop 1 (List.drop 1 l))))
  (List.drop 4 (List.drop 2 (List.drop 1 (List.drop 1 l))))).key.root[9],
  u8
  (tS
  (z1 (getV l (1 : Int) % (256 : Int)) (getV (List.drop 1 l) (1 : Int) % (256 : Int))
  (sF (getV (List.drop 1 l) (1 : Int) % (256 : Int)) (List.drop 1 (List.drop 1 l)))
  (aF (getV (List.drop 1 l) (1 : Int) % (256 : Int)) (List.drop 1 (List.drop 1 l)))
  (cF (getV (List.drop 1 l) (1 : Int) % (256 : Int)) (List.drop 1 (List.drop 1 l))))
  (List.drop 4 (List.drop 2 (List.drop 1 (List.drop 1 l))))).key.root[10],
  u8
  (tS
  (z1 (getV l (1 : Int) % (256 : Int)) (getV (List.drop 1 l) (1 : Int) % (256 : Int))
  (sF (getV (List.drop 1 l) (1 : Int) % (256 : Int)) (List.drop 1 (List.drop 1 l)))
  (aF (getV (List.drop 1 l) (1 : Int) % (256 : Int)) (List.drop 1 (List.drop 1 l)))
  (cF (getV (List.drop 1 l) (1 : Int) % (256 : Int)) (List.drop 1 (List.drop 1 l))))
  (List.drop 4 (List.drop 2 (List.drop 1 (List.drop 1 l))))).key.root[11],
  u8
  (tS
  (z1 (getV l (1 : Int) % (256 : Int)) (getV (List.drop 1 l) (1 : Int) % (256 : Int))
  (sF (getV (List.drop 1 l) (1 : Int) % (256 : Int)) (List.drop 1 (List.drop 1 l)))
  (aF (getV (List.drop 1 l) (1 : Int) % (256 : Int)) (List.drop 1 (List.drop 1 l)))
  (cF (getV (List.drop 1 l) (1 : Int) % (256 : Int)) (List.drop 1 (List.drop 1 l))))
  (List.drop 4 (List.drop 2 (List.drop 1 (List.drop 1 l))))).key.root[12],
  u8
  (tS
  (z1 (getV l (1 : Int) % (256 : Int)) (getV (List.drop 1 l) (1 : Int) % (256 : Int))
  (sF (getV (List.drop 1 l) (1 : Int) % (256 : Int)) (List.drop 1 (List.drop 1 l)))
  (aF (getV (List.drop 1 l) (1 : Int) % (256 : Int)) (List.drop 1 (List.drop 1 l)))
  (cF (getV (List.drop 1 l) (1 : Int) % (256 : Int)) (List.drop 1 (List.drop 1 l))))
  (List.drop 4 (List.drop 2 (List.drop 1 (List.drop 1 l))))).key.root[13],
  u8
  (tS
  (z1 (getV l (1 : Int) % (256 : Int)) (getV (List.drop 1 l) (1 : Int) % (256 : Int))
  (sF (getV (List.drop 1 l) (1 : Int) % (256 : Int)) (List.drop 1 (List.drop 1 l)))
  (aF (getV (List.drop 1 l) (1 : Int) % (256 : Int)) (List.drop 1 (List.drop 1 l)))
  (cF (getV (List.drop 1 l) (1 : Int) % (256 : Int)) (List.drop 1 (List.drop 1 l))))
  (List.drop 4 (List.drop 2 (List.drop 1 (List.drop 1 l))))).key.root[14],
  u8
  (tS
  (z1 (getV l (1 : Int) % (256 : Int)) (getV (List.drop 1 l) (1 : Int) % (256 : Int))
  (sF (getV (List.drop 1 l) (1 : Int) % (256 : Int)) (List.drop 1 (List.drop 1 l)))
  (aF (getV (List.drop 1 l) (1 : Int) % (256 : Int)) (List.drop 1 (List.drop 1 l)))
  (cF (getV (List.drop 1 l) (1 : Int) % (256 : Int)) (List.drop 1 (List.drop 1 l))))
  (List.drop 4 (List.drop 2 (List.drop 1 (List.drop 1 l))))).key.root[15],
  i64
  (tS
  (z1 (getV l (1 : Int) % (256 : Int)) (getV (List.drop 1 l) (1 : Int) % (256 : Int))
  (sF (getV (List.drop 1 l) (1 : Int) % (256 : Int)) (List.drop 1 (List.drop 1 l)))
  (aF (getV (List.drop 1 l) (1 : Int) % (256 : Int)) (List.drop 1 (List.drop 1 l)))
  (cF (getV (List.drop 1 l) (1 : Int) % (256 : Int)) (List.drop 1 (List.drop 1 l))))
  (List.drop 4 (List.drop 2 (List.drop 1 (List.drop 1 l))))).key.height,
  u32
  (tS
  (z1 (getV l (1 : Int) % (256 : Int)) (getV (List.drop 1 l) (1 : Int) % (256 : Int))
  (sF (getV (List.drop 1 l) (1 : Int) % (256 : Int)) (List.drop 1 (List.drop 1 l)))
  (aF (getV (List.drop 1 l) (1 : Int) % (256 : Int)) (List.drop 1 (List.drop 1 l)))
  (cF (getV (List.drop 1 l) (1 : Int) % (256 : Int)) (List.drop 1 (List.drop 1 l))))
  (List.drop 4 (List.drop 2 (List.drop 1 (List.drop 1 l))))).refresh,
  u32
  (tS
  (z1 (getV l (1 : Int) % (256 : Int)) (getV (List.drop 1 l) (1 : Int) % (256 : Int))
  (sF (getV (List.drop 1 l) (1 : Int) % (256 : Int)) (List.drop 1 (List.drop 1 l)))
  (aF (getV (List.drop 1 l) (1 : Int) % (256 : Int)) (List.drop 1 (List.drop 1 l)))
  (cF (getV (List.drop 1 l) (1 : Int) % (256 : Int)) (List.drop 1 (List.drop 1 l))))
  (List.drop 4 (List.drop 2 (List.drop 1 (List.drop 1 l))))).retry,
  u32
  (tS
  (z1 (getV l (1 : Int) % (256 : Int)) (getV (List.drop 1 l) (1 : Int) % (256 : Int))
  (sF (getV (List.drop 1 l) (1 : Int) % (256 : Int)) (List.drop 1 (List.drop 1 l)))
  (aF (getV (List.drop 1 l) (1 : Int) % (256 : Int)) (List.drop 1 (List.drop 1 l)))
  (cF (getV (List.drop 1 l) (1 : Int) % (256 : Int)) (List.drop 1 (List.drop 1 l))))
  (List.drop 4 (List.drop 2 (List.drop 1 (List.drop 1 l))))).expire,
  u16
  (tS
  (z1 (getV l (1 : Int) % (256 : Int)) (getV (List.drop 1 l) (1 : Int) % (256 : Int))
  (sF (getV (List.drop 1 l) (1 : Int) % (256 : Int)) (List.drop 1 (List.drop 1 l)))
  (aF (getV (List.drop 1 l) (1 : Int) % (256 : Int)) (List.drop 1 (List.drop 1 l)))
  (cF (getV (List.drop 1 l) (1 : Int) % (256 : Int)) (List.drop 1 (List.drop 1 l))))
  (List.drop 4 (List.drop 2 (List.drop 1 (List.drop 1 l))))).code,
  IVal.v (Value.slice none 0 0),
  st
  (tS
  (z1 (getV l (1 : Int) % (256 : Int)) (getV (List.drop 1 l) (1 : Int) % (256 : Int))
  (sF (getV (List.drop 1 l) (1 : Int) % (256 : Int)) (List.drop 1 (List.drop 1 l)))
  (aF (getV (List.drop 1 l) (1 : Int) % (256 : Int)) (List.drop 1 (List.drop 1 l)))
  (cF (getV (List.drop 1 l) (1 : Int) % (256 : Int)) (List.drop 1 (List.drop 1 l))))
  (List.drop 4 (List.drop 2 (List.drop 1 (List.drop 1 l))))).text],
  IVal.v
  (Value.bool
  (decide
  ((↑(List.length
  (List.map u8
  (List.drop (tN (getV l (1 : Int) % (256 : Int)) (getV (List.drop 1 l) (1 : Int) % (256 : Int)))
  (List.drop 4 (List.drop 2 (List.drop 1 (List.drop 1 l))))))) :
  Int) =
  (0 : Int))))]))))
  (Tree.need
  (ALeL [AVal.ptr 0 0, AVal.ptr 1 0] [AVal.ptr 0 0, AVal.ptr 1 0] ∧
  PSpec prog (thenN (gu8 (List.drop 1 l)))
  [(85,
  AVal.agg
  [AVal.imm
  (u8
  (z1 (getV l (1 : Int) % (256 : Int)) (getV (List.drop 1 l) (1 : Int) % (256 : Int)) (sF (getV (List.drop 1 l) (1 : Int) % (256 : Int)) (List.drop 1 (List.drop 1 l)))
  (aF (getV (List.drop 1 l) (1 : Int) % (256 : Int)) (List.drop 1 (List.drop 1 l)))
  (cF (getV (List.drop 1 l) (1 : Int) % (256 : Int)) (List.drop 1 (List.drop 1 l)))).version),
  AVal.imm
  (u8
  (z1 (getV l (1 : Int) % (256 : Int)) (getV (List.drop 1 l) (1 : Int) % (256 : Int)) (sF (getV (List.drop 1 l) (1 : Int) % (256 : Int)) (List.drop 1 (List.drop 1 l)))
  (aF (getV (List.drop 1 l) (1 : Int) % (256 : Int)) (List.drop 1 (List.drop 1 l)))
  (cF (getV (List.drop 1 l) (1 : Int) % (256 : Int)) (List.drop 1 (List.drop 1 l)))).kind),
  AVal.imm
  (u16
  (z1 (getV l (1 : Int) % (256 : Int)) (getV (List.drop 1 l) (1 : Int) % (256 : Int)) (sF (getV (List.drop 1 l) (1 : Int) % (256 : Int)) (List.drop 1 (List.drop 1 l)))
  (aF (getV (List.drop 1 l) (1 : Int) % (256 : Int)) (List.drop 1 (List.drop 1 l)))
  (cF (getV (List.drop 1 l) (1 : Int) % (256 : Int)) (List.drop 1 (List.drop 1 l)))).session),
  AVal.imm
  (u32
  (z1 (getV l (1 : Int) % (256 : Int)) (getV (List.drop 1 l) (1 : Int) % (256 : Int)) (sF (getV (List.drop 1 l) (1 : Int) % (256 : Int)) (List.drop 1 (List.drop 1 l)))
  (aF (getV (List.drop 1 l) (1 : Int) % (256 : Int)) (List.drop 1 (List.drop 1 l)))
  (cF (getV (List.drop 1 l) (1 : Int) % (256 : Int)) (List.drop 1 (List.drop 1 l)))).serial),
  AVal.imm
  (bo
  (z1 (getV l (1 : Int) % (256 : Int)) (getV (List.drop 1 l) (1 : Int) % (256 : Int)) (sF (getV (List.drop 1 l) (1 : Int) % (256 : Int)) (List.drop 1 (List.drop 1 l)))
  (aF (getV (List.drop 1 l) (1 : Int) % (256 : Int)) (List.drop 1 (List.drop 1 l)))
  (cF (getV (List.drop 1 l) (1 : Int) % (256 : Int)) (List.drop 1 (List.drop 1 l)))).add),
  AVal.imm
  (u32
  (z1 (getV l (1 : Int) % (256 : Int)) (getV (List.drop 1 l) (1 : Int) % (256 : Int)) (sF (getV (List.drop 1 l) (1 : Int) % (256 : Int)) (List.drop 1 (List.drop 1 l)))
  (aF (getV (List.drop 1 l) (1 : Int) % (256 : Int)) (List.drop 1 (List.drop 1 l)))
  (cF (getV (List.drop 1 l) (1 : Int) % (256 : Int)) (List.drop 1 (List.drop 1 l)))).origin.asn),
  AVal.imm
  (u8
  (z1 (getV l (1 : Int) % (256 : Int)) (getV (List.drop 1 l) (1 : Int) % (256 : Int)) (sF (getV (List.drop 1 l) (1 : Int) % (256 : Int)) (List.drop 1 (List.drop 1 l)))
  (aF (getV (List.drop 1 l) (1 : Int) % (256 : Int)) (List.drop 1 (List.drop 1 l)))
  (cF (getV (List.drop 1 l) (1 : Int) % (256 : Int)) (List.drop 1 (List.drop 1 l)))).origin.pfx.fam),
  AVal.imm
  (u64
  (z1 (getV l (1 : Int) % (256 : Int)) (getV (List.drop 1 l) (1 : Int) % (256 : Int)) (sF (getV (List.drop 1 l) (1 : Int) % (256 : Int)) (List.drop 1 (List.drop 1 l)))
  (aF (getV (List.drop 1 l) (1 : Int) % (256 : Int)) (List.drop 1 (List.drop 1 l)))
  (cF (getV (List.drop 1 l) (1 : Int) % (256 : Int)) (List.drop 1 (List.drop 1 l)))).origin.pfx.addr.hi),
  AVal.imm
  (u64
  (z1 (getV l (1 : Int) % (256 : Int)) (getV (List.drop 1 l) (1 : Int) % (256 : Int)) (sF (getV (List.drop 1 l) (1 : Int) % (256 : Int)) (List.drop 1 (List.drop 1 l)))
  (aF (getV (List.drop 1 l) (1 : Int) % (256 : Int)) (List.drop 1 (List.drop 1 l)))
  (cF (getV (List.drop 1 l) (1 : Int) % (256 : Int)) (List.drop 1 (List.drop 1 l)))).origin.pfx.addr.lo),
  AVal.imm
  (i64
  (z1 (getV l (1 : Int) % (256 : Int)) (getV (List.drop 1 l) (1 : Int) % (256 : Int)) (sF (getV (List.drop 1 l) (1 : Int) % (256 : Int)) (List.drop 1 (List.drop 1 l)))
  (aF (getV (List.drop 1 l) (1 : Int) % (256 : Int)) (List.drop 1 (List.drop 1 l)))
  (cF (getV (List.drop 1 l) (1 : Int) % (256 : Int)) (List.drop 1 (List.drop 1 l)))).origin.pfx.len),
  AVal.imm
  (i64
  (z1 (getV l (1 : Int) % (256 : Int)) (getV (List.drop 1 l) (1 : Int) % (256 : Int)) (sF (getV (List.drop 1 l) (1 : Int) % (256 : Int)) (List.drop 1 (List.drop 1 l)))
  (aF (getV (List.drop 1 l) (1 : Int) % (256 : Int)) (List.drop 1 (List.drop 1 l)))
  (cF (getV (List.drop 1 l) (1 : Int) % (256 : Int)) (List.drop 1 (List.drop 1 l)))).origin.max),
  AVal.imm
  (u32
  (z1 (getV l (1 : Int) % (256 : Int)) (getV (List.drop 1 l) (1 : Int) % (256 : Int)) (sF (getV (List.drop 1 l) (1 : Int) % (256 : Int)) (List.drop 1 (List.drop 1 l)))
  (aF (getV (List.drop 1 l) (1 : Int) % (256 : Int)) (List.drop 1 (List.drop 1 l)))
  (cF (getV (List.drop 1 l) (1 : Int) % (256 : Int)) (List.drop 1 (List.drop 1 l)))).path.cust),
  AVal.imm (IVal.v (Value.slice none 0 0)),
  AVal.imm
  (u32
  (z1 (getV l (1 : Int) % (256 : Int)) (getV (List.drop 1 l) (1 : Int) % (256 : Int)) (sF (getV (List.drop 1 l) (1 : Int) % (256 : Int)) (List.drop 1 (List.drop 1 l)))
  (aF (getV (List.drop 1 l) (1 : Int) % (256 : Int)) (List.drop 1 (List.drop 1 l)))
  (cF (getV (List.drop 1 l) (1 : Int) % (256 : Int)) (List.drop 1 (List.drop 1 l)))).key.asn),
  AVal.imm (u8 (0 : Int)), AVal.imm (u8 (0 : Int)), AVal.imm (u8 (0 : Int)), AVal.imm (u8 (0 : Int)), AVal.imm (u8 (0 : Int)), AVal.imm (u8 (0 : Int)), AVal.imm (u8 (0 : Int)), AVal.imm (u8 (0 : Int)),
  AVal.imm (u8 (0 : Int)), AVal.imm (u8 (0 : Int)), AVal.imm (u8 (0 : Int)), AVal.imm (u8 (0 : Int)), AVal.imm (u8 (0 : Int)), AVal.imm (u8 (0 : Int)), AVal.imm (u8 (0 : Int)), AVal.imm (u8 (0 : Int)),
  AVal.imm
  (i64
  (z1 (getV l (1 : Int) % (256 : Int)) (getV (List.drop 1 l) (1 : Int) % (256 : Int)) (sF (getV (List.drop 1 l) (1 : Int) % (256 : Int)) (List.drop 1 (List.drop 1 l)))
  (aF (getV (List.drop 1 l) (1 : Int) % (256 : Int)) (List.drop 1 (List.drop 1 l)))
  (cF (getV (List.drop 1 l) (1 : Int) % (256 : Int)) (List.drop 1 (List.drop 1 l)))).key.height),
  AVal.imm
  (u32
  (z1 (getV l (1 : Int) % (256 : Int)) (getV (List.drop 1 l) (1 : Int) % (256 : Int)) (sF (getV (List.drop 1 l) (1 : Int) % (256 : Int)) (List.drop 1 (List.drop 1 l)))
  (aF (getV (List.drop 1 l) (1 : Int) % (256 : Int)) (List.drop 1 (List.drop 1 l)))
  (cF (getV (List.drop 1 l) (1 : Int) % (256 : Int)) (List.drop 1 (List.drop 1 l)))).refresh),
  AVal.imm
  (u32
  (z1 (getV l (1 : Int) % (256 : Int)) (getV (List.drop 1 l) (1 : Int) % (256 : Int)) (sF (getV (List.drop 1 l) (1 : Int) % (256 : Int)) (List.drop 1 (List.drop 1 l)))
  (aF (getV (List.drop 1 l) (1 : Int) % (256 : Int)) (List.drop 1 (List.drop 1 l)))
  (cF (getV (List.drop 1 l) (1 : Int) % (256 : Int)) (List.drop 1 (List.drop 1 l)))).retry),
  AVal.imm
  (u32
  (z1 (getV l (1 : Int) % (256 : Int)) (getV (List.drop 1 l) (1 : Int) % (256 : Int)) (sF (getV (List.drop 1 l) (1 : Int) % (256 : Int)) (List.drop 1 (List.drop 1 l)))
  (aF (getV (List.drop 1 l) (1 : Int) % (256 : Int)) (List.drop 1 (List.drop 1 l)))
  (cF (getV (List.drop 1 l) (1 : Int) % (256 : Int)) (List.drop 1 (List.drop 1 l)))).expire),
  AVal.imm
  (u16
  (z1 (getV l (1 : Int) % (256 : Int)) (getV (List.drop 1 l) (1 : Int) % (256 : Int)) (sF (getV (List.drop 1 l) (1 : Int) % (256 : Int)) (List.drop 1 (List.drop 1 l)))
  (aF (getV (List.drop 1 l) (1 : Int) % (256 : Int)) (List.drop 1 (List.drop 1 l)))
  (cF (getV (List.drop 1 l) (1 : Int) % (256 : Int)) (List.drop 1 (List.drop 1 l)))).code),
  AVal.imm (IVal.v (Value.slice none 0 0)),
  AVal.imm
  (st
  (z1 (getV l (1 : Int) % (256 : Int)) (getV (List.drop 1 l) (1 : Int) % (256 : Int)) (sF (getV (List.drop 1 l) (1 : Int) % (256 : Int)) (List.drop 1 (List.drop 1 l)))
  (aF (getV (List.drop 1 l) (1 : Int) % (256 : Int)) (List.drop 1 (List.drop 1 l)))
  (cF (getV (List.drop 1 l) (1 : Int) % (256 : Int)) (List.drop 1 (List.drop 1 l)))).text)]),
  (92, AVal.agg [AVal.imm (slE 1 u8 (List.drop 4 (List.drop 2 (List.drop 1 (List.drop 1 l)))))])]
  [] [AVal.ptr 0 0, AVal.ptr 1 0] errE)
  (Tree.need
  (errE = errE ∧
  [(42, AVal.imm z42), (4, AVal.imm (bo false))] =
  [(42,
  AVal.imm
  (IVal.agg
  [u8 (0 : Int), u8 (0 : Int), u16 (0 : Int), u32 (0 : Int), bo false, u32 (0 : Int), u8 (0 : Int), u64 (0 : Int), u64 (0 : Int), i64 (0 : Int), i64 (0 : Int), u32 (0 : Int),
  IVal.v (Value.slice none 0 0), u32 (0 : Int), u8 (0 : Int), u8 (0 : Int), u8 (0 : Int), u8 (0 : Int), u8 (0 : Int), u8 (0 : Int), u8 (0 : Int), u8 (0 : Int), u8 (0 : Int),
  u8 (0 : Int), u8 (0 : Int), u8 (0 : Int), u8 (0 : Int), u8 (0 : Int), u8 (0 : Int), u8 (0 : Int), i64 (0 : Int), u32 (0 : Int), u32 (0 : Int), u32 (0 : Int), u16 (0 : Int),
  IVal.v (Value.slice none 0 0), IVal.v (Value.string (ByteArray.mk (Array.mk [])))])),
  (4, AVal.imm (IVal.v (Value.bool false)))] ∧
  ls 0 = ls 0 ∧ ls 1 = ls 1 ∧ True)
  (Tree.done Exit.ret
  (lret
  (IVal.tup
  [IVal.agg
  [u8 (0 : Int), u8 (0 : Int), u16 (0 : Int), u32 (0 : Int), bo false, u32 (0 : Int), u8 (0 : Int), u64 (0 : Int), u64 (0 : Int), i64 (0 : Int), i64 (0 : Int), u32 (0 : Int),
  IVal.v (Value.slice none 0 0), u32 (0 : Int), u8 (0 : Int), u8 (0 : Int), u8 (0 : Int), u8 (0 : Int), u8 (0 : Int), u8 (0 : Int), u8 (0 : Int), u8 (0 : Int), u8 (0 : Int),
  u8 (0 : Int), u8 (0 : Int), u8 (0 : Int), u8 (0 : Int), u8 (0 : Int), u8 (0 : Int), u8 (0 : Int), i64 (0 : Int), u32 (0 : Int), u32 (0 : Int), u32 (0 : Int), u16 (0 : Int),
  IVal.v (Value.slice none 0 0), IVal.v (Value.string (ByteArray.mk (Array.mk [])))],
  IVal.v (Value.bool false)])))))))
  (Tree.need
  (ALeL [AVal.ptr 0 0, AVal.imm (IVal.v (Value.int IntKind.i64 (4 : Int)))] [AVal.ptr 0 0, AVal.imm (i64 (4 : Int))] ∧
  PSpec prog 76 [(92, AVal.agg [AVal.imm (slE 1 u8 (List.drop 2 (List.drop 1 (List.drop 1 l))))])] [] [AVal.ptr 0 0, AVal.imm (i64 (4 : Int))] errE)
  (Tree.need
  (errE = errE ∧
  [(42, AVal.imm z42), (4, AVal.imm (bo false))] =
  [(42,
  AVal.imm
  (IVal.agg
  [u8 (0 : Int), u8 (0 : Int), u16 (0 : Int), u32 (0 : Int), bo false, u32 (0 : Int), u8 (0 : Int), u64 (0 : Int), u64 (0 : Int), i64 (0 : Int), i64 (0 : Int), u32 (0 : Int),
  IVal.v (Value.slice none 0 0), u32 (0 : Int), u8 (0 : Int), u8 (0 : Int), u8 (0 : Int), u8 (0 : Int), u8 (0 : Int), u8 (0 : Int), u8 (0 : Int), u8 (0 : Int), u8 (0 : Int),
  u8 (0 : Int), u8 (0 : Int), u8 (0 : Int), u8 (0 : Int), u8 (0 : Int), u8 (0 : Int), u8 (0 : Int), i64 (0 : Int), u32 (0 : Int), u32 (0 : Int), u32 (0 : Int), u16 (0 : Int),
  IVal.v (Value.slice none 0 0), IVal.v (Value.string (ByteArray.mk (Array.mk [])))])),
  (4, AVal.imm (IVal.v (Value.bool false)))] ∧
  ls 0 = ls 0 ∧ ls 1 = ls 1 ∧ True)
  (Tree.done Exit.ret
  (lret
  (IVal.tup
  [IVal.agg
  [u8 (0 : Int), u8 (0 : Int), u16 (0 : Int), u32 (0 : Int), bo false, u32 (0 : Int), u8 (0 : Int), u64 (0 : Int), u64 (0 : Int), i64 (0 : Int), i64 (0 : Int), u32 (0 : Int),
  IVal.v (Value.slice none 0 0), u32 (0 : Int), u8 (0 : Int), u8 (0 : Int), u8 (0 : Int), u8 (0 : Int), u8 (0 : Int), u8 (0 : Int), u8 (0 : Int), u8 (0 : Int), u8 (0 : Int), u8 (0 : Int),
  u8 (0 : Int), u8 (0 : Int), u8 (0 : Int), u8 (0 : Int), u8 (0 : Int), u8 (0 : Int), i64 (0 : Int), u32 (0 : Int), u32 (0 : Int), u32 (0 : Int), u16 (0 : Int),
  IVal.v (Value.slice none 0 0), IVal.v (Value.string (ByteArray.mk (Array.mk [])))],
  IVal.v (Value.bool false)])))))))
  (Tree.need
  (ALeL [AVal.ptr 0 0, AVal.ptr 1 0] [AVal.ptr 0 0, AVal.ptr 1 0] ∧
  PSpec prog (firstN (gu8 (List.drop 1 l)))
  [(85,
  AVal.agg
  [AVal.imm (IVal.v (Value.int IntKind.u8 (IntKind.wrap IntKind.u8 (getV l (1 : Int))))), AVal.imm (IVal.v (Value.int IntKind.u8 (IntKind.wrap IntKind.u8 (getV (List.drop 1 l) (1 : Int))))),
  AVal.imm (IVal.v (Value.int IntKind.u16 (0 : Int))), AVal.imm (IVal.v (Value.int IntKind.u32 (0 : Int))), AVal.imm (IVal.v (Value.bool false)), AVal.imm (IVal.v (Value.int IntKind.u32 (0 : Int))),
  AVal.imm (IVal.v (Value.int IntKind.u8 (0 : Int))), AVal.imm (IVal.v (Value.int IntKind.u64 (0 : Int))), AVal.imm (IVal.v (Value.int IntKind.u64 (0 : Int))), AVal.imm (IVal.v (Value.int IntKind.i64 (0 : Int))),
  AVal.imm (IVal.v (Value.int IntKind.i64 (0 : Int))), AVal.imm (IVal.v (Value.int IntKind.u32 (0 : Int))), AVal.imm (IVal.v (Value.slice none 0 0)),
  AVal.imm (IVal.v (Value.int IntKind.u32 (0 : Int))), AVal.imm (IVal.v (Value.int IntKind.u8 (0 : Int))), AVal.imm (IVal.v (Value.int IntKind.u8 (0 : Int))), AVal.imm (IVal.v (Value.int IntKind.u8 (0 : Int))),
  AVal.imm (IVal.v (Value.int IntKind.u8 (0 : Int))), AVal.imm (IVal.v (Value.int IntKind.u8 (0 : Int))), AVal.imm (IVal.v (Value.int IntKind.u8 (0 : Int))), AVal.imm (IVal.v (Value.int IntKind.u8 (0 : Int))),
  AVal.imm (IVal.v (Value.int IntKind.u8 (0 : Int))), AVal.imm (IVal.v (Value.int IntKind.u8 (0 : Int))), AVal.imm (IVal.v (Value.int IntKind.u8 (0 : Int))), AVal.imm (IVal.v (Value.int IntKind.u8 (0 : Int))),
  AVal.imm (IVal.v (Value.int IntKind.u8 (0 : Int))), AVal.imm (IVal.v (Value.int IntKind.u8 (0 : Int))), AVal.imm (IVal.v (Value.int IntKind.u8 (0 : Int))), AVal.imm (IVal.v (Value.int IntKind.u8 (0 : Int))),
  AVal.imm (IVal.v (Value.int IntKind.u8 (0 : Int))), AVal.imm (IVal.v (Value.int IntKind.i64 (0 : Int))), AVal.imm (IVal.v (Value.int IntKind.u32 (0 : Int))), AVal.imm (IVal.v (Value.int IntKind.u32 (0 : Int))),
  AVal.imm (IVal.v (Value.int IntKind.u32 (0 : Int))), AVal.imm (IVal.v (Value.int IntKind.u16 (0 : Int))), AVal.imm (IVal.v (Value.slice none 0 0)),
  AVal.imm (IVal.v (Value.string (ByteArray.mk (Array.mk []))))]),
  (92, AVal.agg [AVal.imm (slE 1 u8 (List.drop 1 (List.drop 1 l)))])]
  [] [AVal.ptr 0 0, AVal.ptr 1 0] errE)
  (Tree.need
  (errE = errE ∧
  [(42, AVal.imm z42), (4, AVal.imm (bo false))] =
  [(42,
  AVal.imm
  (IVal.agg
  [u8 (0 : Int), u8 (0 : Int), u16 (0 : Int), u32 (0 : Int), bo false, u32 (0 : Int), u8 (0 : Int), u64 (0 : Int), u64 (0 : Int), i64 (0 : Int), i64 (0 : Int), u32 (0 : Int),
  IVal.v (Value.slice none 0 0), u32 (0 : Int), u8 (0 : Int), u8 (0 : Int), u8 (0 : Int), u8 (0 : Int), u8 (0 : Int), u8 (0 : Int), u8 (0 : Int), u8 (0 : Int), u8 (0 : Int), u8 (0 : Int),
  u8 (0 : Int), u8 (0 : Int), u8 (0 : Int), u8 (0 : Int), u8 (0 : Int), u8 (0 : Int), i64 (0 : Int), u32 (0 : Int), u32 (0 : Int), u32 (0 : Int), u16 (0 : Int),
  IVal.v (Value.slice none 0 0), IVal.v (Value.string (ByteArray.mk (Array.mk [])))])),
  (4, AVal.imm (IVal.v (Value.bool false)))] ∧
  ls 0 = ls 0 ∧ ls 1 = ls 1 ∧ True)
  (Tree.done Exit.ret
  (lret
  (IVal.tup
  [IVal.agg
  [u8 (0 : Int), u8 (0 : Int), u16 (0 : Int), u32 (0 : Int), bo false, u32 (0 : Int), u8 (0 : Int), u64 (0 : Int), u64 (0 : Int), i64 (0 : Int), i64 (0 : Int), u32 (0 : Int),
  IVal.v (Value.slice none 0 0), u32 (0 : Int), u8 (0 : Int), u8 (0 : Int), u8 (0 : Int), u8 (0 : Int), u8 (0 : Int), u8 (0 : Int), u8 (0 : Int), u8 (0 : Int), u8 (0 : Int), u8 (0 : Int),
  u8 (0 : Int), u8 (0 : Int), u8 (0 : Int), u8 (0 : Int), u8 (0 : Int), u8 (0 : Int), i64 (0 : Int), u32 (0 : Int), u32 (0 : Int), u32 (0 : Int), u16 (0 : Int), IVal.v (Value.slice none 0 0),
  IVal.v (Value.string (ByteArray.mk (Array.mk [])))],
  IVal.v (Value.bool false)]))))))))))
  (Tree.need
  (ALeL [AVal.ptr 0 0, AVal.imm (IVal.v (Value.int IntKind.i64 (1 : Int)))] [AVal.ptr 0 0, AVal.imm (i64 (1 : Int))] ∧
  PSpec prog 42 [(92, AVal.agg [AVal.imm (slE 1 u8 (List.drop 1 l))])] [] [AVal.ptr 0 0, AVal.imm (i64 (1 : Int))] errE)
  (Tree.need
  (errE = errE ∧
  [(42, AVal.imm z42), (4, AVal.imm (bo false))] =
  [(42,
  AVal.imm
  (IVal.agg
  [u8 (0 : Int), u8 (0 : Int), u16 (0 : Int), u32 (0 : Int), bo false, u32 (0 : Int), u8 (0 : Int), u64 (0 : Int), u64 (0 : Int), i64 (0 : Int), i64 (0 : Int), u32 (0 : Int),
  IVal.v (Value.slice none 0 0), u32 (0 : Int), u8 (0 : Int), u8 (0 : Int), u8 (0 : Int), u8 (0 : Int), u8 (0 : Int), u8 (0 : Int), u8 (0 : Int), u8 (0 : Int), u8 (0 : Int), u8 (0 : Int),
  u8 (0 : Int), u8 (0 : Int), u8 (0 : Int), u8 (0 : Int), u8 (0 : Int), u8 (0 : Int), i64 (0 : Int), u32 (0 : Int), u32 (0 : Int), u32 (0 : Int), u16 (0 : Int), IVal.v (Value.slice none 0 0),
  IVal.v (Value.string (ByteArray.mk (Array.mk [])))])),
  (4, AVal.imm (IVal.v (Value.bool false)))] ∧
  ls 0 = ls 0 ∧ ls 1 = ls 1 ∧ True)
  (Tree.done Exit.ret
  (lret
  (IVal.tup
  [IVal.agg
  [u8 (0 : Int), u8 (0 : Int), u16 (0 : Int), u32 (0 : Int), bo false, u32 (0 : Int), u8 (0 : Int), u64 (0 : Int), u64 (0 : Int), i64 (0 : Int), i64 (0 : Int), u32 (0 : Int), IVal.v (Value.slice none 0 0),
  u32 (0 : Int), u8 (0 : Int), u8 (0 : Int), u8 (0 : Int), u8 (0 : Int), u8 (0 : Int), u8 (0 : Int), u8 (0 : Int), u8 (0 : Int), u8 (0 : Int), u8 (0 : Int), u8 (0 : Int), u8 (0 : Int), u8 (0 : Int), u8 (0 : Int),
  u8 (0 : Int), u8 (0 : Int), i64 (0 : Int), u32 (0 : Int), u32 (0 : Int), u32 (0 : Int), u16 (0 : Int), IVal.v (Value.slice none 0 0), IVal.v (Value.string (ByteArray.mk (Array.mk [])))],
  IVal.v (Value.bool false)])))))))
  (Tree.need
  (ALeL [AVal.ptr 0 0, AVal.imm (IVal.v (Value.int IntKind.i64 (1 : Int)))] [AVal.ptr 0 0, AVal.imm (i64 (1 : Int))] ∧
  PSpec prog 42 [(92, AVal.agg [AVal.imm (slE 1 u8 l)])] [] [AVal.ptr 0 0, AVal.imm (i64 (1 : Int))] errE)
  (Tree.need
  (errE = errE ∧
  [(42, AVal.imm z42), (4, AVal.imm (bo false))] =
  [(42,
  AVal.imm
  (IVal.agg
  [u8 (0 : Int), u8 (0 : Int), u16 (0 : Int), u32 (0 : Int), bo false, u32 (0 : Int), u8 (0 : Int), u64 (0 : Int), u64 (0 : Int), i64 (0 : Int), i64 (0 : Int), u32 (0 : Int), IVal.v (Value.slice none 0 0),
  u32 (0 : Int), u8 (0 : Int), u8 (0 : Int), u8 (0 : Int), u8 (0 : Int), u8 (0 : Int), u8 (0 : Int), u8 (0 : Int), u8 (0 : Int), u8 (0 : Int), u8 (0 : Int), u8 (0 : Int), u8 (0 : Int), u8 (0 : Int), u8 (0 : Int),
  u8 (0 : Int), u8 (0 : Int), i64 (0 : Int), u32 (0 : Int), u32 (0 : Int), u32 (0 : Int), u16 (0 : Int), IVal.v (Value.slice none 0 0), IVal.v (Value.string (ByteArray.mk (Array.mk [])))])),
  (4, AVal.imm (IVal.v (Value.bool false)))] ∧
  ls 0 = ls 0 ∧ ls 1 = ls 1 ∧ True)
  (Tree.done Exit.ret
  (lret
  (IVal.tup
  [IVal.agg
  [u8 (0 : Int), u8 (0 : Int), u16 (0 : Int), u32 (0 : Int), bo false, u32 (0 : Int), u8 (0 : Int), u64 (0 : Int), u64 (0 : Int), i64 (0 : Int), i64 (0 : Int), u32 (0 : Int), IVal.v (Value.slice none 0 0),
  u32 (0 : Int), u8 (0 : Int), u8 (0 : Int), u8 (0 : Int), u8 (0 : Int), u8 (0 : Int), u8 (0 : Int), u8 (0 : Int), u8 (0 : Int), u8 (0 : Int), u8 (0 : Int), u8 (0 : Int), u8 (0 : Int), u8 (0 : Int), u8 (0 : Int),
  u8 (0 : Int), u8 (0 : Int), i64 (0 : Int), u32 (0 : Int), u32 (0 : Int), u32 (0 : Int), u16 (0 : Int), IVal.v (Value.slice none 0 0), IVal.v (Value.string (ByteArray.mk (Array.mk [])))],
  IVal.v (Value.bool false)]))))) := by kernel_rfl
def T35k (ls : Nat → Abs.Loc) (l : List Int) : Tell :=
  Tell.mk (fun x x_1 => false) (fun r i => if (r == 4 && i == 6) = true then Orc.look (AVal.imm form9) true else Orc.no) (fun x => Tree.fail 1000003 0) (fun x => 0) (fun x => ([], []))
  (ogetO (fun r i => if (r == 4 && i == 6) = true then Orc.look (AVal.imm form9) true else Orc.no)
  [(8, 3, 1,
  Orc.may (k76 l (1 : Int)) [6] 1 [AVal.ptr 0 0, AVal.imm (i64 (1 : Int))] errE
  (Orc.callg [6] 1 [AVal.ptr 0 0, AVal.imm (i64 (1 : Int))] [(92, AVal.agg [AVal.imm (slE 1 u8 (List.drop (Int.toNat (1 : Int)) l))])] [] (AVal.imm (u64 (getV l (1 : Int)))))),
  (8, 3, 4,
  Orc.may (k76 (List.drop 1 l) (1 : Int)) [6] 1 [AVal.ptr 0 0, AVal.imm (i64 (1 : Int))] errE
  (Orc.callg [6] 1 [AVal.ptr 0 0, AVal.imm (i64 (1 : Int))] [(92, AVal.agg [AVal.imm (slE 1 u8 (List.drop (Int.toNat (1 : Int)) (List.drop 1 l)))])] []
  (AVal.imm (u64 (getV (List.drop 1 l) (1 : Int)))))),
  (18, 4, 0, Orc.call [] (IVal.map ksF dsF)),
  (33, 7, 4,
  Orc.may (k65 (List.drop 1 (List.drop 1 l))) [16, 6] 2 [AVal.ptr 0 0, AVal.ptr 1 0] errE
  (Orc.callg [16, 6] 2 [AVal.ptr 0 0, AVal.ptr 1 0]
  (two
  (z1 (getV l (1 : Int) % (2 : Int) ^ IntKind.bits IntKind.u8) (getV (List.drop 1 l) (1 : Int) % (2 : Int) ^ IntKind.bits IntKind.u8) (0 : Int)
  (decide (getV (List.drop 1 (List.drop 1 l)) (1 : Int) = (1 : Int))) (0 : Int))
  (List.drop 2 (List.drop 1 (List.drop 1 l))))
  [] (AVal.tup []))),
  (38, 8, 1,
  Orc.may (k76 (List.drop 2 (List.drop 1 (List.drop 1 l))) (4 : Int)) [6] 1 [AVal.ptr 0 0, AVal.imm (i64 (4 : Int))] errE
  (Orc.callg [6] 1 [AVal.ptr 0 0, AVal.imm (i64 (4 : Int))]
  [(92, AVal.agg [AVal.imm (slE 1 u8 (List.drop (Int.toNat (4 : Int)) (List.drop 2 (List.drop 1 (List.drop 1 l)))))])] []
  (AVal.imm (slE 1 u8 (List.take (Int.toNat (4 : Int)) (List.drop 2 (List.drop 1 (List.drop 1 l)))))))),
  (40, 9, 4,
  Orc.may (k66 (List.drop 4 (List.drop 2 (List.drop 1 (List.drop 1 l))))) [16, 6] 2 [AVal.ptr 0 0, AVal.ptr 1 0] errE
  (Orc.callg [16, 6] 2 [AVal.ptr 0 0, AVal.ptr 1 0]
  [(85,
  mA
  (zK (getV l (1 : Int) % (256 : Int)) (getV (List.drop 1 l) (1 : Int) % (256 : Int)) (0 : Int) (decide (getV (List.drop 1 (List.drop 1 l)) (1 : Int) = (1 : Int))) (0 : Int)
  (kR (List.drop 4 (List.drop 2 (List.drop 1 (List.drop 1 l))))))),
  (92, sR (List.drop 21 (List.drop 4 (List.drop 2 (List.drop 1 (List.drop 1 l))))))]
  [] (AVal.tup [])))])
  fun x x_1 => Tree.fail 1000003 0
theorem t35k (ls : Nat → Abs.Loc) (l : List Int) : levD prog Proofs.Try.f35 (σ35 l ls) (T35k ls l) ls [0, 1] (immB cells35) cells35 errE =
  Tree.br (k76 l (1 : Int))
  (Tree.need
  (ALeL [AVal.ptr 0 0, AVal.imm (IVal.v (Value.int IntKind.i64 (1 : Int)))] [AVal.ptr 0 0, AVal.imm (i64 (1 : Int))] ∧
  GSpec prog 42 [(92, AVal.agg [AVal.imm (slE 1 u8 l)])] [] [AVal.ptr 0 0, AVal.imm (i64 (1 : Int))] [(92, AVal.agg [AVal.imm (slE 1 u8 (List.drop 1 l))])] []
  (AVal.imm (u64 (getV l (1 : Int)))))
  (Tree.br (k76 (List.drop 1 l) (1 : Int))
  (Tree.need
  (ALeL [AVal.ptr 0 0, AVal.imm (IVal.v (Value.int IntKind.i64 (1 : Int)))] [AVal.ptr 0 0, AVal.imm (i64 (1 : Int))] ∧
  GSpec prog 42 [(92, AVal.agg [AVal.imm (slE 1 u8 (List.drop 1 l))])] [] [AVal.ptr 0 0, AVal.imm (i64 (1 : Int))]
  [(92, AVal.agg [AVal.imm (slE 1 u8 (List.drop 1 (List.drop 1 l)))])] [] (AVal.imm (u64 (getV (List.drop 1 l) (1 : Int)))))
  (Tree.need (ILeL [] [] ∧ ASpec prog 34 [] (IVal.map ksF dsF))
  (Tree.need
  (true = true ∧
  (if IntKind.wrap IntKind.u8 (getV (List.drop 1 l) (1 : Int)) = (0 : Int) then (AVal.imm (formI (0 : Int)), true)
  else
  if IntKind.wrap IntKind.u8 (getV (List.drop 1 l) (1 : Int)) = (1 : Int) then (AVal.imm (formI (1 : Int)), true)
  else
  if IntKind.wrap IntKind.u8 (getV (List.drop 1 l) (1 : Int)) = (2 : Int) then (AVal.imm (formI (2 : Int)), true)
  else
  if IntKind.wrap IntKind.u8 (getV (List.drop 1 l) (1 : Int)) = (8 : Int) then (AVal.imm (formI (8 : Int)), true)
  else
  if IntKind.wrap IntKind.u8 (getV (List.drop 1 l) (1 : Int)) = (4 : Int) then (AVal.imm (formI (4 : Int)), true)
  else
  if IntKind.wrap IntKind.u8 (getV (List.drop 1 l) (1 : Int)) = (6 : Int) then (AVal.imm (formI (6 : Int)), true)
  else
  if IntKind.wrap IntKind.u8 (getV (List.drop 1 l) (1 : Int)) = (3 : Int) then (AVal.imm (formI (3 : Int)), true)
  else
  if IntKind.wrap IntKind.u8 (getV (List.drop 1 l) (1 : Int)) = (7 : Int) then (AVal.imm (formI (7 : Int)), true)
  else
  if IntKind.wrap IntKind.u8 (getV (List.drop 1 l) (1 : Int)) = (9 : Int) then (AVal.imm (formI (9 : Int)), true)
  else
  if IntKind.wrap IntKind.u8 (getV (List.drop 1 l) (1 : Int)) = (10 : Int) then (AVal.imm (formI (10 : Int)), true)
  else
  if IntKind.wrap IntKind.u8 (getV (List.drop 1 l) (1 : Int)) = (11 : Int) then (AVal.imm (formI (11 : Int)), true)
  else (AVal.imm (IVal.agg [IVal.v Value.nilFunc, IVal.v Value.nilFunc, IVal.v Value.nilFunc, IVal.v Value.nilFunc, IVal.v Value.nilFunc]), false)) =
  (AVal.imm form9, true))
  (Tree.br false
  (Tree.done Exit.ret
  (lret
  (IVal.tup
  [IVal.agg
  [IVal.v (Value.int IntKind.u8 (0 : Int)), IVal.v (Value.int IntKind.u8 (0 : Int)), IVal.v (Value.int IntKind.u16 (0 : Int)), IVal.v (Value.int IntKind.u32 (0 : Int)), IVal.v (Value.bool false),
  IVal.v (Value.int IntKind.u32 (0 : Int)), IVal.v (Value.int IntKind.u8 (0 : Int)), IVal.v (Value.int IntKind.u64 (0 : Int)), IVal.v (Value.int IntKind.u64 (0 : Int)), IVal.v (Value.int IntKind.i64 (0 : Int)),
  IVal.v (Value.int IntKind.i64 (0 : Int)), IVal.v (Value.int IntKind.u32 (0 : Int)), IVal.v (Value.slice none 0 0), IVal.v (Value.int IntKind.u32 (0 : Int)), IVal.v (Value.int IntKind.u8 (0 : Int)),
  IVal.v (Value.int IntKind.u8 (0 : Int)), IVal.v (Value.int IntKind.u8 (0 : Int)), IVal.v (Value.int IntKind.u8 (0 : Int)), IVal.v (Value.int IntKind.u8 (0 : Int)), IVal.v (Value.int IntKind.u8 (0 : Int)),
  IVal.v (Value.int IntKind.u8 (0 : Int)), IVal.v (Value.int IntKind.u8 (0 : Int)), IVal.v (Value.int IntKind.u8 (0 : Int)), IVal.v (Value.int IntKind.u8 (0 : Int)), IVal.v (Value.int IntKind.u8 (0 : Int)),
  IVal.v (Value.int IntKind.u8 (0 : Int)), IVal.v (Value.int IntKind.u8 (0 : Int)), IVal.v (Value.int IntKind.u8 (0 : Int)), IVal.v (Value.int IntKind.u8 (0 : Int)), IVal.v (Value.int IntKind.u8 (0 : Int)),
  IVal.v (Value.int IntKind.i64 (0 : Int)), IVal.v (Value.int IntKind.u32 (0 : Int)), IVal.v (Value.int IntKind.u32 (0 : Int)), IVal.v (Value.int IntKind.u32 (0 : Int)), IVal.v (Value.int IntKind.u16 (0 : Int)),
  IVal.v (Value.slice none 0 0), IVal.v (Value.string (ByteArray.mk (Array.mk [])))],
  IVal.v (Value.bool false)])))
  (Tree.br (k65 (List.drop 1 (List.drop 1 l)))
  (Tree.need
  (ALeL [AVal.ptr 0 0, AVal.ptr 1 0] [AVal.ptr 0 0, AVal.ptr 1 0] ∧
  GSpec prog 65
  [(85,
  AVal.agg
  [AVal.imm (IVal.v (Value.int IntKind.u8 (IntKind.wrap IntKind.u8 (getV l (1 : Int))))), AVal.imm (IVal.v (Value.int IntKind.u8 (IntKind.wrap IntKind.u8 (getV (List.drop 1 l) (1 : Int))))),
  AVal.imm (IVal.v (Value.int IntKind.u16 (0 : Int))), AVal.imm (IVal.v (Value.int IntKind.u32 (0 : Int))), AVal.imm (IVal.v (Value.bool false)), AVal.imm (IVal.v (Value.int IntKind.u32 (0 : Int))),
  AVal.imm (IVal.v (Value.int IntKind.u8 (0 : Int))), AVal.imm (IVal.v (Value.int IntKind.u64 (0 : Int))), AVal.imm (IVal.v (Value.int IntKind.u64 (0 : Int))), AVal.imm (IVal.v (Value.int IntKind.i64 (0 : Int))),
  AVal.imm (IVal.v (Value.int IntKind.i64 (0 : Int))), AVal.imm (IVal.v (Value.int IntKind.u32 (0 : Int))), AVal.imm (IVal.v (Value.slice none 0 0)),
  AVal.imm (IVal.v (Value.int IntKind.u32 (0 : Int))), AVal.imm (IVal.v (Value.int IntKind.u8 (0 : Int))), AVal.imm (IVal.v (Value.int IntKind.u8 (0 : Int))), AVal.imm (IVal.v (Value.int IntKind.u8 (0 : Int))),
  AVal.imm (IVal.v (Value.int IntKind.u8 (0 : Int))), AVal.imm (IVal.v (Value.int IntKind.u8 (0 : Int))), AVal.imm (IVal.v (Value.int IntKind.u8 (0 : Int))), AVal.imm (IVal.v (Value.int IntKind.u8 (0 : Int))),
  AVal.imm (IVal.v (Value.int IntKind.u8 (0 : Int))), AVal.imm (IVal.v (Value.int IntKind.u8 (0 : Int))), AVal.imm (IVal.v (Value.int IntKind.u8 (0 : Int))), AVal.imm (IVal.v (Value.int IntKind.u8 (0 : Int))),
  AVal.imm (IVal.v (Value.int IntKind.u8 (0 : Int))), AVal.imm (IVal.v (Value.int IntKind.u8 (0 : Int))), AVal.imm (IVal.v (Value.int IntKind.u8 (0 : Int))), AVal.imm (IVal.v (Value.int IntKind.u8 (0 : Int))),
  AVal.imm (IVal.v (Value.int IntKind.u8 (0 : Int))), AVal.imm (IVal.v (Value.int IntKind.i64 (0 : Int))), AVal.imm (IVal.v (Value.int IntKind.u32 (0 : Int))), AVal.imm (IVal.v (Value.int IntKind.u32 (0 : Int))),
  AVal.imm (IVal.v (Value.int IntKind.u32 (0 : Int))), AVal.imm (IVal.v (Value.int IntKind.u16 (0 : Int))), AVal.imm (IVal.v (Value.slice none 0 0)),
  AVal.imm (IVal.v (Value.string (ByteArray.mk (Array.mk []))))]),
  (92, AVal.agg [AVal.imm (slE 1 u8 (List.drop 1 (List.drop 1 l)))])]
  [] [AVal.ptr 0 0, AVal.ptr 1 0]
  (two (z1 (getV l (1 : Int) % (256 : Int)) (getV (List.drop 1 l) (1 : Int) % (256 : Int)) (0 : Int) (decide (getV (List.drop 1 (List.drop 1 l)) (1 : Int) = (1 : Int))) (0 : Int))
  (List.drop 2 (List.drop 1 (List.drop 1 l))))
  [] (AVal.tup []))
  (Tree.br (k76 (List.drop 2 (List.drop 1 (List.drop 1 l))) (4 : Int))
  (Tree.need
  (ALeL [AVal.ptr 0 0, AVal.imm (IVal.v (Value.int IntKind.i64 (4 : Int)))] [AVal.ptr 0 0, AVal.imm (i64 (4 : Int))] ∧
  GSpec prog 76 [(92, AVal.agg [AVal.imm (slE 1 u8 (List.drop 2 (List.drop 1 (List.drop 1 l))))])] [] [AVal.ptr 0 0, AVal.imm (i64 (4 : Int))]
  [(92, AVal.agg [AVal.imm (slE 1 u8 (List.drop 4 (List.drop 2 (List.drop 1 (List.drop 1 l)))))])] []
  (AVal.imm (slE 1 u8 (List.take 4 (List.drop 2 (List.drop 1 (List.drop 1 l)))))))
  (Tree.br (k66 (List.drop 4 (List.drop 2 (List.drop 1 (List.drop 1 l)))))
  (Tree.need
  (ALeL [AVal.ptr 0 0, AVal.ptr 1 0] [AVal.ptr 0 0, AVal.ptr 1 0] ∧
  GSpec prog 66
  [(85,
  AVal.agg
  [AVal.imm
  (u8
  (z1 (getV l (1 : Int) % (256 : Int)) (getV (List.drop 1 l) (1 : Int) % (256 : Int)) (0 : Int) (decide (getV (List.drop 1 (List.drop 1 l)) (1 : Int) = (1 : Int)))
  (0 : Int)).version),
  AVal.imm
  (u8
  (z1 (getV l (1 : Int) % (256 : Int)) (getV (List.drop 1 l) (1 : Int) % (256 : Int)) (0 : Int) (decide (getV (List.drop 1 (List.drop 1 l)) (1 : Int) = (1 : Int)))
  (0 : Int)).kind),
  AVal.imm
  (u16
  (z1 (getV l (1 : Int) % (256 : Int)) (getV (List.drop 1 l) (1 : Int) % (256 : Int)) (0 : Int) (decide (getV (List.drop 1 (List.drop 1 l)) (1 : Int) = (1 : Int)))
  (0 : Int)).session),
  AVal.imm
  (u32
  (z1 (getV l (1 : Int) % (256 : Int)) (getV (List.drop 1 l) (1 : Int) % (256 : Int)) (0 : Int) (decide (getV (List.drop 1 (List.drop 1 l)) (1 : Int) = (1 : Int)))
  (0 : Int)).serial),
  AVal.imm
  (bo
  (z1 (getV l (1 : Int) % (256 : Int)) (getV (List.drop 1 l) (1 : Int) % (256 : Int)) (0 : Int) (decide (getV (List.drop 1 (List.drop 1 l)) (1 : Int) = (1 : Int)))
  (0 : Int)).add),
  AVal.imm
  (u32
  (z1 (getV l (1 : Int) % (256 : Int)) (getV (List.drop 1 l) (1 : Int) % (256 : Int)) (0 : Int) (decide (getV (List.drop 1 (List.drop 1 l)) (1 : Int) = (1 : Int)))
  (0 : Int)).origin.asn),
  AVal.imm
  (u8
  (z1 (getV l (1 : Int) % (256 : Int)) (getV (List.drop 1 l) (1 : Int) % (256 : Int)) (0 : Int) (decide (getV (List.drop 1 (List.drop 1 l)) (1 : Int) = (1 : Int)))
  (0 : Int)).origin.pfx.fam),
  AVal.imm
  (u64
  (z1 (getV l (1 : Int) % (256 : Int)) (getV (List.drop 1 l) (1 : Int) % (256 : Int)) (0 : Int) (decide (getV (List.drop 1 (List.drop 1 l)) (1 : Int) = (1 : Int)))
  (0 : Int)).origin.pfx.addr.hi),
  AVal.imm
  (u64
  (z1 (getV l (1 : Int) % (256 : Int)) (getV (List.drop 1 l) (1 : Int) % (256 : Int)) (0 : Int) (decide (getV (List.drop 1 (List.drop 1 l)) (1 : Int) = (1 : Int)))
  (0 : Int)).origin.pfx.addr.lo),
  AVal.imm
  (i64
  (z1 (getV l (1 : Int) % (256 : Int)) (getV (List.drop 1 l) (1 : Int) % (256 : Int)) (0 : Int) (decide (getV (List.drop 1 (List.drop 1 l)) (1 : Int) = (1 : Int)))
  (0 : Int)).origin.pfx.len),
  AVal.imm
  (i64
  (z1 (getV l (1 : Int) % (256 : Int)) (getV (List.drop 1 l) (1 : Int) % (256 : Int)) (0 : Int) (decide (getV (List.drop 1 (List.drop 1 l)) (1 : Int) = (1 : Int)))
  (0 : Int)).origin.max),
  AVal.imm
  (u32
  (z1 (getV l (1 : Int) % (256 : Int)) (getV (List.drop 1 l) (1 : Int) % (256 : Int)) (0 : Int) (decide (getV (List.drop 1 (List.drop 1 l)) (1 : Int) = (1 : Int)))
  (0 : Int)).path.cust),
  AVal.imm (IVal.v (Value.slice none 0 0)),
  AVal.imm
  (u32
  (z1 (getV l (1 : Int) % (256 : Int)) (getV (List.drop 1 l) (1 : Int) % (256 : Int)) (0 : Int) (decide (getV (List.drop 1 (List.drop 1 l)) (1 : Int) = (1 : Int)))
  (0 : Int)).key.asn),
  AVal.imm (u8 (0 : Int)), AVal.imm (u8 (0 : Int)), AVal.imm (u8 (0 : Int)), AVal.imm (u8 (0 : Int)), AVal.imm (u8 (0 : Int)), AVal.imm (u8 (0 : Int)), AVal.imm (u8 (0 : Int)), AVal.imm (u8 (0 : Int)),
  AVal.imm (u8 (0 : Int)), AVal.imm (u8 (0 : Int)), AVal.imm (u8 (0 : Int)), AVal.imm (u8 (0 : Int)), AVal.imm (u8 (0 : Int)), AVal.imm (u8 (0 : Int)), AVal.imm (u8 (0 : Int)), AVal.imm (u8 (0 : Int)),
  AVal.imm
  (i64
  (z1 (getV l (1 : Int) % (256 : Int)) (getV (List.drop 1 l) (1 : Int) % (256 : Int)) (0 : Int) (decide (getV (List.drop 1 (List.drop 1 l)) (1 : Int) = (1 : Int)))
  (0 : Int)).key.height),
  AVal.imm
  (u32
  (z1 (getV l (1 : Int) % (256 : Int)) (getV (List.drop 1 l) (1 : Int) % (256 : Int)) (0 : Int) (decide (getV (List.drop 1 (List.drop 1 l)) (1 : Int) = (1 : Int)))
  (0 : Int)).refresh),
  AVal.imm
  (u32
  (z1 (getV l (1 : Int) % (256 : Int)) (getV (List.drop 1 l) (1 : Int) % (256 : Int)) (0 : Int) (decide (getV (List.drop 1 (List.drop 1 l)) (1 : Int) = (1 : Int)))
  (0 : Int)).retry),
  AVal.imm
  (u32
  (z1 (getV l (1 : Int) % (256 : Int)) (getV (List.drop 1 l) (1 : Int) % (256 : Int)) (0 : Int) (decide (getV (List.drop 1 (List.drop 1 l)) (1 : Int) = (1 : Int)))
  (0 : Int)).expire),
  AVal.imm
  (u16
  (z1 (getV l (1 : Int) % (256 : Int)) (getV (List.drop 1 l) (1 : Int) % (256 : Int)) (0 : Int) (decide (getV (List.drop 1 (List.drop 1 l)) (1 : Int) = (1 : Int)))
  (0 : Int)).code),
  AVal.imm (IVal.v (Value.slice none 0 0)),
  AVal.imm
  (st
  (z1 (getV l (1 : Int) % (256 : Int)) (getV (List.drop 1 l) (1 : Int) % (256 : Int)) (0 : Int) (decide (getV (List.drop 1 (List.drop 1 l)) (1 : Int) = (1 : Int)))
  (0 : Int)).text)]),
  (92, AVal.agg [AVal.imm (slE 1 u8 (List.drop 4 (List.drop 2 (List.drop 1 (List.drop 1 l)))))])]
  [] [AVal.ptr 0 0, AVal.ptr 1 0]
  [(85,
  mA
  (zK (getV l (1 : Int) % (256 : Int)) (getV (List.drop 1 l) (1 : Int) % (256 : Int)) (0 : Int) (decide (getV (List.drop 1 (List.drop 1 l)) (1 : Int) = (1 : Int))) (0 : Int)
  (kR (List.drop 4 (List.drop 2 (List.drop 1 (List.drop 1 l))))))),
  (92, sR (List.drop 21 (List.drop 4 (List.drop 2 (List.drop 1 (List.drop 1 l))))))]
  [] (AVal.tup []))
  (Tree.done Exit.ret
  (lret
  (IVal.tup
  [IVal.agg
  [u8
  (zK (getV l (1 : Int) % (256 : Int)) (getV (List.drop 1 l) (1 : Int) % (256 : Int)) (0 : Int) (decide (getV (List.drop 1 (List.drop 1 l)) (1 : Int) = (1 : Int))) (0 : Int)
  (kR (List.drop 4 (List.drop 2 (List.drop 1 (List.drop 1 l)))))).version,
  u8
  (zK (getV l (1 : Int) % (256 : Int)) (getV (List.drop 1 l) (1 : Int) % (256 : Int)) (0 : Int) (decide (getV (List.drop 1 (List.drop 1 l)) (1 : Int) = (1 : Int))) (0 : Int)
  (kR (List.drop 4 (List.drop 2 (List.drop 1 (List.drop 1 l)))))).kind,
  u16
  (zK (getV l (1 : Int) % (256 : Int)) (getV (List.drop 1 l) (1 : Int) % (256 : Int)) (0 : Int) (decide (getV (List.drop 1 (List.drop 1 l)) (1 : Int) = (1 : Int))) (0 : Int)
  (kR (List.drop 4 (List.drop 2 (List.drop 1 (List.drop 1 l)))))).session,
  u32
  (zK (getV l (1 : Int) % (256 : Int)) (getV (List.drop 1 l) (1 : Int) % (256 : Int)) (0 : Int) (decide (getV (List.drop 1 (List.drop 1 l)) (1 : Int) = (1 : Int))) (0 : Int)
  (kR (List.drop 4 (List.drop 2 (List.drop 1 (List.drop 1 l)))))).serial,
  bo
  (zK (getV l (1 : Int) % (256 : Int)) (getV (List.drop 1 l) (1 : Int) % (256 : Int)) (0 : Int) (decide (getV (List.drop 1 (List.drop 1 l)) (1 : Int) = (1 : Int))) (0 : Int)
  (kR (List.drop 4 (List.drop 2 (List.drop 1 (List.drop 1 l)))))).add,
  u32
  (zK (getV l (1 : Int) % (256 : Int)) (getV (List.drop 1 l) (1 : Int) % (256 : Int)) (0 : Int) (decide (getV (List.drop 1 (List.drop 1 l)) (1 : Int) = (1 : Int))) (0 : Int)
  (kR (List.drop 4 (List.drop 2 (List.drop 1 (List.drop 1 l)))))).origin.asn,
  u8
  (zK (getV l (1 : Int) % (256 : Int)) (getV (List.drop 1 l) (1 : Int) % (256 : Int)) (0 : Int) (decide (getV (List.drop 1 (List.drop 1 l)) (1 : Int) = (1 : Int))) (0 : Int)
  (kR (List.drop 4 (List.drop 2 (List.drop 1 (List.drop 1 l)))))).origin.pfx.fam,
  u64
  (zK (getV l (1 : Int) % (256 : Int)) (getV (List.drop 1 l) (1 : Int) % (256 : Int)) (0 : Int) (decide (getV (List.drop 1 (List.drop 1 l)) (1 : Int) = (1 : Int))) (0 : Int)
  (kR (List.drop 4 (List.drop 2 (List.drop 1 (List.drop 1 l)))))).origin.pfx.addr.hi,
  u64
  (zK (getV l (1 : Int) % (256 : Int)) (getV (List.drop 1 l) (1 : Int) % (256 : Int)) (0 : Int) (decide (getV (List.drop 1 (List.drop 1 l)) (1 : Int) = (1 : Int))) (0 : Int)
  (kR (List.drop 4 (List.drop 2 (List.drop 1 (List.drop 1 l)))))).origin.pfx.addr.lo,
  i64
  (zK (getV l (1 : Int) % (256 : Int)) (getV (List.drop 1 l) (1 : Int) % (256 : Int)) (0 : Int) (decide (getV (List.drop 1 (List.drop 1 l)) (1 : Int) = (1 : Int))) (0 : Int)
  (kR (List.drop 4 (List.drop 2 (List.drop 1 (List.drop 1 l)))))).origin.pfx.len,
  i64
  (zK (getV l (1 : Int) % (256 : Int)) (getV (List.drop 1 l) (1 : Int) % (256 : Int)) (0 : Int) (decide (getV (List.drop 1 (List.drop 1 l)) (1 : Int) = (1 : Int))) (0 : Int)
  (kR (List.drop 4 (List.drop 2 (List.drop 1 (List.drop 1 l)))))).origin.max,
  u32
  (zK (getV l (1 : Int) % (256 : Int)) (getV (List.drop 1 l) (1 : Int) % (256 : Int)) (0 : Int) (decide (getV (List.drop 1 (List.drop 1 l)) (1 : Int) = (1 : Int))) (0 : Int)
  (kR (List.drop 4 (List.drop 2 (List.drop 1 (List.drop 1 l)))))).path.cust,
  IVal.v (Value.slice none 0 0),
  u32
  (zK (getV l (1 : Int) % (256 : Int)) (getV (List.drop 1 l) (1 : Int) % (256 : Int)) (0 : Int) (decide (getV (List.drop 1 (List.drop 1 l)) (1 : Int) = (1 : Int))) (0 : Int)
  (kR (List.drop 4 (List.drop 2 (List.drop 1 (List.drop 1 l)))))).key.asn,
  u8
  (zK (getV l (1 : Int) % (256 : Int)) (getV (List.drop 1 l) (1 : Int) % (256 : Int)) (0 : Int) (decide (getV (List.drop 1 (List.drop 1 l)) (1 : Int) = (1 : Int))) (0 : Int)
  (kR (List.drop 4 (List.drop 2 (List.drop 1 (List.drop 1 l)))))).key.root[0],
  u8
  (zK (getV l (1 : Int) % (256 : Int)) (getV (List.drop 1 l) (1 : Int) % (256 : Int)) (0 : Int) (decide (getV (List.drop 1 (List.drop 1 l)) (1 : Int) = (1 : Int))) (0 : Int)
  (kR (List.drop 4 (List.drop 2 (List.drop 1 (List.drop 1 l)))))).key.root[1],
  u8
  (zK (getV l (1 : Int) % (256 : Int)) (getV (List.drop 1 l) (1 : Int) % (256 : Int)) (0 : Int) (decide (getV (List.drop 1 (List.drop 1 l)) (1 : Int) = (1 : Int))) (0 : Int)
  (kR (List.drop 4 (List.drop 2 (List.drop 1 (List.drop 1 l)))))).key.root[2],
  u8
  (zK (getV l (1 : Int) % (256 : Int)) (getV (List.drop 1 l) (1 : Int) % (256 : Int)) (0 : Int) (decide (getV (List.drop 1 (List.drop 1 l)) (1 : Int) = (1 : Int))) (0 : Int)
  (kR (List.drop 4 (List.drop 2 (List.drop 1 (List.drop 1 l)))))).key.root[3],
  u8
  (zK (getV l (1 : Int) % (256 : Int)) (getV (List.drop 1 l) (1 : Int) % (256 : Int)) (0 : Int) (decide (getV (List.drop 1 (List.drop 1 l)) (1 : Int) = (1 : Int))) (0 : Int)
  (kR (List.drop 4 (List.drop 2 (List.drop 1 (List.drop 1 l)))))).key.root[4],
  u8
  (zK (getV l (1 : Int) % (256 : Int)) (getV (List.drop 1 l) (1 : Int) % (256 : Int)) (0 : Int) (decide (getV (List.drop 1 (List.drop 1 l)) (1 : Int) = (1 : Int))) (0 : Int)
  (kR (List.drop 4 (List.drop 2 (List.drop 1 (List.drop 1 l)))))).key.root[5],
  u8
  (zK (getV l (1 : Int) % (256 : Int)) (getV (List.drop 1 l) (1 : Int) % (256 : Int)) (0 : Int) (decide (getV (List.drop 1 (List.drop 1 l)) (1 : Int) = (1 : Int))) (0 : Int)
  (kR (List.drop 4 (List.drop 2 (List.drop 1 (List.drop 1 l)))))).key.root[6],
  u8
  (zK (getV l (1 : Int) % (256 : Int)) (getV (List.drop 1 l) (1 : Int) % (256 : Int)) (0 : Int) (decide (getV (List.drop 1 (List.drop 1 l)) (1 : Int) = (1 : Int))) (0 : Int)
  (kR (List.drop 4 (List.drop 2 (List.drop 1 (List.drop 1 l)))))).key.root[7],
  u8
  (zK (getV l (1 : Int) % (256 : Int)) (getV (List.drop 1 l) (1 : Int) % (256 : Int)) (0 : Int) (decide (getV (List.drop 1 (List.drop 1 l)) (1 : Int) = (1 : Int))) (0 : Int)
  (kR (List.drop 4 (List.drop 2 (List.drop 1 (List.drop 1 l)))))).key.root[8],
  u8
  (zK (getV l (1 : Int) % (256 : Int)) (getV (List.drop 1 l) (1 : Int) % (256 : Int)) (0 : Int) (decide (getV (List.drop 1 (List.drop 1 l)) (1 : Int) = (1 : Int))) (0 : Int)
  (kR (List.drop 4 (List.drop 2 (List.drop 1 (List.drop 1 l)))))).key.root[9],
  u8
  (zK (getV l (1 : Int) % (256 : Int)) (getV (List.drop 1 l) (1 : Int) % (256 : Int)) (0 : Int) (decide (getV (List.drop 1 (List.drop 1 l)) (1 : Int) = (1 : Int))) (0 : Int)
  (kR (List.drop 4 (List.drop 2 (List.drop 1 (List.drop 1 l)))))).key.root[10],
  u8
  (zK (getV l (1 : Int) % (256 : Int)) (getV (List.drop 1 l) (1 : Int) % (256 : Int)) (0 : Int) (decide (getV (List.drop 1 (List.drop 1 l)) (1 : Int) = (1 : Int))) (0 : Int)
  (kR (List.drop 4 (List.drop 2 (List.drop 1 (List.drop 1 l)))))).key.root[11],
  u8
  (zK (getV l (1 : Int) % (256 : Int)) (getV (List.drop 1 l) (1 : Int) % (256 : Int)) (0 : Int) (decide (getV (List.drop 1 (List.drop 1 l)) (1 : Int) = (1 : Int))) (0 : Int)
  (kR (List.drop 4 (List.drop 2 (List.drop 1 (List.drop 1 l)))))).key.root[12],
  u8
  (zK (getV l (1 : Int) % (256 : Int)) (getV (List.drop 1 l) (1 : Int) % (256 : Int)) (0 : Int) (decide (getV (List.drop 1 (List.drop 1 l)) (1 : Int) = (1 : Int))) (0 : Int)
  (kR (List.drop 4 (List.drop 2 (List.drop 1 (List.drop 1 l)))))).key.root[13],
  u8
  (zK (getV l (1 : Int) % (256 : Int)) (getV (List.drop 1 l) (1 : Int) % (256 : Int)) (0 : Int) (decide (getV (List.drop 1 (List.drop 1 l)) (1 : Int) = (1 : Int))) (0 : Int)
  (kR (List.drop 4 (List.drop 2 (List.drop 1 (List.drop 1 l)))))).key.root[14],
  u8
  (zK (getV l (1 : Int) % (256 : Int)) (getV (List.drop 1 l) (1 : Int) % (256 : Int)) (0 : Int) (decide (getV (List.drop 1 (List.drop 1 l)) (1 : Int) = (1 : Int))) (0 : Int)
  (kR (List.drop 4 (List.drop 2 (List.drop 1 (List.drop 1 l)))))).key.root[15],
  i64
  (zK (getV l (1 : Int) % (256 : Int)) (getV (List.drop 1 l) (1 : Int) % (256 : Int)) (0 : Int) (decide (getV (List.drop 1 (List.drop 1 l)) (1 : Int) = (1 : Int))) (0 : Int)
  (kR (List.drop 4 (List.drop 2 (List.drop 1 (List.drop 1 l)))))).key.height,
  u32
  (zK (getV l (1 : Int) % (256 : Int)) (getV (List.drop 1 l) (1 : Int) % (256 : Int)) (0 : Int) (decide (getV (List.drop 1 (List.drop 1 l)) (1 : Int) = (1 : Int))) (0 : Int)
  (kR (List.drop 4 (List.drop 2 (List.drop 1 (List.drop 1 l)))))).refresh,
  u32
  (zK (getV l (1 : Int) % (256 : Int)) (getV (List.drop 1 l) (1 : Int) % (256 : Int)) (0 : Int) (decide (getV (List.drop 1 (List.drop 1 l)) (1 : Int) = (1 : Int))) (0 : Int)
  (kR (List.drop 4 (List.drop 2 (List.drop 1 (List.drop 1 l)))))).retry,
  u32
  (zK (getV l (1 : Int) % (256 : Int)) (getV (List.drop 1 l) (1 : Int) % (256 : Int)) (0 : Int) (decide (getV (List.drop 1 (List.drop 1 l)) (1 : Int) = (1 : Int))) (0 : Int)
  (kR (List.drop 4 (List.drop 2 (List.drop 1 (List.drop 1 l)))))).expire,
  u16
  (zK (getV l (1 : Int) % (256 : Int)) (getV (List.drop 1 l) (1 : Int) % (256 : Int)) (0 : Int) (decide (getV (List.drop 1 (List.drop 1 l)) (1 : Int) = (1 : Int))) (0 : Int)
  (kR (List.drop 4 (List.drop 2 (List.drop 1 (List.drop 1 l)))))).code,
  IVal.v (Value.slice none 0 0),
  st
  (zK (getV l (1 : Int) % (256 : Int)) (getV (List.drop 1 l) (1 : Int) % (256 : Int)) (0 : Int) (decide (getV (List.drop 1 (List.drop 1 l)) (1 : Int) = (1 : Int))) (0 : Int)
  (kR (List.drop 4 (List.drop 2 (List.drop 1 (List.drop 1 l)))))).text],
  IVal.v (Value.bool (decide ((↑(List.length (List.map u8 (List.drop 21 (List.drop 4 (List.drop 2 (List.drop 1 (List.drop 1 l))))))) : Int) = (0 : Int))))]))))
  (Tree.need
  (ALeL [AVal.ptr 0 0, AVal.ptr 1 0] [AVal.ptr 0 0, AVal.ptr 1 0] ∧
  PSpec prog 66
  [(85,
  AVal.agg
  [AVal.imm
  (u8
  (z1 (getV l (1 : Int) % (256 : Int)) (getV (List.drop 1 l) (1 : Int) % (256 : Int)) (0 : Int) (decide (getV (List.drop 1 (List.drop 1 l)) (1 : Int) = (1 : Int)))
  (0 : Int)).version),
  AVal.imm
  (u8
  (z1 (getV l (1 : Int) % (256 : Int)) (getV (List.drop 1 l) (1 : Int) % (256 : Int)) (0 : Int) (decide (getV (List.drop 1 (List.drop 1 l)) (1 : Int) = (1 : Int)))
  (0 : Int)).kind),
  AVal.imm
  (u16
  (z1 (getV l (1 : Int) % (256 : Int)) (getV (List.drop 1 l) (1 : Int) % (256 : Int)) (0 : Int) (decide (getV (List.drop 1 (List.drop 1 l)) (1 : Int) = (1 : Int)))
  (0 : Int)).session),
  AVal.imm
  (u32
  (z1 (getV l (1 : Int) % (256 : Int)) (getV (List.drop 1 l) (1 : Int) % (256 : Int)) (0 : Int) (decide (getV (List.drop 1 (List.drop 1 l)) (1 : Int) = (1 : Int)))
  (0 : Int)).serial),
  AVal.imm
  (bo
  (z1 (getV l (1 : Int) % (256 : Int)) (getV (List.drop 1 l) (1 : Int) % (256 : Int)) (0 : Int) (decide (getV (List.drop 1 (List.drop 1 l)) (1 : Int) = (1 : Int)))
  (0 : Int)).add),
  AVal.imm
  (u32
  (z1 (getV l (1 : Int) % (256 : Int)) (getV (List.drop 1 l) (1 : Int) % (256 : Int)) (0 : Int) (decide (getV (List.drop 1 (List.drop 1 l)) (1 : Int) = (1 : Int)))
  (0 : Int)).origin.asn),
  AVal.imm
  (u8
  (z1 (getV l (1 : Int) % (256 : Int)) (getV (List.drop 1 l) (1 : Int) % (256 : Int)) (0 : Int) (decide (getV (List.drop 1 (List.drop 1 l)) (1 : Int) = (1 : Int)))
  (0 : Int)).origin.pfx.fam),
  AVal.imm
  (u64
  (z1 (getV l (1 : Int) % (256 : Int)) (getV (List.drop 1 l) (1 : Int) % (256 : Int)) (0 : Int) (decide (getV (List.drop 1 (List.drop 1 l)) (1 : Int) = (1 : Int)))
  (0 : Int)).origin.pfx.addr.hi),
  AVal.imm
  (u64
  (z1 (getV l (1 : Int) % (256 : Int)) (getV (List.drop 1 l) (1 : Int) % (256 : Int)) (0 : Int) (decide (getV (List.drop 1 (List.drop 1 l)) (1 : Int) = (1 : Int)))
  (0 : Int)).origin.pfx.addr.lo),
  AVal.imm
  (i64
  (z1 (getV l (1 : Int) % (256 : Int)) (getV (List.drop 1 l) (1 : Int) % (256 : Int)) (0 : Int) (decide (getV (List.drop 1 (List.drop 1 l)) (1 : Int) = (1 : Int)))
  (0 : Int)).origin.pfx.len),
  AVal.imm
  (i64
  (z1 (getV l (1 : Int) % (256 : Int)) (getV (List.drop 1 l) (1 : Int) % (256 : Int)) (0 : Int) (decide (getV (List.drop 1 (List.drop 1 l)) (1 : Int) = (1 : Int)))
  (0 : Int)).origin.max),
  AVal.imm
  (u32
  (z1 (getV l (1 : Int) % (256 : Int)) (getV (List.drop 1 l) (1 : Int) % (256 : Int)) (0 : Int) (decide (getV (List.drop 1 (List.drop 1 l)) (1 : Int) = (1 : Int)))
  (0 : Int)).path.cust),
  AVal.imm (IVal.v (Value.slice none 0 0)),
  AVal.imm
  (u32
  (z1 (getV l (1 : Int) % (256 : Int)) (getV (List.drop 1 l) (1 : Int) % (256 : Int)) (0 : Int) (decide (getV (List.drop 1 (List.drop 1 l)) (1 : Int) = (1 : Int)))
  (0 : Int)).key.asn),
  AVal.imm (u8 (0 : Int)), AVal.imm (u8 (0 : Int)), AVal.imm (u8 (0 : Int)), AVal.imm (u8 (0 : Int)), AVal.imm (u8 (0 : Int)), AVal.imm (u8 (0 : Int)), AVal.imm (u8 (0 : Int)), AVal.imm (u8 (0 : Int)),
  AVal.imm (u8 (0 : Int)), AVal.imm (u8 (0 : Int)), AVal.imm (u8 (0 : Int)), AVal.imm (u8 (0 : Int)), AVal.imm (u8 (0 : Int)), AVal.imm (u8 (0 : Int)), AVal.imm (u8 (0 : Int)), AVal.imm (u8 (0 : Int)),
  AVal.imm
  (i64
  (z1 (getV l (1 : Int) % (256 : Int)) (getV (List.drop 1 l) (1 : Int) % (256 : Int)) (0 : Int) (decide (getV (List.drop 1 (List.drop 1 l)) (1 : Int) = (1 : Int)))
  (0 : Int)).key.height),
  AVal.imm
  (u32
  (z1 (getV l (1 : Int) % (256 : Int)) (getV (List.drop 1 l) (1 : Int) % (256 : Int)) (0 : Int) (decide (getV (List.drop 1 (List.drop 1 l)) (1 : Int) = (1 : Int)))
  (0 : Int)).refresh),
  AVal.imm
  (u32
  (z1 (getV l (1 : Int) % (256 : Int)) (getV (List.drop 1 l) (1 : Int) % (256 : Int)) (0 : Int) (decide (getV (List.drop 1 (List.drop 1 l)) (1 : Int) = (1 : Int)))
  (0 : Int)).retry),
  AVal.imm
  (u32
  (z1 (getV l (1 : Int) % (256 : Int)) (getV (List.drop 1 l) (1 : Int) % (256 : Int)) (0 : Int) (decide (getV (List.drop 1 (List.drop 1 l)) (1 : Int) = (1 : Int)))
  (0 : Int)).expire),
  AVal.imm
  (u16
  (z1 (getV l (1 : Int) % (256 : Int)) (getV (List.drop 1 l) (1 : Int) % (256 : Int)) (0 : Int) (decide (getV (List.drop 1 (List.drop 1 l)) (1 : Int) = (1 : Int)))
  (0 : Int)).code),
  AVal.imm (IVal.v (Value.slice none 0 0)),
  AVal.imm
  (st
  (z1 (getV l (1 : Int) % (256 : Int)) (getV (List.drop 1 l) (1 : Int) % (256 : Int)) (0 : Int) (decide (getV (List.drop 1 (List.drop 1 l)) (1 : Int) = (1 : Int)))
  (0 : Int)).text)]),
  (92, AVal.agg [AVal.imm (slE 1 u8 (List.drop 4 (List.drop 2 (List.drop 1 (List.drop 1 l)))))])]
  [] [AVal.ptr 0 0, AVal.ptr 1 0] errE)
  (Tree.need
  (errE = errE ∧
  [(42, AVal.imm z42), (4, AVal.imm (bo false))] =
  [(42,
  AVal.imm
  (IVal.agg
  [u8 (0 : Int), u8 (0 : Int), u16 (0 : Int), u32 (0 : Int), bo false, u32 (0 : Int), u8 (0 : Int), u64 (0 : Int), u64 (0 : Int), i64 (0 : Int), i64 (0 : Int), u32 (0 : Int),
  IVal.v (Value.slice none 0 0), u32 (0 : Int), u8 (0 : Int), u8 (0 : Int), u8 (0 : Int), u8 (0 : Int), u8 (0 : Int), u8 (0 : Int), u8 (0 : Int), u8 (0 : Int), u8 (0 : Int),
  u8 (0 : Int), u8 (0 : Int), u8 (0 : Int), u8 (0 : Int), u8 (0 : Int), u8 (0 : Int), u8 (0 : Int), i64 (0 : Int), u32 (0 : Int), u32 (0 : Int), u32 (0 : Int), u16 (0 : Int),
  IVal.v (Value.slice none 0 0), IVal.v (Value.string (ByteArray.mk (Array.mk [])))])),
  (4, AVal.imm (IVal.v (Value.bool false)))] ∧
  ls 0 = ls 0 ∧ ls 1 = ls 1 ∧ True)
  (Tree.done Exit.ret
  (lret
  (IVal.tup
  [IVal.agg
  [u8 (0 : Int), u8 (0 : Int), u16 (0 : Int), u32 (0 : Int), bo false, u32 (0 : Int), u8 (0 : Int), u64 (0 : Int), u64 (0 : Int), i64 (0 : Int), i64 (0 : Int), u32 (0 : Int),
  IVal.v (Value.slice none 0 0), u32 (0 : Int), u8 (0 : Int), u8 (0 : Int), u8 (0 : Int), u8 (0 : Int), u8 (0 : Int), u8 (0 : Int), u8 (0 : Int), u8 (0 : Int), u8 (0 : Int),
  u8 (0 : Int), u8 (0 : Int), u8 (0 : Int), u8 (0 : Int), u8 (0 : Int), u8 (0 : Int), u8 (0 : Int), i64 (0 : Int), u32 (0 : Int), u32 (0 : Int), u32 (0 : Int), u16 (0 : Int),
  IVal.v (Value.slice none 0 0), IVal.v (Value.string (ByteArray.mk (Array.mk [])))],
  IVal.v (Value.bool false)])))))))
  (Tree.need
  (ALeL [AVal.ptr 0 0, AVal.imm (IVal.v (Value.int IntKind.i64 (4 : Int)))] [AVal.ptr 0 0, AVal.imm (i64 (4 : Int))] ∧
  PSpec prog 76 [(92, AVal.agg [AVal.imm (slE 1 u8 (List.drop 2 (List.drop 1 (List.drop 1 l))))])] [] [AVal.ptr 0 0, AVal.imm (i64 (4 : Int))] errE)
  (Tree.need
  (errE = errE ∧
  [(42, AVal.imm z42), (4, AVal.imm (bo false))] =
  [(42,
  AVal.imm
  (IVal.agg
  [u8 (0 : Int), u8 (0 : Int), u16 (0 : Int), u32 (0 : Int), bo false, u32 (0 : Int), u8 (0 : Int), u64 (0 : Int), u64 (0 : Int), i64 (0 : Int), i64 (0 : Int), u32 (0 : Int),
  IVal.v (Value.slice none 0 0), u32 (0 : Int), u8 (0 : Int), u8 (0 : Int), u8 (0 : Int), u8 (0 : Int), u8 (0 : Int), u8 (0 : Int), u8 (0 : Int), u8 (0 : Int), u8 (0 : Int),
  u8 (0 : Int), u8 (0 : Int), u8 (0 : Int), u8 (0 : Int), u8 (0 : Int), u8 (0 : Int), u8 (0 : Int), i64 (0 : Int), u32 (0 : Int), u32 (0 : Int), u32 (0 : Int), u16 (0 : Int),
  IVal.v (Value.slice none 0 0), IVal.v (Value.string (ByteArray.mk (Array.mk [])))])),
  (4, AVal.imm (IVal.v (Value.bool false)))] ∧
  ls 0 = ls 0 ∧ ls 1 = ls 1 ∧ True)
  (Tree.done Exit.ret
  (lret
  (IVal.tup
  [IVal.agg
  [u8 (0 : Int), u8 (0 : Int), u16 (0 : Int), u32 (0 : Int), bo false, u32 (0 : Int), u8 (0 : Int), u64 (0 : Int), u64 (0 : Int), i64 (0 : Int), i64 (0 : Int), u32 (0 : Int),
  IVal.v (Value.slice none 0 0), u32 (0 : Int), u8 (0 : Int), u8 (0 : Int), u8 (0 : Int), u8 (0 : Int), u8 (0 : Int), u8 (0 : Int), u8 (0 : Int), u8 (0 : Int), u8 (0 : Int), u8 (0 : Int),
  u8 (0 : Int), u8 (0 : Int), u8 (0 : Int), u8 (0 : Int), u8 (0 : Int), u8 (0 : Int), i64 (0 : Int), u32 (0 : Int), u32 (0 : Int), u32 (0 : Int), u16 (0 : Int),
  IVal.v (Value.slice none 0 0), IVal.v (Value.string (ByteArray.mk (Array.mk [])))],
  IVal.v (Value.bool false)])))))))
  (Tree.need
  (ALeL [AVal.ptr 0 0, AVal.ptr 1 0] [AVal.ptr 0 0, AVal.ptr 1 0] ∧
  PSpec prog 65
  [(85,
  AVal.agg
  [AVal.imm (IVal.v (Value.int IntKind.u8 (IntKind.wrap IntKind.u8 (getV l (1 : Int))))), AVal.imm (IVal.v (Value.int IntKind.u8 (IntKind.wrap IntKind.u8 (getV (List.drop 1 l) (1 : Int))))),
  AVal.imm (IVal.v (Value.int IntKind.u16 (0 : Int))), AVal.imm (IVal.v (Value.int IntKind.u32 (0 : Int))), AVal.imm (IVal.v (Value.bool false)), AVal.imm (IVal.v (Value.int IntKind.u32 (0 : Int))),
  AVal.imm (IVal.v (Value.int IntKind.u8 (0 : Int))), AVal.imm (IVal.v (Value.int IntKind.u64 (0 : Int))), AVal.imm (IVal.v (Value.int IntKind.u64 (0 : Int))), AVal.imm (IVal.v (Value.int IntKind.i64 (0 : Int))),
  AVal.imm (IVal.v (Value.int IntKind.i64 (0 : Int))), AVal.imm (IVal.v (Value.int IntKind.u32 (0 : Int))), AVal.imm (IVal.v (Value.slice none 0 0)),
  AVal.imm (IVal.v (Value.int IntKind.u32 (0 : Int))), AVal.imm (IVal.v (Value.int IntKind.u8 (0 : Int))), AVal.imm (IVal.v (Value.int IntKind.u8 (0 : Int))), AVal.imm (IVal.v (Value.int IntKind.u8 (0 : Int))),
  AVal.imm (IVal.v (Value.int IntKind.u8 (0 : Int))), AVal.imm (IVal.v (Value.int IntKind.u8 (0 : Int))), AVal.imm (IVal.v (Value.int IntKind.u8 (0 : Int))), AVal.imm (IVal.v (Value.int IntKind.u8 (0 : Int))),
  AVal.imm (IVal.v (Value.int IntKind.u8 (0 : Int))), AVal.imm (IVal.v (Value.int IntKind.u8 (0 : Int))), AVal.imm (IVal.v (Value.int IntKind.u8 (0 : Int))), AVal.imm (IVal.v (Value.int IntKind.u8 (0 : Int))),
  AVal.imm (IVal.v (Value.int IntKind.u8 (0 : Int))), AVal.imm (IVal.v (Value.int IntKind.u8 (0 : Int))), AVal.imm (IVal.v (Value.int IntKind.u8 (0 : Int))), AVal.imm (IVal.v (Value.int IntKind.u8 (0 : Int))),
  AVal.imm (IVal.v (Value.int IntKind.u8 (0 : Int))), AVal.imm (IVal.v (Value.int IntKind.i64 (0 : Int))), AVal.imm (IVal.v (Value.int IntKind.u32 (0 : Int))), AVal.imm (IVal.v (Value.int IntKind.u32 (0 : Int))),
  AVal.imm (IVal.v (Value.int IntKind.u32 (0 : Int))), AVal.imm (IVal.v (Value.int IntKind.u16 (0 : Int))), AVal.imm (IVal.v (Value.slice none 0 0)),
  AVal.imm (IVal.v (Value.string (ByteArray.mk (Array.mk []))))]),
  (92, AVal.agg [AVal.imm (slE 1 u8 (List.drop 1 (List.drop 1 l)))])]
  [] [AVal.ptr 0 0, AVal.ptr 1 0] errE)
  (Tree.need
  (errE = errE ∧
  [(42, AVal.imm z42), (4, AVal.imm (bo false))] =
  [(42,
  AVal.imm
  (IVal.agg
  [u8 (0 : Int), u8 (0 : Int), u16 (0 : Int), u32 (0 : Int), bo false, u32 (0 : Int), u8 (0 : Int), u64 (0 : Int), u64 (0 : Int), i64 (0 : Int), i64 (0 : Int), u32 (0 : Int),
  IVal.v (Value.slice none 0 0), u32 (0 : Int), u8 (0 : Int), u8 (0 : Int), u8 (0 : Int), u8 (0 : Int), u8 (0 : Int), u8 (0 : Int), u8 (0 : Int), u8 (0 : Int), u8 (0 : Int), u8 (0 : Int),
  u8 (0 : Int), u8 (0 : Int), u8 (0 : Int), u8 (0 : Int), u8 (0 : Int), u8 (0 : Int), i64 (0 : Int), u32 (0 : Int), u32 (0 : Int), u32 (0 : Int), u16 (0 : Int),
  IVal.v (Value.slice none 0 0), IVal.v (Value.string (ByteArray.mk (Array.mk [])))])),
  (4, AVal.imm (IVal.v (Value.bool false)))] ∧
  ls 0 = ls 0 ∧ ls 1 = ls 1 ∧ True)
  (Tree.done Exit.ret
  (lret
  (IVal.tup
  [IVal.agg
  [u8 (0 : Int), u8 (0 : Int), u16 (0 : Int), u32 (0 : Int), bo false, u32 (0 : Int), u8 (0 : Int), u64 (0 : Int), u64 (0 : Int), i64 (0 : Int), i64 (0 : Int), u32 (0 : Int),
  IVal.v (Value.slice none 0 0), u32 (0 : Int), u8 (0 : Int), u8 (0 : Int), u8 (0 : Int), u8 (0 : Int), u8 (0 : Int), u8 (0 : Int), u8 (0 : Int), u8 (0 : Int), u8 (0 : Int), u8 (0 : Int),
  u8 (0 : Int), u8 (0 : Int), u8 (0 : Int), u8 (0 : Int), u8 (0 : Int), u8 (0 : Int), i64 (0 : Int), u32 (0 : Int), u32 (0 : Int), u32 (0 : Int), u16 (0 : Int), IVal.v (Value.slice none 0 0),
  IVal.v (Value.string (ByteArray.mk (Array.mk [])))],
  IVal.v (Value.bool false)]))))))))))
  (Tree.need
  (ALeL [AVal.ptr 0 0, AVal.imm (IVal.v (Value.int IntKind.i64 (1 : Int)))] [AVal.ptr 0 0, AVal.imm (i64 (1 : Int))] ∧
  PSpec prog 42 [(92, AVal.agg [AVal.imm (slE 1 u8 (List.drop 1 l))])] [] [AVal.ptr 0 0, AVal.imm (i64 (1 : Int))] errE)
  (Tree.need
  (errE = errE ∧
  [(42, AVal.imm z42), (4, AVal.imm (bo false))] =
  [(42,
  AVal.imm
  (IVal.agg
  [u8 (0 : Int), u8 (0 : Int), u16 (0 : Int), u32 (0 : Int), bo false, u32 (0 : Int), u8 (0 : Int), u64 (0 : Int), u64 (0 : Int), i64 (0 : Int), i64 (0 : Int), u32 (0 : Int),
  IVal.v (Value.slice none 0 0), u32 (0 : Int), u8 (0 : Int), u8 (0 : Int), u8 (0 : Int), u8 (0 : Int), u8 (0 : Int), u8 (0 : Int), u8 (0 : Int), u8 (0 : Int), u8 (0 : Int), u8 (0 : Int),
  u8 (0 : Int), u8 (0 : Int), u8 (0 : Int), u8 (0 : Int), u8 (0 : Int), u8 (0 : Int), i64 (0 : Int), u32 (0 : Int), u32 (0 : Int), u32 (0 : Int), u16 (0 : Int), IVal.v (Value.slice none 0 0),
  IVal.v (Value.string (ByteArray.mk (Array.mk [])))])),
  (4, AVal.imm (IVal.v (Value.bool false)))] ∧
  ls 0 = ls 0 ∧ ls 1 = ls 1 ∧ True)
  (Tree.done Exit.ret
  (lret
  (IVal.tup
  [IVal.agg
  [u8 (0 : Int), u8 (0 : Int), u16 (0 : Int), u32 (0 : Int), bo false, u32 (0 : Int), u8 (0 : Int), u64 (0 : Int), u64 (0 : Int), i64 (0 : Int), i64 (0 : Int), u32 (0 : Int), IVal.v (Value.slice none 0 0),
  u32 (0 : Int), u8 (0 : Int), u8 (0 : Int), u8 (0 : Int), u8 (0 : Int), u8 (0 : Int), u8 (0 : Int), u8 (0 : Int), u8 (0 : Int), u8 (0 : Int), u8 (0 : Int), u8 (0 : Int), u8 (0 : Int), u8 (0 : Int), u8 (0 : Int),
  u8 (0 : Int), u8 (0 : Int), i64 (0 : Int), u32 (0 : Int), u32 (0 : Int), u32 (0 : Int), u16 (0 : Int), IVal.v (Value.slice none 0 0), IVal.v (Value.string (ByteArray.mk (Array.mk [])))],
  IVal.v (Value.bool false)])))))))
  (Tree.need
  (ALeL [AVal.ptr 0 0, AVal.imm (IVal.v (Value.int IntKind.i64 (1 : Int)))] [AVal.ptr 0 0, AVal.imm (i64 (1 : Int))] ∧
  PSpec prog 42 [(92, AVal.agg [AVal.imm (slE 1 u8 l)])] [] [AVal.ptr 0 0, AVal.imm (i64 (1 : Int))] errE)
  (Tree.need
  (errE = errE ∧
  [(42, AVal.imm z42), (4, AVal.imm (bo false))] =
  [(42,
  AVal.imm
  (IVal.agg
  [u8 (0 : Int), u8 (0 : Int), u16 (0 : Int), u32 (0 : Int), bo false, u32 (0 : Int), u8 (0 : Int), u64 (0 : Int), u64 (0 : Int), i64 (0 : Int), i64 (0 : Int), u32 (0 : Int), IVal.v (Value.slice none 0 0),
  u32 (0 : Int), u8 (0 : Int), u8 (0 : Int), u8 (0 : Int), u8 (0 : Int), u8 (0 : Int), u8 (0 : Int), u8 (0 : Int), u8 (0 : Int), u8 (0 : Int), u8 (0 : Int), u8 (0 : Int), u8 (0 : Int), u8 (0 : Int), u8 (0 : Int),
  u8 (0 : Int), u8 (0 : Int), i64 (0 : Int), u32 (0 : Int), u32 (0 : Int), u32 (0 : Int), u16 (0 : Int), IVal.v (Value.slice none 0 0), IVal.v (Value.string (ByteArray.mk (Array.mk [])))])),
  (4, AVal.imm (IVal.v (Value.bool false)))] ∧
  ls 0 = ls 0 ∧ ls 1 = ls 1 ∧ True)
  (Tree.done Exit.ret
  (lret
  (IVal.tup
  [IVal.agg
  [u8 (0 : Int), u8 (0 : Int), u16 (0 : Int), u32 (0 : Int), bo false, u32 (0 : Int), u8 (0 : Int), u64 (0 : Int), u64 (0 : Int), i64 (0 : Int), i64 (0 : Int), u32 (0 : Int), IVal.v (Value.slice none 0 0),
  u32 (0 : Int), u8 (0 : Int), u8 (0 : Int), u8 (0 : Int), u8 (0 : Int), u8 (0 : Int), u8 (0 : Int), u8 (0 : Int), u8 (0 : Int), u8 (0 : Int), u8 (0 : Int), u8 (0 : Int), u8 (0 : Int), u8 (0 : Int), u8 (0 : Int),
  u8 (0 : Int), u8 (0 : Int), i64 (0 : Int), u32 (0 : Int), u32 (0 : Int), u32 (0 : Int), u16 (0 : Int), IVal.v (Value.slice none 0 0), IVal.v (Value.string (ByteArray.mk (Array.mk [])))],
  IVal.v (Value.bool false)]))))) := by kernel_rfl
def T35e (ls : Nat → Abs.Loc) (l : List Int) : Tell :=
  Tell.mk (fun x x_1 => false) (fun r i => if (r == 4 && i == 6) = true then Orc.look (AVal.imm form10) true else Orc.no) (fun x => Tree.fail 1000003 0) (fun x => 0) (fun x => ([], []))
  (ogetO (fun r i => if (r == 4 && i == 6) = true then Orc.look (AVal.imm form10) true else Orc.no)
  [(8, 3, 1,
  Orc.may (k76 l (1 : Int)) [6] 1 [AVal.ptr 0 0, AVal.imm (i64 (1 : Int))] errE
  (Orc.callg [6] 1 [AVal.ptr 0 0, AVal.imm (i64 (1 : Int))] [(92, AVal.agg [AVal.imm (slE 1 u8 (List.drop (Int.toNat (1 : Int)) l))])] [] (AVal.imm (u64 (getV l (1 : Int)))))),
  (8, 3, 4,
  Orc.may (k76 (List.drop 1 l) (1 : Int)) [6] 1 [AVal.ptr 0 0, AVal.imm (i64 (1 : Int))] errE
  (Orc.callg [6] 1 [AVal.ptr 0 0, AVal.imm (i64 (1 : Int))] [(92, AVal.agg [AVal.imm (slE 1 u8 (List.drop (Int.toNat (1 : Int)) (List.drop 1 l)))])] []
  (AVal.imm (u64 (getV (List.drop 1 l) (1 : Int)))))),
  (18, 4, 0, Orc.call [] (IVal.map ksF dsF)),
  (33, 7, 4,
  Orc.may (k50 (List.drop 1 (List.drop 1 l))) [16, 6] 2 [AVal.ptr 0 0, AVal.ptr 1 0] errE
  (Orc.callg [16, 6] 2 [AVal.ptr 0 0, AVal.ptr 1 0]
  (two (z1 (getV l (1 : Int) % (2 : Int) ^ IntKind.bits IntKind.u8) (getV (List.drop 1 l) (1 : Int) % (2 : Int) ^ IntKind.bits IntKind.u8) (0 : Int) false (gu16 (List.drop 1 (List.drop 1 l))))
  (List.drop 2 (List.drop 1 (List.drop 1 l))))
  [] (AVal.tup []))),
  (38, 8, 1,
  Orc.may (k76 (List.drop 2 (List.drop 1 (List.drop 1 l))) (4 : Int)) [6] 1 [AVal.ptr 0 0, AVal.imm (i64 (4 : Int))] errE
  (Orc.callg [6] 1 [AVal.ptr 0 0, AVal.imm (i64 (4 : Int))]
  [(92, AVal.agg [AVal.imm (slE 1 u8 (List.drop (Int.toNat (4 : Int)) (List.drop 2 (List.drop 1 (List.drop 1 l)))))])] []
  (AVal.imm (slE 1 u8 (List.take (Int.toNat (4 : Int)) (List.drop 2 (List.drop 1 (List.drop 1 l)))))))),
  (40, 9, 4,
  Orc.may (k71 (List.drop 4 (List.drop 2 (List.drop 1 (List.drop 1 l))))) [16, 6] 2 [AVal.ptr 0 0, AVal.ptr 1 0] errE
  (Orc.callg [16, 6] 2 [AVal.ptr 0 0, AVal.ptr 1 0]
  [(85,
  mC
  (zT (getV l (1 : Int) % (256 : Int)) (getV (List.drop 1 l) (1 : Int) % (256 : Int)) (0 : Int) false (gu16 (List.drop 1 (List.drop 1 l)))
  (bstr (fText (List.drop 4 (List.drop 2 (List.drop 1 (List.drop 1 l)))))))
  (AVal.imm (slF 1 u8 (fCopy (List.drop 4 (List.drop 2 (List.drop 1 (List.drop 1 l)))))))),
  (92, sR (fRest (List.drop 4 (List.drop 2 (List.drop 1 (List.drop 1 l))))))]
  [] (AVal.tup [])))])
  fun x x_1 => Tree.fail 1000003 0
theorem t35e (ls : Nat → Abs.Loc) (l : List Int) : levD prog Proofs.Try.f35 (σ35 l ls) (T35e ls l) ls [0, 1] (immB cells35) cells35 errE =
  Tree.br (k76 l (1 : Int))
  (Tree.need
  (ALeL [AVal.ptr 0 0, AVal.imm (IVal.v (Value.int IntKind.i64 (1 : Int)))] [AVal.ptr 0 0, AVal.imm (i64 (1 : Int))] ∧
  GSpec prog 42 [(92, AVal.agg [AVal.imm (slE 1 u8 l)])] [] [AVal.ptr 0 0, AVal.imm (i64 (1 : Int))] [(92, AVal.agg [AVal.imm (slE 1 u8 (List.drop 1 l))])] []
  (AVal.imm (u64 (getV l (1 : Int)))))
  (Tree.br (k76 (List.drop 1 l) (1 : Int))
  (Tree.need
  (ALeL [AVal.ptr 0 0, AVal.imm (IVal.v (Value.int IntKind.i64 (1 : Int)))] [AVal.ptr 0 0, AVal.imm (i64 (1 : Int))] ∧
  GSpec prog 42 [(92, AVal.agg [AVal.imm (slE 1 u8 (List.drop 1 l))])] [] [AVal.ptr 0 0, AVal.imm (i64 (1 : Int))]
  [(92, AVal.agg [AVal.imm (slE 1 u8 (List.drop 1 (List.drop 1 l)))])] [] (AVal.imm (u64 (getV (List.drop 1 l) (1 : Int)))))
  (Tree.need (ILeL [] [] ∧ ASpec prog 34 [] (IVal.map ksF dsF))
  (Tree.need
  (true = true ∧
  (if IntKind.wrap IntKind.u8 (getV (List.drop 1 l) (1 : Int)) = (0 : Int) then (AVal.imm (formI (0 : Int)), true)
  else
  if IntKind.wrap IntKind.u8 (getV (List.drop 1 l) (1 : Int)) = (1 : Int) then (AVal.imm (formI (1 : Int)), true)
  else
  if IntKind.wrap IntKind.u8 (getV (List.drop 1 l) (1 : Int)) = (2 : Int) then (AVal.imm (formI (2 : Int)), true)
  else
  if IntKind.wrap IntKind.u8 (getV (List.drop 1 l) (1 : Int)) = (8 : Int) then (AVal.imm (formI (8 : Int)), true)
  else
  if IntKind.wrap IntKind.u8 (getV (List.drop 1 l) (1 : Int)) = (4 : Int) then (AVal.imm (formI (4 : Int)), true)
  else
  if IntKind.wrap IntKind.u8 (getV (List.drop 1 l) (1 : Int)) = (6 : Int) then (AVal.imm (formI (6 : Int)), true)
  else
  if IntKind.wrap IntKind.u8 (getV (List.drop 1 l) (1 : Int)) = (3 : Int) then (AVal.imm (formI (3 : Int)), true)
  else
  if IntKind.wrap IntKind.u8 (getV (List.drop 1 l) (1 : Int)) = (7 : Int) then (AVal.imm (formI (7 : Int)), true)
  else
  if IntKind.wrap IntKind.u8 (getV (List.drop 1 l) (1 : Int)) = (9 : Int) then (AVal.imm (formI (9 : Int)), true)
  else
  if IntKind.wrap IntKind.u8 (getV (List.drop 1 l) (1 : Int)) = (10 : Int) then (AVal.imm (formI (10 : Int)), true)
  else
  if IntKind.wrap IntKind.u8 (getV (List.drop 1 l) (1 : Int)) = (11 : Int) then (AVal.imm (formI (11 : Int)), true)
  else (AVal.imm (IVal.agg [IVal.v Value.nilFunc, IVal.v Value.nilFunc, IVal.v Value.nilFunc, IVal.v Value.nilFunc, IVal.v Value.nilFunc]), false)) =
  (AVal.imm form10, true))
  (Tree.br false
  (Tree.done Exit.ret
  (lret
  (IVal.tup
  [IVal.agg
  [IVal.v (Value.int IntKind.u8 (0 : Int)), IVal.v (Value.int IntKind.u8 (0 : Int)), IVal.v (Value.int IntKind.u16 (0 : Int)), IVal.v (Value.int IntKind.u32 (0 : Int)), IVal.v (Value.bool false),
  IVal.v (Value.int IntKind.u32 (0 : Int)), IVal.v (Value.int IntKind.u8 (0 : Int)), IVal.v (Value.int IntKind.u64 (0 : Int)), IVal.v (Value.int IntKind.u64 (0 : Int)), IVal.v (Value.int IntKind.i64 (0 : Int)),
  IVal.v (Value.int IntKind.i64 (0 : Int)), IVal.v (Value.int IntKind.u32 (0 : Int)), IVal.v (Value.slice none 0 0), IVal.v (Value.int IntKind.u32 (0 : Int)), IVal.v (Value.int IntKind.u8 (0 : Int)),
  IVal.v (Value.int IntKind.u8 (0 : Int)), IVal.v (Value.int IntKind.u8 (0 : Int)), IVal.v (Value.int IntKind.u8 (0 : Int)), IVal.v (Value.int IntKind.u8 (0 : Int)), IVal.v (Value.int IntKind.u8 (0 : Int)),
  IVal.v (Value.int IntKind.u8 (0 : Int)), IVal.v (Value.int IntKind.u8 (0 : Int)), IVal.v (Value.int IntKind.u8 (0 : Int)), IVal.v (Value.int IntKind.u8 (0 : Int)), IVal.v (Value.int IntKind.u8 (0 : Int)),
  IVal.v (Value.int IntKind.u8 (0 : Int)), IVal.v (Value.int IntKind.u8 (0 : Int)), IVal.v (Value.int IntKind.u8 (0 : Int)), IVal.v (Value.int IntKind.u8 (0 : Int)), IVal.v (Value.int IntKind.u8 (0 : Int)),
  IVal.v (Value.int IntKind.i64 (0 : Int)), IVal.v (Value.int IntKind.u32 (0 : Int)), IVal.v (Value.int IntKind.u32 (0 : Int)), IVal.v (Value.int IntKind.u32 (0 : Int)), IVal.v (Value.int IntKind.u16 (0 : Int)),
  IVal.v (Value.slice none 0 0), IVal.v (Value.string (ByteArray.mk (Array.mk [])))],
  IVal.v (Value.bool false)])))
  (Tree.br (k50 (List.drop 1 (List.drop 1 l)))
  (Tree.need
  (ALeL [AVal.ptr 0 0, AVal.ptr 1 0] [AVal.ptr 0 0, AVal.ptr 1 0] ∧
  GSpec prog 70
  [(85,
  AVal.agg
  [AVal.imm (IVal.v (Value.int IntKind.u8 (IntKind.wrap IntKind.u8 (getV l (1 : Int))))), AVal.imm (IVal.v (Value.int IntKind.u8 (IntKind.wrap IntKind.u8 (getV (List.drop 1 l) (1 : Int))))),
  AVal.imm (IVal.v (Value.int IntKind.u16 (0 : Int))), AVal.imm (IVal.v (Value.int IntKind.u32 (0 : Int))), AVal.imm (IVal.v (Value.bool false)), AVal.imm (IVal.v (Value.int IntKind.u32 (0 : Int))),
  AVal.imm (IVal.v (Value.int IntKind.u8 (0 : Int))), AVal.imm (IVal.v (Value.int IntKind.u64 (0 : Int))), AVal.imm (IVal.v (Value.int IntKind.u64 (0 : Int))), AVal.imm (IVal.v (Value.int IntKind.i64 (0 : Int))),
  AVal.imm (IVal.v (Value.int IntKind.i64 (0 : Int))), AVal.imm (IVal.v (Value.int IntKind.u32 (0 : Int))), AVal.imm (IVal.v (Value.slice none 0 0)),
  AVal.imm (IVal.v (Value.int IntKind.u32 (0 : Int))), AVal.imm (IVal.v (Value.int IntKind.u8 (0 : Int))), AVal.imm (IVal.v (Value.int IntKind.u8 (0 : Int))), AVal.imm (IVal.v (Value.int IntKind.u8 (0 : Int))),
  AVal.imm (IVal.v (Value.int IntKind.u8 (0 : Int))), AVal.imm (IVal.v (Value.int IntKind.u8 (0 : Int))), AVal.imm (IVal.v (Value.int IntKind.u8 (0 : Int))), AVal.imm (IVal.v (Value.int IntKind.u8 (0 : Int))),
  AVal.imm (IVal.v (Value.int IntKind.u8 (0 : Int))), AVal.imm (IVal.v (Value.int IntKind.u8 (0 : Int))), AVal.imm (IVal.v (Value.int IntKind.u8 (0 : Int))), AVal.imm (IVal.v (Value.int IntKind.u8 (0 : Int))),
  AVal.imm (IVal.v (Value.int IntKind.u8 (0 : Int))), AVal.imm (IVal.v (Value.int IntKind.u8 (0 : Int))), AVal.imm (IVal.v (Value.int IntKind.u8 (0 : Int))), AVal.imm (IVal.v (Value.int IntKind.u8 (0 : Int))),
  AVal.imm (IVal.v (Value.int IntKind.u8 (0 : Int))), AVal.imm (IVal.v (Value.int IntKind.i64 (0 : Int))), AVal.imm (IVal.v (Value.int IntKind.u32 (0 : Int))), AVal.imm (IVal.v (Value.int IntKind.u32 (0 : Int))),
  AVal.imm (IVal.v (Value.int IntKind.u32 (0 : Int))), AVal.imm (IVal.v (Value.int IntKind.u16 (0 : Int))), AVal.imm (IVal.v (Value.slice none 0 0)),
  AVal.imm (IVal.v (Value.string (ByteArray.mk (Array.mk []))))]),
  (92, AVal.agg [AVal.imm (slE 1 u8 (List.drop 1 (List.drop 1 l)))])]
  [] [AVal.ptr 0 0, AVal.ptr 1 0]
  (two (z1 (getV l (1 : Int) % (256 : Int)) (getV (List.drop 1 l) (1 : Int) % (256 : Int)) (0 : Int) false (gu16 (List.drop 1 (List.drop 1 l))))
  (List.drop 2 (List.drop 1 (List.drop 1 l))))
  [] (AVal.tup []))
  (Tree.br (k76 (List.drop 2 (List.drop 1 (List.drop 1 l))) (4 : Int))
  (Tree.need
  (ALeL [AVal.ptr 0 0, AVal.imm (IVal.v (Value.int IntKind.i64 (4 : Int)))] [AVal.ptr 0 0, AVal.imm (i64 (4 : Int))] ∧
  GSpec prog 76 [(92, AVal.agg [AVal.imm (slE 1 u8 (List.drop 2 (List.drop 1 (List.drop 1 l))))])] [] [AVal.ptr 0 0, AVal.imm (i64 (4 : Int))]
  [(92, AVal.agg [AVal.imm (slE 1 u8 (List.drop 4 (List.drop 2 (List.drop 1 (List.drop 1 l)))))])] []
  (AVal.imm (slE 1 u8 (List.take 4 (List.drop 2 (List.drop 1 (List.drop 1 l)))))))
  (Tree.br (k71 (List.drop 4 (List.drop 2 (List.drop 1 (List.drop 1 l)))))
  (Tree.need
  (ALeL [AVal.ptr 0 0, AVal.ptr 1 0] [AVal.ptr 0 0, AVal.ptr 1 0] ∧
  GSpec prog 71
  [(85,
  AVal.agg
  [AVal.imm (u8 (z1 (getV l (1 : Int) % (256 : Int)) (getV (List.drop 1 l) (1 : Int) % (256 : Int)) (0 : Int) false (gu16 (List.drop 1 (List.drop 1 l)))).version),
  AVal.imm (u8 (z1 (getV l (1 : Int) % (256 : Int)) (getV (List.drop 1 l) (1 : Int) % (256 : Int)) (0 : Int) false (gu16 (List.drop 1 (List.drop 1 l)))).kind),
  AVal.imm (u16 (z1 (getV l (1 : Int) % (256 : Int)) (getV (List.drop 1 l) (1 : Int) % (256 : Int)) (0 : Int) false (gu16 (List.drop 1 (List.drop 1 l)))).session),
  AVal.imm (u32 (z1 (getV l (1 : Int) % (256 : Int)) (getV (List.drop 1 l) (1 : Int) % (256 : Int)) (0 : Int) false (gu16 (List.drop 1 (List.drop 1 l)))).serial),
  AVal.imm (bo (z1 (getV l (1 : Int) % (256 : Int)) (getV (List.drop 1 l) (1 : Int) % (256 : Int)) (0 : Int) false (gu16 (List.drop 1 (List.drop 1 l)))).add),
  AVal.imm (u32 (z1 (getV l (1 : Int) % (256 : Int)) (getV (List.drop 1 l) (1 : Int) % (256 : Int)) (0 : Int) false (gu16 (List.drop 1 (List.drop 1 l)))).origin.asn),
  AVal.imm (u8 (z1 (getV l (1 : Int) % (256 : Int)) (getV (List.drop 1 l) (1 : Int) % (256 : Int)) (0 : Int) false (gu16 (List.drop 1 (List.drop 1 l)))).origin.pfx.fam),
  AVal.imm (u64 (z1 (getV l (1 : Int) % (256 : Int)) (getV (List.drop 1 l) (1 : Int) % (256 : Int)) (0 : Int) false (gu16 (List.drop 1 (List.drop 1 l)))).origin.pfx.addr.hi),
  AVal.imm (u64 (z1 (getV l (1 : Int) % (256 : Int)) (getV (List.drop 1 l) (1 : Int) % (256 : Int)) (0 : Int) false (gu16 (List.drop 1 (List.drop 1 l)))).origin.pfx.addr.lo),
  AVal.imm (i64 (z1 (getV l (1 : Int) % (256 : Int)) (getV (List.drop 1 l) (1 : Int) % (256 : Int)) (0 : Int) false (gu16 (List.drop 1 (List.drop 1 l)))).origin.pfx.len),
  AVal.imm (i64 (z1 (getV l (1 : Int) % (256 : Int)) (getV (List.drop 1 l) (1 : Int) % (256 : Int)) (0 : Int) false (gu16 (List.drop 1 (List.drop 1 l)))).origin.max),
  AVal.imm (u32 (z1 (getV l (1 : Int) % (256 : Int)) (getV (List.drop 1 l) (1 : Int) % (256 : Int)) (0 : Int) false (gu16 (List.drop 1 (List.drop 1 l)))).path.cust),
  AVal.imm (IVal.v (Value.slice none 0 0)),
  AVal.imm (u32 (z1 (getV l (1 : Int) % (256 : Int)) (getV (List.drop 1 l) (1 : Int) % (256 : Int)) (0 : Int) false (gu16 (List.drop 1 (List.drop 1 l)))).key.asn),
  AVal.imm (u8 (0 : Int)), AVal.imm (u8 (0 : Int)), AVal.imm (u8 (0 : Int)), AVal.imm (u8 (0 : Int)), AVal.imm (u8 (0 : Int)), AVal.imm (u8 (0 : Int)), AVal.imm (u8 (0 : Int)), AVal.imm (u8 (0 : Int)),
  AVal.imm (u8 (0 : Int)), AVal.imm (u8 (0 : Int)), AVal.imm (u8 (0 : Int)), AVal.imm (u8 (0 : Int)), AVal.imm (u8 (0 : Int)), AVal.imm (u8 (0 : Int)), AVal.imm (u8 (0 : Int)), AVal.imm (u8 (0 : Int)),
  AVal.imm (i64 (z1 (getV l (1 : Int) % (256 : Int)) (getV (List.drop 1 l) (1 : Int) % (256 : Int)) (0 : Int) false (gu16 (List.drop 1 (List.drop 1 l)))).key.height),
  AVal.imm (u32 (z1 (getV l (1 : Int) % (256 : Int)) (getV (List.drop 1 l) (1 : Int) % (256 : Int)) (0 : Int) false (gu16 (List.drop 1 (List.drop 1 l)))).refresh),
  AVal.imm (u32 (z1 (getV l (1 : Int) % (256 : Int)) (getV (List.drop 1 l) (1 : Int) % (256 : Int)) (0 : Int) false (gu16 (List.drop 1 (List.drop 1 l)))).retry),
  AVal.imm (u32 (z1 (getV l (1 : Int) % (256 : Int)) (getV (List.drop 1 l) (1 : Int) % (256 : Int)) (0 : Int) false (gu16 (List.drop 1 (List.drop 1 l)))).expire),
  AVal.imm (u16 (z1 (getV l (1 : Int) % (256 : Int)) (getV (List.drop 1 l) (1 : Int) % (256 : Int)) (0 : Int) false (gu16 (List.drop 1 (List.drop 1 l)))).code),
  AVal.imm (IVal.v (Value.slice none 0 0)),
  AVal.imm (st (z1 (getV l (1 : Int) % (256 : Int)) (getV (List.drop 1 l) (1 : Int) % (256 : Int)) (0 : Int) false (gu16 (List.drop 1 (List.drop 1 l)))).text)]),
  (92, AVal.agg [AVal.imm (slE 1 u8 (List.drop 4 (List.drop 2 (List.drop 1 (List.drop 1 l)))))])]
  [] [AVal.ptr 0 0, AVal.ptr 1 0]
  [(85,
  mC
  (zT (getV l (1 : Int) % (256 : Int)) (getV (List.drop 1 l) (1 : Int) % (256 : Int)) (0 : Int) false (gu16 (List.drop 1 (List.drop 1 l)))
  (List.foldl (fun r n => ByteArray.push r (UInt8.ofNat (Int.toNat n))) (ByteArray.mk (Array.mk [])) (fText (List.drop 4 (List.drop 2 (List.drop 1 (List.drop 1 l)))))))
  (AVal.imm (slF 1 u8 (fCopy (List.drop 4 (List.drop 2 (List.drop 1 (List.drop 1 l)))))))),
  (92, sR (fRest (List.drop 4 (List.drop 2 (List.drop 1 (List.drop 1 l))))))]
  [] (AVal.tup []))
  (Tree.done Exit.ret
  (lret
  (IVal.tup
  [IVal.agg
  [u8
  (zT (getV l (1 : Int) % (256 : Int)) (getV (List.drop 1 l) (1 : Int) % (256 : Int)) (0 : Int) false (gu16 (List.drop 1 (List.drop 1 l)))
  (List.foldl (fun r n => ByteArray.push r (UInt8.ofNat (Int.toNat n))) (ByteArray.mk (Array.mk []))
  (fText (List.drop 4 (List.drop 2 (List.drop 1 (List.drop 1 l))))))).version,
  u8
  (zT (getV l (1 : Int) % (256 : Int)) (getV (List.drop 1 l) (1 : Int) % (256 : Int)) (0 : Int) false (gu16 (List.drop 1 (List.drop 1 l)))
  (List.foldl (fun r n => ByteArray.push r (UInt8.ofNat (Int.toNat n))) (ByteArray.mk (Array.mk []))
  (fText (List.drop 4 (List.drop 2 (List.drop 1 (List.drop 1 l))))))).kind,
  u16
  (zT (getV l (1 : Int) % (256 : Int)) (getV (List.drop 1 l) (1 : Int) % (256 : Int)) (0 : Int) false (gu16 (List.drop 1 (List.drop 1 l)))
  (List.foldl (fun r n => ByteArray.push r (UInt8.ofNat (Int.toNat n))) (ByteArray.mk (Array.mk []))
  (fText (List.drop 4 (List.drop 2 (List.drop 1 (List.drop 1 l))))))).session,
  u32
  (zT (getV l (1 : Int) % (256 : Int)) (getV (List.drop 1 l) (1 : Int) % (256 : Int)) (0 : Int) false (gu16 (List.drop 1 (List.drop 1 l)))
  (List.foldl (fun r n => ByteArray.push r (UInt8.ofNat (Int.toNat n))) (ByteArray.mk (Array.mk []))
  (fText (List.drop 4 (List.drop 2 (List.drop 1 (List.drop 1 l))))))).serial,
  bo
  (zT (getV l (1 : Int) % (256 : Int)) (getV (List.drop 1 l) (1 : Int) % (256 : Int)) (0 : Int) false (gu16 (List.drop 1 (List.drop 1 l)))
  (List.foldl (fun r n => ByteArray.push r (UInt8.ofNat (Int.toNat n))) (ByteArray.mk (Array.mk []))
  (fText (List.drop 4 (List.drop 2 (List.drop 1 (List.drop 1 l))))))).add,
  u32
  (zT (getV l (1 : Int) % (256 : Int)) (getV (List.drop 1 l) (1 : Int) % (256 : Int)) (0 : Int) false (gu16 (List.drop 1 (List.drop 1 l)))
  (List.foldl (fun r n => ByteArray.push r (UInt8.ofNat (Int.toNat n))) (ByteArray.mk (Array.mk []))
  (fText (List.drop 4 (List.drop 2 (List.drop 1 (List.drop 1 l))))))).origin.asn,
  u8
  (zT (getV l (1 : Int) % (256 : Int)) (getV (List.drop 1 l) (1 : Int) % (256 : Int)) (0 : Int) false (gu16 (List.drop 1 (List.drop 1 l)))
  (List.foldl (fun r n => ByteArray.push r (UInt8.ofNat (Int.toNat n))) (ByteArray.mk (Array.mk []))
  (fText (List.drop 4 (List.drop 2 (List.drop 1 (List.drop 1 l))))))).origin.pfx.fam,
  u64
  (zT (getV l (1 : Int) % (256 : Int)) (getV (List.drop 1 l) (1 : Int) % (256 : Int)) (0 : Int) false (gu16 (List.drop 1 (List.drop 1 l)))
  (List.foldl (fun r n => ByteArray.push r (UInt8.ofNat (Int.toNat n))) (ByteArray.mk (Array.mk []))
  (fText (List.drop 4 (List.drop 2 (List.drop 1 (List.drop 1 l))))))).origin.pfx.addr.hi,
  u64
  (zT (getV l (1 : Int) % (256 : Int)) (getV (List.drop 1 l) (1 : Int) % (256 : Int)) (0 : Int) false (gu16 (List.drop 1 (List.drop 1 l)))
  (List.foldl (fun r n => ByteArray.push r (UInt8.ofNat (Int.toNat n))) (ByteArray.mk (Array.mk []))
  (fText (List.drop 4 (List.drop 2 (List.drop 1 (List.drop 1 l))))))).origin.pfx.addr.lo,
  i64
  (zT (getV l (1 : Int) % (256 : Int)) (getV (List.drop 1 l) (1 : Int) % (256 : Int)) (0 : Int) false (gu16 (List.drop 1 (List.drop 1 l)))
  (List.foldl (fun r n => ByteArray.push r (UInt8.ofNat (Int.toNat n))) (ByteArray.mk (Array.mk []))
  (fText (List.drop 4 (List.drop 2 (List.drop 1 (List.drop 1 l))))))).origin.pfx.len,
  i64
  (zT (getV l (1 : Int) % (256 : Int)) (getV (List.drop 1 l) (1 : Int) % (256 : Int)) (0 : Int) false (gu16 (List.drop 1 (List.drop 1 l)))
  (List.foldl (fun r n => ByteArray.push r (UInt8.ofNat (Int.toNat n))) (ByteArray.mk (Array.mk []))
  (fText (List.drop 4 (List.drop 2 (List.drop 1 (List.drop 1 l))))))).origin.max,
  u32
  (zT (getV l (1 : Int) % (256 : Int)) (getV (List.drop 1 l) (1 : Int) % (256 : Int)) (0 : Int) false (gu16 (List.drop 1 (List.drop 1 l)))
  (List.foldl (fun r n => ByteArray.push r (UInt8.ofNat (Int.toNat n))) (ByteArray.mk (Array.mk []))
  (fText (List.drop 4 (List.drop 2 (List.drop 1 (List.drop 1 l))))))).path.cust,
  IVal.v (Value.slice none 0 0),
  u32
  (zT (getV l (1 : Int) % (256 : Int)) (getV (List.drop 1 l) (1 : Int) % (256 : Int)) (0 : Int) false (gu16 (List.drop 1 (List.drop 1 l)))
  (List.foldl (fun r n => ByteArray.push r (UInt8.ofNat (Int.toNat n))) (ByteArray.mk (Array.mk []))
  (fText (List.drop 4 (List.drop 2 (List.drop 1 (List.drop 1 l))))))).key.asn,
  u8 (0 : Int), u8 (0 : Int), u8 (0 : Int), u8 (0 : Int), u8 (0 : Int), u8 (0 : Int), u8 (0 : Int), u8 (0 : Int), u8 (0 : Int), u8 (0 : Int), u8 (0 : Int), u8 (0 : Int), u8 (0 : Int), u8 (0 : Int),
  u8 (0 : Int), u8 (0 : Int),
  i64
  (zT (getV l (1 : Int) % (256 : Int)) (getV (List.drop 1 l) (1 : Int) % (256 : Int)) (0 : Int) false (gu16 (List.drop 1 (List.drop 1 l)))
  (List.foldl (fun r n => ByteArray.push r (UInt8.ofNat (Int.toNat n))) (ByteArray.mk (Array.mk []))
  (fText (List.drop 4 (List.drop 2 (List.drop 1 (List.drop 1 l))))))).key.height,
  u32
  (zT (getV l (1 : Int) % (256 : Int)) (getV (List.drop 1 l) (1 : Int) % (256 : Int)) (0 : Int) false (gu16 (List.drop 1 (List.drop 1 l)))
  (List.foldl (fun r n => ByteArray.push r (UInt8.ofNat (Int.toNat n))) (ByteArray.mk (Array.mk []))
  (fText (List.drop 4 (List.drop 2 (List.drop 1 (List.drop 1 l))))))).refresh,
  u32
  (zT (getV l (1 : Int) % (256 : Int)) (getV (List.drop 1 l) (1 : Int) % (256 : Int)) (0 : Int) false (gu16 (List.drop 1 (List.drop 1 l)))
  (List.foldl (fun r n => ByteArray.push r (UInt8.ofNat (Int.toNat n))) (ByteArray.mk (Array.mk []))
  (fText (List.drop 4 (List.drop 2 (List.drop 1 (List.drop 1 l))))))).retry,
  u32
  (zT (getV l (1 : Int) % (256 : Int)) (getV (List.drop 1 l) (1 : Int) % (256 : Int)) (0 : Int) false (gu16 (List.drop 1 (List.drop 1 l)))
  (List.foldl (fun r n => ByteArray.push r (UInt8.ofNat (Int.toNat n))) (ByteArray.mk (Array.mk []))
  (fText (List.drop 4 (List.drop 2 (List.drop 1 (List.drop 1 l))))))).expire,
  u16
  (zT (getV l (1 : Int) % (256 : Int)) (getV (List.drop 1 l) (1 : Int) % (256 : Int)) (0 : Int) false (gu16 (List.drop 1 (List.drop 1 l)))
  (List.foldl (fun r n => ByteArray.push r (UInt8.ofNat (Int.toNat n))) (ByteArray.mk (Array.mk []))
  (fText (List.drop 4 (List.drop 2 (List.drop 1 (List.drop 1 l))))))).code,
  slF 1 u8 (fCopy (List.drop 4 (List.drop 2 (List.drop 1 (List.drop 1 l))))),
  st
  (zT (getV l (1 : Int) % (256 : Int)) (getV (List.drop 1 l) (1 : Int) % (256 : Int)) (0 : Int) false (gu16 (List.drop 1 (List.drop 1 l)))
  (List.foldl (fun r n => ByteArray.push r (UInt8.ofNat (Int.toNat n))) (ByteArray.mk (Array.mk []))
  (fText (List.drop 4 (List.drop 2 (List.drop 1 (List.drop 1 l))))))).text],
  IVal.v (Value.bool (decide ((↑(List.length (List.map u8 (fRest (List.drop 4 (List.drop 2 (List.drop 1 (List.drop 1 l))))))) : Int) = (0 : Int))))]))))
  (Tree.need
  (ALeL [AVal.ptr 0 0, AVal.ptr 1 0] [AVal.ptr 0 0, AVal.ptr 1 0] ∧
  PSpec prog 71
  [(85,
  AVal.agg
  [AVal.imm (u8 (z1 (getV l (1 : Int) % (256 : Int)) (getV (List.drop 1 l) (1 : Int) % (256 : Int)) (0 : Int) false (gu16 (List.drop 1 (List.drop 1 l)))).version),
  AVal.imm (u8 (z1 (getV l (1 : Int) % (256 : Int)) (getV (List.drop 1 l) (1 : Int) % (256 : Int)) (0 : Int) false (gu16 (List.drop 1 (List.drop 1 l)))).kind),
  AVal.imm (u16 (z1 (getV l (1 : Int) % (256 : Int)) (getV (List.drop 1 l) (1 : Int) % (256 : Int)) (0 : Int) false (gu16 (List.drop 1 (List.drop 1 l)))).session),
  AVal.imm (u32 (z1 (getV l (1 : Int) % (256 : Int)) (getV (List.drop 1 l) (1 : Int) % (256 : Int)) (0 : Int) false (gu16 (List.drop 1 (List.drop 1 l)))).serial),
  AVal.imm (bo (z1 (getV l (1 : Int) % (256 : Int)) (getV (List.drop 1 l) (1 : Int) % (256 : Int)) (0 : Int) false (gu16 (List.drop 1 (List.drop 1 l)))).add),
  AVal.imm (u32 (z1 (getV l (1 : Int) % (256 : Int)) (getV (List.drop 1 l) (1 : Int) % (256 : Int)) (0 : Int) false (gu16 (List.drop 1 (List.drop 1 l)))).origin.asn),
  AVal.imm (u8 (z1 (getV l (1 : Int) % (256 : Int)) (getV (List.drop 1 l) (1 : Int) % (256 : Int)) (0 : Int) false (gu16 (List.drop 1 (List.drop 1 l)))).origin.pfx.fam),
  AVal.imm (u64 (z1 (getV l (1 : Int) % (256 : Int)) (getV (List.drop 1 l) (1 : Int) % (256 : Int)) (0 : Int) false (gu16 (List.drop 1 (List.drop 1 l)))).origin.pfx.addr.hi),
  AVal.imm (u64 (z1 (getV l (1 : Int) % (256 : Int)) (getV (List.drop 1 l) (1 : Int) % (256 : Int)) (0 : Int) false (gu16 (List.drop 1 (List.drop 1 l)))).origin.pfx.addr.lo),
  AVal.imm (i64 (z1 (getV l (1 : Int) % (256 : Int)) (getV (List.drop 1 l) (1 : Int) % (256 : Int)) (0 : Int) false (gu16 (List.drop 1 (List.drop 1 l)))).origin.pfx.len),
  AVal.imm (i64 (z1 (getV l (1 : Int) % (256 : Int)) (getV (List.drop 1 l) (1 : Int) % (256 : Int)) (0 : Int) false (gu16 (List.drop 1 (List.drop 1 l)))).origin.max),
  AVal.imm (u32 (z1 (getV l (1 : Int) % (256 : Int)) (getV (List.drop 1 l) (1 : Int) % (256 : Int)) (0 : Int) false (gu16 (List.drop 1 (List.drop 1 l)))).path.cust),
  AVal.imm (IVal.v (Value.slice none 0 0)),
  AVal.imm (u32 (z1 (getV l (1 : Int) % (256 : Int)) (getV (List.drop 1 l) (1 : Int) % (256 : Int)) (0 : Int) false (gu16 (List.drop 1 (List.drop 1 l)))).key.asn),
  AVal.imm (u8 (0 : Int)), AVal.imm (u8 (0 : Int)), AVal.imm (u8 (0 : Int)), AVal.imm (u8 (0 : Int)), AVal.imm (u8 (0 : Int)), AVal.imm (u8 (0 : Int)), AVal.imm (u8 (0 : Int)), AVal.imm (u8 (0 : Int)),
  AVal.imm (u8 (0 : Int)), AVal.imm (u8 (0 : Int)), AVal.imm (u8 (0 : Int)), AVal.imm (u8 (0 : Int)), AVal.imm (u8 (0 : Int)), AVal.imm (u8 (0 : Int)), AVal.imm (u8 (0 : Int)), AVal.imm (u8 (0 : Int)),
  AVal.imm (i64 (z1 (getV l (1 : Int) % (256 : Int)) (getV (List.drop 1 l) (1 : Int) % (256 : Int)) (0 : Int) false (gu16 (List.drop 1 (List.drop 1 l)))).key.height),
  AVal.imm (u32 (z1 (getV l (1 : Int) % (256 : Int)) (getV (List.drop 1 l) (1 : Int) % (256 : Int)) (0 : Int) false (gu16 (List.drop 1 (List.drop 1 l)))).refresh),
  AVal.imm (u32 (z1 (getV l (1 : Int) % (256 : Int)) (getV (List.drop 1 l) (1 : Int) % (256 : Int)) (0 : Int) false (gu16 (List.drop 1 (List.drop 1 l)))).retry),
  AVal.imm (u32 (z1 (getV l (1 : Int) % (256 : Int)) (getV (List.drop 1 l) (1 : Int) % (256 : Int)) (0 : Int) false (gu16 (List.drop 1 (List.drop 1 l)))).expire),
  AVal.imm (u16 (z1 (getV l (1 : Int) % (256 : Int)) (getV (List.drop 1 l) (1 : Int) % (256 : Int)) (0 : Int) false (gu16 (List.drop 1 (List.drop 1 l)))).code),
  AVal.imm (IVal.v (Value.slice none 0 0)),
  AVal.imm (st (z1 (getV l (1 : Int) % (256 : Int)) (getV (List.drop 1 l) (1 : Int) % (256 : Int)) (0 : Int) false (gu16 (List.drop 1 (List.drop 1 l)))).text)]),
  (92, AVal.agg [AVal.imm (slE 1 u8 (List.drop 4 (List.drop 2 (List.drop 1 (List.drop 1 l)))))])]
  [] [AVal.ptr 0 0, AVal.ptr 1 0] errE)
  (Tree.need
  (errE = errE ∧
  [(42, AVal.imm z42), (4, AVal.imm (bo false))] =
  [(42,
  AVal.imm
  (IVal.agg
  [u8 (0 : Int), u8 (0 : Int), u16 (0 : Int), u32 (0 : Int), bo false, u32 (0 : Int), u8 (0 : Int), u64 (0 : Int), u64 (0 : Int), i64 (0 : Int), i64 (0 : Int), u32 (0 : Int),
  IVal.v (Value.slice none 0 0), u32 (0 : Int), u8 (0 : Int), u8 (0 : Int), u8 (0 : Int), u8 (0 : Int), u8 (0 : Int), u8 (0 : Int), u8 (0 : Int), u8 (0 : Int), u8 (0 : Int),
  u8 (0 : Int), u8 (0 : Int), u8 (0 : Int), u8 (0 : Int), u8 (0 : Int), u8 (0 : Int), u8 (0 : Int), i64 (0 : Int), u32 (0 : Int), u32 (0 : Int), u32 (0 : Int), u16 (0 : Int),
  IVal.v (Value.slice none 0 0), IVal.v (Value.string (ByteArray.mk (Array.mk [])))])),
  (4, AVal.imm (IVal.v (Value.bool false)))] ∧
  ls 0 = ls 0 ∧ ls 1 = ls 1 ∧ True)
  (Tree.done Exit.ret
  (lret
  (IVal.tup
  [IVal.agg
  [u8 (0 : Int), u8 (0 : Int), u16 (0 : Int), u32 (0 : Int), bo false, u32 (0 : Int), u8 (0 : Int), u64 (0 : Int), u64 (0 : Int), i64 (0 : Int), i64 (0 : Int), u32 (0 : Int),
  IVal.v (Value.slice none 0 0), u32 (0 : Int), u8 (0 : Int), u8 (0 : Int), u8 (0 : Int), u8 (0 : Int), u8 (0 : Int), u8 (0 : Int), u8 (0 : Int), u8 (0 : Int), u8 (0 : Int),
  u8 (0 : Int), u8 (0 : Int), u8 (0 : Int), u8 (0 : Int), u8 (0 : Int), u8 (0 : Int), u8 (0 : Int), i64 (0 : Int), u32 (0 : Int), u32 (0 : Int), u32 (0 : Int), u16 (0 : Int),
  IVal.v (Value.slice none 0 0), IVal.v (Value.string (ByteArray.mk (Array.mk [])))],
  IVal.v (Value.bool false)])))))))
  (Tree.need
  (ALeL [AVal.ptr 0 0, AVal.imm (IVal.v (Value.int IntKind.i64 (4 : Int)))] [AVal.ptr 0 0, AVal.imm (i64 (4 : Int))] ∧
  PSpec prog 76 [(92, AVal.agg [AVal.imm (slE 1 u8 (List.drop 2 (List.drop 1 (List.drop 1 l))))])] [] [AVal.ptr 0 0, AVal.imm (i64 (4 : Int))] errE)
  (Tree.need
  (errE = errE ∧
  [(42, AVal.imm z42), (4, AVal.imm (bo false))] =
  [(42,
  AVal.imm
  (IVal.agg
  [u8 (0 : Int), u8 (0 : Int), u16 (0 : Int), u32 (0 : Int), bo false, u32 (0 : Int), u8 (0 : Int), u64 (0 : Int), u64 (0 : Int), i64 (0 : Int), i64 (0 : Int), u32 (0 : Int),
  IVal.v (Value.slice none 0 0), u32 (0 : Int), u8 (0 : Int), u8 (0 : Int), u8 (0 : Int), u8 (0 : Int), u8 (0 : Int), u8 (0 : Int), u8 (0 : Int), u8 (0 : Int), u8 (0 : Int),
  u8 (0 : Int), u8 (0 : Int), u8 (0 : Int), u8 (0 : Int), u8 (0 : Int), u8 (0 : Int), u8 (0 : Int), i64 (0 : Int), u32 (0 : Int), u32 (0 : Int), u32 (0 : Int), u16 (0 : Int),
  IVal.v (Value.slice none 0 0), IVal.v (Value.string (ByteArray.mk (Array.mk [])))])),
  (4, AVal.imm (IVal.v (Value.bool false)))] ∧
  ls 0 = ls 0 ∧ ls 1 = ls 1 ∧ True)
  (Tree.done Exit.ret
  (lret
  (IVal.tup
  [IVal.agg
  [u8 (0 : Int), u8 (0 : Int), u16 (0 : Int), u32 (0 : Int), bo false, u32 (0 : Int), u8 (0 : Int), u64 (0 : Int), u64 (0 : Int), i64 (0 : Int), i64 (0 : Int), u32 (0 : Int),
  IVal.v (Value.slice none 0 0), u32 (0 : Int), u8 (0 : Int), u8 (0 : Int), u8 (0 : Int), u8 (0 : Int), u8 (0 : Int), u8 (0 : Int), u8 (0 : Int), u8 (0 : Int), u8 (0 : Int), u8 (0 : Int),
  u8 (0 : Int), u8 (0 : Int), u8 (0 : Int), u8 (0 : Int), u8 (0 : Int), u8 (0 : Int), i64 (0 : Int), u32 (0 : Int), u32 (0 : Int), u32 (0 : Int), u16 (0 : Int),
  IVal.v (Value.slice none 0 0), IVal.v (Value.string (ByteArray.mk (Array.mk [])))],
  IVal.v (Value.bool false)])))))))
  (Tree.need
  (ALeL [AVal.ptr 0 0, AVal.ptr 1 0] [AVal.ptr 0 0, AVal.ptr 1 0] ∧
  PSpec prog 70
  [(85,
  AVal.agg
  [AVal.imm (IVal.v (Value.int IntKind.u8 (IntKind.wrap IntKind.u8 (getV l (1 : Int))))), AVal.imm (IVal.v (Value.int IntKind.u8 (IntKind.wrap IntKind.u8 (getV (List.drop 1 l) (1 : Int))))),
  AVal.imm (IVal.v (Value.int IntKind.u16 (0 : Int))), AVal.imm (IVal.v (Value.int IntKind.u32 (0 : Int))), AVal.imm (IVal.v (Value.bool false)), AVal.imm (IVal.v (Value.int IntKind.u32 (0 : Int))),
  AVal.imm (IVal.v (Value.int IntKind.u8 (0 : Int))), AVal.imm (IVal.v (Value.int IntKind.u64 (0 : Int))), AVal.imm (IVal.v (Value.int IntKind.u64 (0 : Int))), AVal.imm (IVal.v (Value.int IntKind.i64 (0 : Int))),
  AVal.imm (IVal.v (Value.int IntKind.i64 (0 : Int))), AVal.imm (IVal.v (Value.int IntKind.u32 (0 : Int))), AVal.imm (IVal.v (Value.slice none 0 0)),
  AVal.imm (IVal.v (Value.int IntKind.u32 (0 : Int))), AVal.imm (IVal.v (Value.int IntKind.u8 (0 : Int))), AVal.imm (IVal.v (Value.int IntKind.u8 (0 : Int))), AVal.imm (IVal.v (Value.int IntKind.u8 (0 : Int))),
  AVal.imm (IVal.v (Value.int IntKind.u8 (0 : Int))), AVal.imm (IVal.v (Value.int IntKind.u8 (0 : Int))), AVal.imm (IVal.v (Value.int IntKind.u8 (0 : Int))), AVal.imm (IVal.v (Value.int IntKind.u8 (0 : Int))),
  AVal.imm (IVal.v (Value.int IntKind.u8 (0 : Int))), AVal.imm (IVal.v (Value.int IntKind.u8 (0 : Int))), AVal.imm (IVal.v (Value.int IntKind.u8 (0 : Int))), AVal.imm (IVal.v (Value.int IntKind.u8 (0 : Int))),
  AVal.imm (IVal.v (Value.int IntKind.u8 (0 : Int))), AVal.imm (IVal.v (Value.int IntKind.u8 (0 : Int))), AVal.imm (IVal.v (Value.int IntKind.u8 (0 : Int))), AVal.imm (IVal.v (Value.int IntKind.u8 (0 : Int))),
  AVal.imm (IVal.v (Value.int IntKind.u8 (0 : Int))), AVal.imm (IVal.v (Value.int IntKind.i64 (0 : Int))), AVal.imm (IVal.v (Value.int IntKind.u32 (0 : Int))), AVal.imm (IVal.v (Value.int IntKind.u32 (0 : Int))),
  AVal.imm (IVal.v (Value.int IntKind.u32 (0 : Int))), AVal.imm (IVal.v (Value.int IntKind.u16 (0 : Int))), AVal.imm (IVal.v (Value.slice none 0 0)),
  AVal.imm (IVal.v (Value.string (ByteArray.mk (Array.mk []))))]),
  (92, AVal.agg [AVal.imm (slE 1 u8 (List.drop 1 (List.drop 1 l)))])]
  [] [AVal.ptr 0 0, AVal.ptr 1 0] errE)
  (Tree.need
  (errE = errE ∧
  [(42, AVal.imm z42), (4, AVal.imm (bo false))] =
  [(42,
  AVal.imm
  (IVal.agg
  [u8 (0 : Int), u8 (0 : Int), u16 (0 : Int), u32 (0 : Int), bo false, u32 (0 : Int), u8 (0 : Int), u64 (0 : Int), u64 (0 : Int), i64 (0 : Int), i64 (0 : Int), u32 (0 : Int),
  IVal.v (Value.slice none 0 0), u32 (0 : Int), u8 (0 : Int), u8 (0 : Int), u8 (0 : Int), u8 (0 : Int), u8 (0 : Int), u8 (0 : Int), u8 (0 : Int), u8 (0 : Int), u8 (0 : Int), u8 (0 : Int),
  u8 (0 : Int), u8 (0 : Int), u8 (0 : Int), u8 (0 : Int), u8 (0 : Int), u8 (0 : Int), i64 (0 : Int), u32 (0 : Int), u32 (0 : Int), u32 (0 : Int), u16 (0 : Int),
  IVal.v (Value.slice none 0 0), IVal.v (Value.string (ByteArray.mk (Array.mk [])))])),
  (4, AVal.imm (IVal.v (Value.bool false)))] ∧
  ls 0 = ls 0 ∧ ls 1 = ls 1 ∧ True)
  (Tree.done Exit.ret
  (lret
  (IVal.tup
  [IVal.agg
  [u8 (0 : Int), u8 (0 : Int), u16 (0 : Int), u32 (0 : Int), bo false, u32 (0 : Int), u8 (0 : Int), u64 (0 : Int), u64 (0 : Int), i64 (0 : Int), i64 (0 : Int), u32 (0 : Int),
  IVal.v (Value.slice none 0 0), u32 (0 : Int), u8 (0 : Int), u8 (0 : Int), u8 (0 : Int), u8 (0 : Int), u8 (0 : Int), u8 (0 : Int), u8 (0 : Int), u8 (0 : Int), u8 (0 : Int), u8 (0 : Int),
  u8 (0 : Int), u8 (0 : Int), u8 (0 : Int), u8 (0 : Int), u8 (0 : Int), u8 (0 : Int), i64 (0 : Int), u32 (0 : Int), u32 (0 : Int), u32 (0 : Int), u16 (0 : Int), IVal.v (Value.slice none 0 0),
  IVal.v (Value.string (ByteArray.mk (Array.mk [])))],
  IVal.v (Value.bool false)]))))))))))
  (Tree.need
  (ALeL [AVal.ptr 0 0, AVal.imm (IVal.v (Value.int IntKind.i64 (1 : Int)))] [AVal.ptr 0 0, AVal.imm (i64 (1 : Int))] ∧
  PSpec prog 42 [(92, AVal.agg [AVal.imm (slE 1 u8 (List.drop 1 l))])] [] [AVal.ptr 0 0, AVal.imm (i64 (1 : Int))] errE)
  (Tree.need
  (errE = errE ∧
  [(42, AVal.imm z42), (4, AVal.imm (bo false))] =
  [(42,
  AVal.imm
  (IVal.agg
  [u8 (0 : Int), u8 (0 : Int), u16 (0 : Int), u32 (0 : Int), bo false, u32 (0 : Int), u8 (0 : Int), u64 (0 : Int), u64 (0 : Int), i64 (0 : Int), i64 (0 : Int), u32 (0 : Int),
  IVal.v (Value.slice none 0 0), u32 (0 : Int), u8 (0 : Int), u8 (0 : Int), u8 (0 : Int), u8 (0 : Int), u8 (0 : Int), u8 (0 : Int), u8 (0 : Int), u8 (0 : Int), u8 (0 : Int), u8 (0 : Int),
  u8 (0 : Int), u8 (0 : Int), u8 (0 : Int), u8 (0 : Int), u8 (0 : Int), u8 (0 : Int), i64 (0 : Int), u32 (0 : Int), u32 (0 : Int), u32 (0 : Int), u16 (0 : Int), IVal.v (Value.slice none 0 0),
  IVal.v (Value.string (ByteArray.mk (Array.mk [])))])),
  (4, AVal.imm (IVal.v (Value.bool false)))] ∧
  ls 0 = ls 0 ∧ ls 1 = ls 1 ∧ True)
  (Tree.done Exit.ret
  (lret
  (IVal.tup
  [IVal.agg
  [u8 (0 : Int), u8 (0 : Int), u16 (0 : Int), u32 (0 : Int), bo false, u32 (0 : Int), u8 (0 : Int), u64 (0 : Int), u64 (0 : Int), i64 (0 : Int), i64 (0 : Int), u32 (0 : Int), IVal.v (Value.slice none 0 0),
  u32 (0 : Int), u8 (0 : Int), u8 (0 : Int), u8 (0 : Int), u8 (0 : Int), u8 (0 : Int), u8 (0 : Int), u8 (0 : Int), u8 (0 : Int), u8 (0 : Int), u8 (0 : Int), u8 (0 : Int), u8 (0 : Int), u8 (0 : Int), u8 (0 : Int),
  u8 (0 : Int), u8 (0 : Int), i64 (0 : Int), u32 (0 : Int), u32 (0 : Int), u32 (0 : Int), u16 (0 : Int), IVal.v (Value.slice none 0 0), IVal.v (Value.string (ByteArray.mk (Array.mk [])))],
  IVal.v (Value.bool false)])))))))
  (Tree.need
  (ALeL [AVal.ptr 0 0, AVal.imm (IVal.v (Value.int IntKind.i64 (1 : Int)))] [AVal.ptr 0 0, AVal.imm (i64 (1 : Int))] ∧
  PSpec prog 42 [(92, AVal.agg [AVal.imm (slE 1 u8 l)])] [] [AVal.ptr 0 0, AVal.imm (i64 (1 : Int))] errE)
  (Tree.need
  (errE = errE ∧
  [(42, AVal.imm z42), (4, AVal.imm (bo false))] =
  [(42,
  AVal.imm
  (IVal.agg
  [u8 (0 : Int), u8 (0 : Int), u16 (0 : Int), u32 (0 : Int), bo false, u32 (0 : Int), u8 (0 : Int), u64 (0 : Int), u64 (0 : Int), i64 (0 : Int), i64 (0 : Int), u32 (0 : Int), IVal.v (Value.slice none 0 0),
  u32 (0 : Int), u8 (0 : Int), u8 (0 : Int), u8 (0 : Int), u8 (0 : Int), u8 (0 : Int), u8 (0 : Int), u8 (0 : Int), u8 (0 : Int), u8 (0 : Int), u8 (0 : Int), u8 (0 : Int), u8 (0 : Int), u8 (0 : Int), u8 (0 : Int),
  u8 (0 : Int), u8 (0 : Int), i64 (0 : Int), u32 (0 : Int), u32 (0 : Int), u32 (0 : Int), u16 (0 : Int), IVal.v (Value.slice none 0 0), IVal.v (Value.string (ByteArray.mk (Array.mk [])))])),
  (4, AVal.imm (IVal.v (Value.bool false)))] ∧
  ls 0 = ls 0 ∧ ls 1 = ls 1 ∧ True)
  (Tree.done Exit.ret
  (lret
  (IVal.tup
  [IVal.agg
  [u8 (0 : Int), u8 (0 : Int), u16 (0 : Int), u32 (0 : Int), bo false, u32 (0 : Int), u8 (0 : Int), u64 (0 : Int), u64 (0 : Int), i64 (0 : Int), i64 (0 : Int), u32 (0 : Int), IVal.v (Value.slice none 0 0),
  u32 (0 : Int), u8 (0 : Int), u8 (0 : Int), u8 (0 : Int), u8 (0 : Int), u8 (0 : Int), u8 (0 : Int), u8 (0 : Int), u8 (0 : Int), u8 (0 : Int), u8 (0 : Int), u8 (0 : Int), u8 (0 : Int), u8 (0 : Int), u8 (0 : Int),
  u8 (0 : Int), u8 (0 : Int), i64 (0 : Int), u32 (0 : Int), u32 (0 : Int), u32 (0 : Int), u16 (0 : Int), IVal.v (Value.slice none 0 0), IVal.v (Value.string (ByteArray.mk (Array.mk [])))],
  IVal.v (Value.bool false)]))))) := by kernel_rfl
def T35p (ls : Nat → Abs.Loc) (l : List Int) : Tell :=
  Tell.mk (fun x x_1 => false) (fun r i => if (r == 4 && i == 6) = true then Orc.look (AVal.imm form11) true else Orc.no) (fun x => Tree.fail 1000003 0) (fun x => 0) (fun x => ([], []))
  (ogetO (fun r i => if (r == 4 && i == 6) = true then Orc.look (AVal.imm form11) true else Orc.no)
  [(8, 3, 1,
  Orc.may (k76 l (1 : Int)) [6] 1 [AVal.ptr 0 0, AVal.imm (i64 (1 : Int))] errE
  (Orc.callg [6] 1 [AVal.ptr 0 0, AVal.imm (i64 (1 : Int))] [(92, AVal.agg [AVal.imm (slE 1 u8 (List.drop (Int.toNat (1 : Int)) l))])] [] (AVal.imm (u64 (getV l (1 : Int)))))),
  (8, 3, 4,
  Orc.may (k76 (List.drop 1 l) (1 : Int)) [6] 1 [AVal.ptr 0 0, AVal.imm (i64 (1 : Int))] errE
  (Orc.callg [6] 1 [AVal.ptr 0 0, AVal.imm (i64 (1 : Int))] [(92, AVal.agg [AVal.imm (slE 1 u8 (List.drop (Int.toNat (1 : Int)) (List.drop 1 l)))])] []
  (AVal.imm (u64 (getV (List.drop 1 l) (1 : Int)))))),
  (18, 4, 0, Orc.call [] (IVal.map ksF dsF)),
  (33, 7, 4,
  Orc.may (k65 (List.drop 1 (List.drop 1 l))) [16, 6] 2 [AVal.ptr 0 0, AVal.ptr 1 0] errE
  (Orc.callg [16, 6] 2 [AVal.ptr 0 0, AVal.ptr 1 0]
  (two
  (z1 (getV l (1 : Int) % (2 : Int) ^ IntKind.bits IntKind.u8) (getV (List.drop 1 l) (1 : Int) % (2 : Int) ^ IntKind.bits IntKind.u8) (0 : Int)
  (decide (getV (List.drop 1 (List.drop 1 l)) (1 : Int) = (1 : Int))) (0 : Int))
  (List.drop 2 (List.drop 1 (List.drop 1 l))))
  [] (AVal.tup []))),
  (38, 8, 1,
  Orc.may (k76 (List.drop 2 (List.drop 1 (List.drop 1 l))) (4 : Int)) [6] 1 [AVal.ptr 0 0, AVal.imm (i64 (4 : Int))] errE
  (Orc.callg [6] 1 [AVal.ptr 0 0, AVal.imm (i64 (4 : Int))]
  [(92, AVal.agg [AVal.imm (slE 1 u8 (List.drop (Int.toNat (4 : Int)) (List.drop 2 (List.drop 1 (List.drop 1 l)))))])] []
  (AVal.imm (slE 1 u8 (List.take (Int.toNat (4 : Int)) (List.drop 2 (List.drop 1 (List.drop 1 l)))))))),
  (40, 9, 4,
  Orc.may (k74 (List.drop 4 (List.drop 2 (List.drop 1 (List.drop 1 l))))) [16, 6] 2 [AVal.ptr 0 0, AVal.ptr 1 0] errE
  (Orc.callg [16, 6] 2 [AVal.ptr 0 0, AVal.ptr 1 0]
  [(85,
  mP
  (zP (getV l (1 : Int) % (256 : Int)) (getV (List.drop 1 l) (1 : Int) % (256 : Int)) (0 : Int) (decide (getV (List.drop 1 (List.drop 1 l)) (1 : Int) = (1 : Int))) (0 : Int)
  (gu32 (List.drop 4 (List.drop 2 (List.drop 1 (List.drop 1 l))))))
  (AVal.own 2 (pN (List.drop 4 (List.drop 2 (List.drop 1 (List.drop 1 l))))))),
  (92, sR [])]
  [Entry.row 23 1
  (List.map u32
  (pvR (List.drop 4 (List.drop 4 (List.drop 2 (List.drop 1 (List.drop 1 l))))) (pN (List.drop 4 (List.drop 2 (List.drop 1 (List.drop 1 l)))))))]
  (AVal.tup [])))])
  fun x x_1 => Tree.fail 1000003 0
theorem t35p (ls : Nat → Abs.Loc) (l : List Int) : levD prog Proofs.Try.f35 (σ35 l ls) (T35p ls l) ls [0, 1] (immB cells35) cells35 errE =
  Tree.br (k76 l (1 : Int))
  (Tree.need
  (ALeL [AVal.ptr 0 0, AVal.imm (IVal.v (Value.int IntKind.i64 (1 : Int)))] [AVal.ptr 0 0, AVal.imm (i64 (1 : Int))] ∧
  GSpec prog 42 [(92, AVal.agg [AVal.imm (slE 1 u8 l)])] [] [AVal.ptr 0 0, AVal.imm (i64 (1 : Int))] [(92, AVal.agg [AVal.imm (slE 1 u8 (List.drop 1 l))])] []
  (AVal.imm (u64 (getV l (1 : Int)))))
  (Tree.br (k76 (List.drop 1 l) (1 : Int))
  (Tree.need
  (ALeL [AVal.ptr 0 0, AVal.imm (IVal.v (Value.int IntKind.i64 (1 : Int)))] [AVal.ptr 0 0, AVal.imm (i64 (1 : Int))] ∧
  GSpec prog 42 [(92, AVal.agg [AVal.imm (slE 1 u8 (List.drop 1 l))])] [] [AVal.ptr 0 0, AVal.imm (i64 (1 : Int))]
  [(92, AVal.agg [AVal.imm (slE 1 u8 (List.drop 1 (List.drop 1 l)))])] [] (AVal.imm (u64 (getV (List.drop 1 l) (1 : Int)))))
  (Tree.need (ILeL [] [] ∧ ASpec prog 34 [] (IVal.map ksF dsF))
  (Tree.need
  (true = true ∧
  (if IntKind.wrap IntKind.u8 (getV (List.drop 1 l) (1 : Int)) = (0 : Int) then (AVal.imm (formI (0 : Int)), true)
  else
  if IntKind.wrap IntKind.u8 (getV (List.drop 1 l) (1 : Int)) = (1 : Int) then (AVal.imm (formI (1 : Int)), true)
  else
  if IntKind.wrap IntKind.u8 (getV (List.drop 1 l) (1 : Int)) = (2 : Int) then (AVal.imm (formI (2 : Int)), true)
  else
  if IntKind.wrap IntKind.u8 (getV (List.drop 1 l) (1 : Int)) = (8 : Int) then (AVal.imm (formI (8 : Int)), true)
  else
  if IntKind.wrap IntKind.u8 (getV (List.drop 1 l) (1 : Int)) = (4 : Int) then (AVal.imm (formI (4 : Int)), true)
  else
  if IntKind.wrap IntKind.u8 (getV (List.drop 1 l) (1 : Int)) = (6 : Int) then (AVal.imm (formI (6 : Int)), true)
  else
  if IntKind.wrap IntKind.u8 (getV (List.drop 1 l) (1 : Int)) = (3 : Int) then (AVal.imm (formI (3 : Int)), true)
  else
  if IntKind.wrap IntKind.u8 (getV (List.drop 1 l) (1 : Int)) = (7 : Int) then (AVal.imm (formI (7 : Int)), true)
  else
  if IntKind.wrap IntKind.u8 (getV (List.drop 1 l) (1 : Int)) = (9 : Int) then (AVal.imm (formI (9 : Int)), true)
  else
  if IntKind.wrap IntKind.u8 (getV (List.drop 1 l) (1 : Int)) = (10 : Int) then (AVal.imm (formI (10 : Int)), true)
  else
  if IntKind.wrap IntKind.u8 (getV (List.drop 1 l) (1 : Int)) = (11 : Int) then (AVal.imm (formI (11 : Int)), true)
  else (AVal.imm (IVal.agg [IVal.v Value.nilFunc, IVal.v Value.nilFunc, IVal.v Value.nilFunc, IVal.v Value.nilFunc, IVal.v Value.nilFunc]), false)) =
  (AVal.imm form11, true))
  (Tree.br false
  (Tree.done Exit.ret
  (lret
  (IVal.tup
  [IVal.agg
  [IVal.v (Value.int IntKind.u8 (0 : Int)), IVal.v (Value.int IntKind.u8 (0 : Int)), IVal.v (Value.int IntKind.u16 (0 : Int)), IVal.v (Value.int IntKind.u32 (0 : Int)), IVal.v (Value.bool false),
  IVal.v (Value.int IntKind.u32 (0 : Int)), IVal.v (Value.int IntKind.u8 (0 : Int)), IVal.v (Value.int IntKind.u64 (0 : Int)), IVal.v (Value.int IntKind.u64 (0 : Int)), IVal.v (Value.int IntKind.i64 (0 : Int)),
  IVal.v (Value.int IntKind.i64 (0 : Int)), IVal.v (Value.int IntKind.u32 (0 : Int)), IVal.v (Value.slice none 0 0), IVal.v (Value.int IntKind.u32 (0 : Int)), IVal.v (Value.int IntKind.u8 (0 : Int)),
  IVal.v (Value.int IntKind.u8 (0 : Int)), IVal.v (Value.int IntKind.u8 (0 : Int)), IVal.v (Value.int IntKind.u8 (0 : Int)), IVal.v (Value.int IntKind.u8 (0 : Int)), IVal.v (Value.int IntKind.u8 (0 : Int)),
  IVal.v (Value.int IntKind.u8 (0 : Int)), IVal.v (Value.int IntKind.u8 (0 : Int)), IVal.v (Value.int IntKind.u8 (0 : Int)), IVal.v (Value.int IntKind.u8 (0 : Int)), IVal.v (Value.int IntKind.u8 (0 : Int)),
  IVal.v (Value.int IntKind.u8 (0 : Int)), IVal.v (Value.int IntKind.u8 (0 : Int)), IVal.v (Value.int IntKind.u8 (0 : Int)), IVal.v (Value.int IntKind.u8 (0 : Int)), IVal.v (Value.int IntKind.u8 (0 : Int)),
  IVal.v (Value.int IntKind.i64 (0 : Int)), IVal.v (Value.int IntKind.u32 (0 : Int)), IVal.v (Value.int IntKind.u32 (0 : Int)), IVal.v (Value.int IntKind.u32 (0 : Int)), IVal.v (Value.int IntKind.u16 (0 : Int)),
  IVal.v (Value.slice none 0 0), IVal.v (Value.string (ByteArray.mk (Array.mk [])))],
  IVal.v (Value.bool false)])))
  (Tree.br (k65 (List.drop 1 (List.drop 1 l)))
  (Tree.need
  (ALeL [AVal.ptr 0 0, AVal.ptr 1 0] [AVal.ptr 0 0, AVal.ptr 1 0] ∧
  GSpec prog 65
  [(85,
  AVal.agg
  [AVal.imm (IVal.v (Value.int IntKind.u8 (IntKind.wrap IntKind.u8 (getV l (1 : Int))))), AVal.imm (IVal.v (Value.int IntKind.u8 (IntKind.wrap IntKind.u8 (getV (List.drop 1 l) (1 : Int))))),
  AVal.imm (IVal.v (Value.int IntKind.u16 (0 : Int))), AVal.imm (IVal.v (Value.int IntKind.u32 (0 : Int))), AVal.imm (IVal.v (Value.bool false)), AVal.imm (IVal.v (Value.int IntKind.u32 (0 : Int))),
  AVal.imm (IVal.v (Value.int IntKind.u8 (0 : Int))), AVal.imm (IVal.v (Value.int IntKind.u64 (0 : Int))), AVal.imm (IVal.v (Value.int IntKind.u64 (0 : Int))), AVal.imm (IVal.v (Value.int IntKind.i64 (0 : Int))),
  AVal.imm (IVal.v (Value.int IntKind.i64 (0 : Int))), AVal.imm (IVal.v (Value.int IntKind.u32 (0 : Int))), AVal.imm (IVal.v (Value.slice none 0 0)),
  AVal.imm (IVal.v (Value.int IntKind.u32 (0 : Int))), AVal.imm (IVal.v (Value.int IntKind.u8 (0 : Int))), AVal.imm (IVal.v (Value.int IntKind.u8 (0 : Int))), AVal.imm (IVal.v (Value.int IntKind.u8 (0 : Int))),
  AVal.imm (IVal.v (Value.int IntKind.u8 (0 : Int))), AVal.imm (IVal.v (Value.int IntKind.u8 (0 : Int))), AVal.imm (IVal.v (Value.int IntKind.u8 (0 : Int))), AVal.imm (IVal.v (Value.int IntKind.u8 (0 : Int))),
  AVal.imm (IVal.v (Value.int IntKind.u8 (0 : Int))), AVal.imm (IVal.v (Value.int IntKind.u8 (0 : Int))), AVal.imm (IVal.v (Value.int IntKind.u8 (0 : Int))), AVal.imm (IVal.v (Value.int IntKind.u8 (0 : Int))),
  AVal.imm (IVal.v (Value.int IntKind.u8 (0 : Int))), AVal.imm (IVal.v (Value.int IntKind.u8 (0 : Int))), AVal.imm (IVal.v (Value.int IntKind.u8 (0 : Int))), AVal.imm (IVal.v (Value.int IntKind.u8 (0 : Int))),
  AVal.imm (IVal.v (Value.int IntKind.u8 (0 : Int))), AVal.imm (IVal.v (Value.int IntKind.i64 (0 : Int))), AVal.imm (IVal.v (Value.int IntKind.u32 (0 : Int))), AVal.imm (IVal.v (Value.int IntKind.u32 (0 : Int))),
  AVal.imm (IVal.v (Value.int IntKind.u32 (0 : Int))), AVal.imm (IVal.v (Value.int IntKind.u16 (0 : Int))), AVal.imm (IVal.v (Value.slice none 0 0)),
  AVal.imm (IVal.v (Value.string (ByteArray.mk (Array.mk []))))]),
  (92, AVal.agg [AVal.imm (slE 1 u8 (List.drop 1 (List.drop 1 l)))])]
  [] [AVal.ptr 0 0, AVal.ptr 1 0]
  (two (z1 (getV l (1 : Int) % (256 : Int)) (getV (List.drop 1 l) (1 : Int) % (256 : Int)) (0 : Int) (decide (getV (List.drop 1 (List.drop 1 l)) (1 : Int) = (1 : Int))) (0 : Int))
  (List.drop 2 (List.drop 1 (List.drop 1 l))))
  [] (AVal.tup []))
  (Tree.br (k76 (List.drop 2 (List.drop 1 (List.drop 1 l))) (4 : Int))
  (Tree.need
  (ALeL [AVal.ptr 0 0, AVal.imm (IVal.v (Value.int IntKind.i64 (4 : Int)))] [AVal.ptr 0 0, AVal.imm (i64 (4 : Int))] ∧
  GSpec prog 76 [(92, AVal.agg [AVal.imm (slE 1 u8 (List.drop 2 (List.drop 1 (List.drop 1 l))))])] [] [AVal.ptr 0 0, AVal.imm (i64 (4 : Int))]
  [(92, AVal.agg [AVal.imm (slE 1 u8 (List.drop 4 (List.drop 2 (List.drop 1 (List.drop 1 l)))))])] []
  (AVal.imm (slE 1 u8 (List.take 4 (List.drop 2 (List.drop 1 (List.drop 1 l)))))))
  (Tree.br (k74 (List.drop 4 (List.drop 2 (List.drop 1 (List.drop 1 l)))))
  (Tree.need
  (ALeL [AVal.ptr 0 0, AVal.ptr 1 0] [AVal.ptr 0 0, AVal.ptr 1 0] ∧
  GSpec prog 74
  [(85,
  AVal.agg
  [AVal.imm
  (u8
  (z1 (getV l (1 : Int) % (256 : Int)) (getV (List.drop 1 l) (1 : Int) % (256 : Int)) (0 : Int) (decide (getV (List.drop 1 (List.drop 1 l)) (1 : Int) = (1 : Int)))
  (0 : Int)).version),
  AVal.imm
  (u8
  (z1 (getV l (1 : Int) % (256 : Int)) (getV (List.drop 1 l) (1 : Int) % (256 : Int)) (0 : Int) (decide (getV (List.drop 1 (List.drop 1 l)) (1 : Int) = (1 : Int)))
  (0 : Int)).kind),
  AVal.imm
  (u16
  (z1 (getV l (1 : Int) % (256 : Int)) (getV (List.drop 1 l) (1 : Int) % (256 : Int)) (0 : Int) (decide (getV (List.drop 1 (List.drop 1 l)) (1 : Int) = (1 : Int)))
  (0 : Int)).session),
  AVal.imm
  (u32
  (z1 (getV l (1 : Int) % (256 : Int)) (getV (List.drop 1 l) (1 : Int) % (256 : Int)) (0 : Int) (decide (getV (List.drop 1 (List.drop 1 l)) (1 : Int) = (1 : Int)))
  (0 : Int)).serial),
  AVal.imm
  (bo
  (z1 (getV l (1 : Int) % (256 : Int)) (getV (List.drop 1 l) (1 : Int) % (256 : Int)) (0 : Int) (decide (getV (List.drop 1 (List.drop 1 l)) (1 : Int) = (1 : Int)))
  (0 : Int)).add),
  AVal.imm
  (u32
  (z1 (getV l (1 : Int) % (256 : Int)) (getV (List.drop 1 l) (1 : Int) % (256 : Int)) (0 : Int) (decide (getV (List.drop 1 (List.drop 1 l)) (1 : Int) = (1 : Int)))
  (0 : Int)).origin.asn),
  AVal.imm
  (u8
  (z1 (getV l (1 : Int) % (256 : Int)) (getV (List.drop 1 l) (1 : Int) % (256 : Int)) (0 : Int) (decide (getV (List.drop 1 (List.drop 1 l)) (1 : Int) = (1 : Int)))
  (0 : Int)).origin.pfx.fam),
  AVal.imm
  (u64
  (z1 (getV l (1 : Int) % (256 : Int)) (getV (List.drop 1 l) (1 : Int) % (256 : Int)) (0 : Int) (decide (getV (List.drop 1 (List.drop 1 l)) (1 : Int) = (1 : Int)))
  (0 : Int)).origin.pfx.addr.hi),
  AVal.imm
  (u64
  (z1 (getV l (1 : Int) % (256 : Int)) (getV (List.drop 1 l) (1 : Int) % (256 : Int)) (0 : Int) (decide (getV (List.drop 1 (List.drop 1 l)) (1 : Int) = (1 : Int)))
  (0 : Int)).origin.pfx.addr.lo),
  AVal.imm
  (i64
  (z1 (getV l (1 : Int) % (256 : Int)) (getV (List.drop 1 l) (1 : Int) % (256 : Int)) (0 : Int) (decide (getV (List.drop 1 (List.drop 1 l)) (1 : Int) = (1 : Int)))
  (0 : Int)).origin.pfx.len),
  AVal.imm
  (i64
  (z1 (getV l (1 : Int) % (256 : Int)) (getV (List.drop 1 l) (1 : Int) % (256 : Int)) (0 : Int) (decide (getV (List.drop 1 (List.drop 1 l)) (1 : Int) = (1 : Int)))
  (0 : Int)).origin.max),
  AVal.imm
  (u32
  (z1 (getV l (1 : Int) % (256 : Int)) (getV (List.drop 1 l) (1 : Int) % (256 : Int)) (0 : Int) (decide (getV (List.drop 1 (List.drop 1 l)) (1 : Int) = (1 : Int)))
  (0 : Int)).path.cust),
  AVal.imm (IVal.v (Value.slice none 0 0)),
  AVal.imm
  (u32
  (z1 (getV l (1 : Int) % (256 : Int)) (getV (List.drop 1 l) (1 : Int) % (256 : Int)) (0 : Int) (decide (getV (List.drop 1 (List.drop 1 l)) (1 : Int) = (1 : Int)))
  (0 : Int)).key.asn),
  AVal.imm (u8 (0 : Int)), AVal.imm (u8 (0 : Int)), AVal.imm (u8 (0 : Int)), AVal.imm (u8 (0 : Int)), AVal.imm (u8 (0 : Int)), AVal.imm (u8 (0 : Int)), AVal.imm (u8 (0 : Int)), AVal.imm (u8 (0 : Int)),
  AVal.imm (u8 (0 : Int)), AVal.imm (u8 (0 : Int)), AVal.imm (u8 (0 : Int)), AVal.imm (u8 (0 : Int)), AVal.imm (u8 (0 : Int)), AVal.imm (u8 (0 : Int)), AVal.imm (u8 (0 : Int)), AVal.imm (u8 (0 : Int)),
  AVal.imm
  (i64
  (z1 (getV l (1 : Int) % (256 : Int)) (getV (List.drop 1 l) (1 : Int) % (256 : Int)) (0 : Int) (decide (getV (List.drop 1 (List.drop 1 l)) (1 : Int) = (1 : Int)))
  (0 : Int)).key.height),
  AVal.imm
  (u32
  (z1 (getV l (1 : Int) % (256 : Int)) (getV (List.drop 1 l) (1 : Int) % (256 : Int)) (0 : Int) (decide (getV (List.drop 1 (List.drop 1 l)) (1 : Int) = (1 : Int)))
  (0 : Int)).refresh),
  AVal.imm
  (u32
  (z1 (getV l (1 : Int) % (256 : Int)) (getV (List.drop 1 l) (1 : Int) % (256 : Int)) (0 : Int) (decide (getV (List.drop 1 (List.drop 1 l)) (1 : Int) = (1 : Int)))
  (0 : Int)).retry),
  AVal.imm
  (u32
  (z1 (getV l (1 : Int) % (256 : Int)) (getV (List.drop 1 l) (1 : Int) % (256 : Int)) (0 : Int) (decide (getV (List.drop 1 (List.drop 1 l)) (1 : Int) = (1 : Int)))
  (0 : Int)).expire),
  AVal.imm
  (u16
  (z1 (getV l (1 : Int) % (256 : Int)) (getV (List.drop 1 l) (1 : Int) % (256 : Int)) (0 : Int) (decide (getV (List.drop 1 (List.drop 1 l)) (1 : Int) = (1 : Int)))
  (0 : Int)).code),
  AVal.imm (IVal.v (Value.slice none 0 0)),
  AVal.imm
  (st
  (z1 (getV l (1 : Int) % (256 : Int)) (getV (List.drop 1 l) (1 : Int) % (256 : Int)) (0 : Int) (decide (getV (List.drop 1 (List.drop 1 l)) (1 : Int) = (1 : Int)))
  (0 : Int)).text)]),
  (92, AVal.agg [AVal.imm (slE 1 u8 (List.drop 4 (List.drop 2 (List.drop 1 (List.drop 1 l)))))])]
  [] [AVal.ptr 0 0, AVal.ptr 1 0]
  [(85,
  mP
  (zP (getV l (1 : Int) % (256 : Int)) (getV (List.drop 1 l) (1 : Int) % (256 : Int)) (0 : Int) (decide (getV (List.drop 1 (List.drop 1 l)) (1 : Int) = (1 : Int))) (0 : Int)
  (gu32 (List.drop 4 (List.drop 2 (List.drop 1 (List.drop 1 l))))))
  (AVal.own 2 (pN (List.drop 4 (List.drop 2 (List.drop 1 (List.drop 1 l))))))),
  (92, sR [])]
  [Entry.row 23 1
  (List.map u32
  (pvR (List.drop 4 (List.drop 4 (List.drop 2 (List.drop 1 (List.drop 1 l)))))
  (pN (List.drop 4 (List.drop 2 (List.drop 1 (List.drop 1 l)))))))]
  (AVal.tup []))
  (Tree.need
  (eqs
  [(pN (List.drop 4 (List.drop 2 (List.drop 1 (List.drop 1 l)))),
  List.length
  (List.map u32
  (pvR (List.drop 4 (List.drop 4 (List.drop 2 (List.drop 1 (List.drop 1 l)))))
  (pN (List.drop 4 (List.drop 2 (List.drop 1 (List.drop 1 l))))))))])
  (Tree.done Exit.ret
  (lret
  (IVal.tup
  [IVal.agg
  [u8
  (zP (getV l (1 : Int) % (256 : Int)) (getV (List.drop 1 l) (1 : Int) % (256 : Int)) (0 : Int) (decide (getV (List.drop 1 (List.drop 1 l)) (1 : Int) = (1 : Int))) (0 : Int)
  (gu32 (List.drop 4 (List.drop 2 (List.drop 1 (List.drop 1 l)))))).version,
  u8
  (zP (getV l (1 : Int) % (256 : Int)) (getV (List.drop 1 l) (1 : Int) % (256 : Int)) (0 : Int) (decide (getV (List.drop 1 (List.drop 1 l)) (1 : Int) = (1 : Int))) (0 : Int)
  (gu32 (List.drop 4 (List.drop 2 (List.drop 1 (List.drop 1 l)))))).kind,
  u16
  (zP (getV l (1 : Int) % (256 : Int)) (getV (List.drop 1 l) (1 : Int) % (256 : Int)) (0 : Int) (decide (getV (List.drop 1 (List.drop 1 l)) (1 : Int) = (1 : Int))) (0 : Int)
  (gu32 (List.drop 4 (List.drop 2 (List.drop 1 (List.drop 1 l)))))).session,
  u32
  (zP (getV l (1 : Int) % (256 : Int)) (getV (List.drop 1 l) (1 : Int) % (256 : Int)) (0 : Int) (decide (getV (List.drop 1 (List.drop 1 l)) (1 : Int) = (1 : Int))) (0 : Int)
  (gu32 (List.drop 4 (List.drop 2 (List.drop 1 (List.drop 1 l)))))).serial,
  bo
  (zP (getV l (1 : Int) % (256 : Int)) (getV (List.drop 1 l) (1 : Int) % (256 : Int)) (0 : Int) (decide (getV (List.drop 1 (List.drop 1 l)) (1 : Int) = (1 : Int))) (0 : Int)
  (gu32 (List.drop 4 (List.drop 2 (List.drop 1 (List.drop 1 l)))))).add,
  u32
  (zP (getV l (1 : Int) % (256 : Int)) (getV (List.drop 1 l) (1 : Int) % (256 : Int)) (0 : Int) (decide (getV (List.drop 1 (List.drop 1 l)) (1 : Int) = (1 : Int))) (0 : Int)
  (gu32 (List.drop 4 (List.drop 2 (List.drop 1 (List.drop 1 l)))))).origin.asn,
  u8
  (zP (getV l (1 : Int) % (256 : Int)) (getV (List.drop 1 l) (1 : Int) % (256 : Int)) (0 : Int) (decide (getV (List.drop 1 (List.drop 1 l)) (1 : Int) = (1 : Int))) (0 : Int)
  (gu32 (List.drop 4 (List.drop 2 (List.drop 1 (List.drop 1 l)))))).origin.pfx.fam,
  u64
  (zP (getV l (1 : Int) % (256 : Int)) (getV (List.drop 1 l) (1 : Int) % (256 : Int)) (0 : Int) (decide (getV (List.drop 1 (List.drop 1 l)) (1 : Int) = (1 : Int))) (0 : Int)
  (gu32 (List.drop 4 (List.drop 2 (List.drop 1 (List.drop 1 l)))))).origin.pfx.addr.hi,
  u64
  (zP (getV l (1 : Int) % (256 : Int)) (getV (List.drop 1 l) (1 : Int) % (256 : Int)) (0 : Int) (decide (getV (List.drop 1 (List.drop 1 l)) (1 : Int) = (1 : Int))) (0 : Int)
  (gu32 (List.drop 4 (List.drop 2 (List.drop 1 (List.drop 1 l)))))).origin.pfx.addr.lo,
  i64
  (zP (getV l (1 : Int) % (256 : Int)) (getV (List.drop 1 l) (1 : Int) % (256 : Int)) (0 : Int) (decide (getV (List.drop 1 (List.drop 1 l)) (1 : Int) = (1 : Int))) (0 : Int)
  (gu32 (List.drop 4 (List.drop 2 (List.drop 1 (List.drop 1 l)))))).origin.pfx.len,
  i64
  (zP (getV l (1 : Int) % (256 : Int)) (getV (List.drop 1 l) (1 : Int) % (256 : Int)) (0 : Int) (decide (getV (List.drop 1 (List.drop 1 l)) (1 : Int) = (1 : Int))) (0 : Int)
  (gu32 (List.drop 4 (List.drop 2 (List.drop 1 (List.drop 1 l)))))).origin.max,
  u32
  (zP (getV l (1 : Int) % (256 : Int)) (getV (List.drop 1 l) (1 : Int) % (256 : Int)) (0 : Int) (decide (getV (List.drop 1 (List.drop 1 l)) (1 : Int) = (1 : Int))) (0 : Int)
  (gu32 (List.drop 4 (List.drop 2 (List.drop 1 (List.drop 1 l)))))).path.cust,
  IVal.sl true false 1
  (List.map u32
  (pvR (List.drop 4 (List.drop 4 (List.drop 2 (List.drop 1 (List.drop 1 l)))))
  (pN (List.drop 4 (List.drop 2 (List.drop 1 (List.drop 1 l))))))),
  u32
  (zP (getV l (1 : Int) % (256 : Int)) (getV (List.drop 1 l) (1 : Int) % (256 : Int)) (0 : Int) (decide (getV (List.drop 1 (List.drop 1 l)) (1 : Int) = (1 : Int))) (0 : Int)
  (gu32 (List.drop 4 (List.drop 2 (List.drop 1 (List.drop 1 l)))))).key.asn,
  u8 (0 : Int), u8 (0 : Int), u8 (0 : Int), u8 (0 : Int), u8 (0 : Int), u8 (0 : Int), u8 (0 : Int), u8 (0 : Int), u8 (0 : Int), u8 (0 : Int), u8 (0 : Int), u8 (0 : Int), u8 (0 : Int), u8 (0 : Int),
  u8 (0 : Int), u8 (0 : Int),
  i64
  (zP (getV l (1 : Int) % (256 : Int)) (getV (List.drop 1 l) (1 : Int) % (256 : Int)) (0 : Int) (decide (getV (List.drop 1 (List.drop 1 l)) (1 : Int) = (1 : Int))) (0 : Int)
  (gu32 (List.drop 4 (List.drop 2 (List.drop 1 (List.drop 1 l)))))).key.height,
  u32
  (zP (getV l (1 : Int) % (256 : Int)) (getV (List.drop 1 l) (1 : Int) % (256 : Int)) (0 : Int) (decide (getV (List.drop 1 (List.drop 1 l)) (1 : Int) = (1 : Int))) (0 : Int)
  (gu32 (List.drop 4 (List.drop 2 (List.drop 1 (List.drop 1 l)))))).refresh,
  u32
  (zP (getV l (1 : Int) % (256 : Int)) (getV (List.drop 1 l) (1 : Int) % (256 : Int)) (0 : Int) (decide (getV (List.drop 1 (List.drop 1 l)) (1 : Int) = (1 : Int))) (0 : Int)
  (gu32 (List.drop 4 (List.drop 2 (List.drop 1 (List.drop 1 l)))))).retry,
  u32
  (zP (getV l (1 : Int) % (256 : Int)) (getV (List.drop 1 l) (1 : Int) % (256 : Int)) (0 : Int) (decide (getV (List.drop 1 (List.drop 1 l)) (1 : Int) = (1 : Int))) (0 : Int)
  (gu32 (List.drop 4 (List.drop 2 (List.drop 1 (List.drop 1 l)))))).expire,
  u16
  (zP (getV l (1 : Int) % (256 : Int)) (getV (List.drop 1 l) (1 : Int) % (256 : Int)) (0 : Int) (decide (getV (List.drop 1 (List.drop 1 l)) (1 : Int) = (1 : Int))) (0 : Int)
  (gu32 (List.drop 4 (List.drop 2 (List.drop 1 (List.drop 1 l)))))).code,
  IVal.v (Value.slice none 0 0),
  st
  (zP (getV l (1 : Int) % (256 : Int)) (getV (List.drop 1 l) (1 : Int) % (256 : Int)) (0 : Int) (decide (getV (List.drop 1 (List.drop 1 l)) (1 : Int) = (1 : Int))) (0 : Int)
  (gu32 (List.drop 4 (List.drop 2 (List.drop 1 (List.drop 1 l)))))).text],
  IVal.v (Value.bool true)])))))
  (Tree.need
  (ALeL [AVal.ptr 0 0, AVal.ptr 1 0] [AVal.ptr 0 0, AVal.ptr 1 0] ∧
  PSpec prog 74
  [(85,
  AVal.agg
  [AVal.imm
  (u8
  (z1 (getV l (1 : Int) % (256 : Int)) (getV (List.drop 1 l) (1 : Int) % (256 : Int)) (0 : Int) (decide (getV (List.drop 1 (List.drop 1 l)) (1 : Int) = (1 : Int)))
  (0 : Int)).version),
  AVal.imm
  (u8
  (z1 (getV l (1 : Int) % (256 : Int)) (getV (List.drop 1 l) (1 : Int) % (256 : Int)) (0 : Int) (decide (getV (List.drop 1 (List.drop 1 l)) (1 : Int) = (1 : Int)))
  (0 : Int)).kind),
  AVal.imm
  (u16
  (z1 (getV l (1 : Int) % (256 : Int)) (getV (List.drop 1 l) (1 : Int) % (256 : Int)) (0 : Int) (decide (getV (List.drop 1 (List.drop 1 l)) (1 : Int) = (1 : Int)))
  (0 : Int)).session),
  AVal.imm
  (u32
  (z1 (getV l (1 : Int) % (256 : Int)) (getV (List.drop 1 l) (1 : Int) % (256 : Int)) (0 : Int) (decide (getV (List.drop 1 (List.drop 1 l)) (1 : Int) = (1 : Int)))
  (0 : Int)).serial),
  AVal.imm
  (bo
  (z1 (getV l (1 : Int) % (256 : Int)) (getV (List.drop 1 l) (1 : Int) % (256 : Int)) (0 : Int) (decide (getV (List.drop 1 (List.drop 1 l)) (1 : Int) = (1 : Int)))
  (0 : Int)).add),
  AVal.imm
  (u32
  (z1 (getV l (1 : Int) % (256 : Int)) (getV (List.drop 1 l) (1 : Int) % (256 : Int)) (0 : Int) (decide (getV (List.drop 1 (List.drop 1 l)) (1 : Int) = (1 : Int)))
  (0 : Int)).origin.asn),
  AVal.imm
  (u8
  (z1 (getV l (1 : Int) % (256 : Int)) (getV (List.drop 1 l) (1 : Int) % (256 : Int)) (0 : Int) (decide (getV (List.drop 1 (List.drop 1 l)) (1 : Int) = (1 : Int)))
  (0 : Int)).origin.pfx.fam),
  AVal.imm
  (u64
  (z1 (getV l (1 : Int) % (256 : Int)) (getV (List.drop 1 l) (1 : Int) % (256 : Int)) (0 : Int) (decide (getV (List.drop 1 (List.drop 1 l)) (1 : Int) = (1 : Int)))
  (0 : Int)).origin.pfx.addr.hi),
  AVal.imm
  (u64
  (z1 (getV l (1 : Int) % (256 : Int)) (getV (List.drop 1 l) (1 : Int) % (256 : Int)) (0 : Int) (decide (getV (List.drop 1 (List.drop 1 l)) (1 : Int) = (1 : Int)))
  (0 : Int)).origin.pfx.addr.lo),
  AVal.imm
  (i64
  (z1 (getV l (1 : Int) % (256 : Int)) (getV (List.drop 1 l) (1 : Int) % (256 : Int)) (0 : Int) (decide (getV (List.drop 1 (List.drop 1 l)) (1 : Int) = (1 : Int)))
  (0 : Int)).origin.pfx.len),
  AVal.imm
  (i64
  (z1 (getV l (1 : Int) % (256 : Int)) (getV (List.drop 1 l) (1 : Int) % (256 : Int)) (0 : Int) (decide (getV (List.drop 1 (List.drop 1 l)) (1 : Int) = (1 : Int)))
  (0 : Int)).origin.max),
  AVal.imm
  (u32
  (z1 (getV l (1 : Int) % (256 : Int)) (getV (List.drop 1 l) (1 : Int) % (256 : Int)) (0 : Int) (decide (getV (List.drop 1 (List.drop 1 l)) (1 : Int) = (1 : Int)))
  (0 : Int)).path.cust),
  AVal.imm (IVal.v (Value.slice none 0 0)),
  AVal.imm
  (u32
  (z1 (getV l (1 : Int) % (256 : Int)) (getV (List.drop 1 l) (1 : Int) % (256 : Int)) (0 : Int) (decide (getV (List.drop 1 (List.drop 1 l)) (1 : Int) = (1 : Int)))
  (0 : Int)).key.asn),
  AVal.imm (u8 (0 : Int)), AVal.imm (u8 (0 : Int)), AVal.imm (u8 (0 : Int)), AVal.imm (u8 (0 : Int)), AVal.imm (u8 (0 : Int)), AVal.imm (u8 (0 : Int)), AVal.imm (u8 (0 : Int)), AVal.imm (u8 (0 : Int)),
  AVal.imm (u8 (0 : Int)), AVal.imm (u8 (0 : Int)), AVal.imm (u8 (0 : Int)), AVal.imm (u8 (0 : Int)), AVal.imm (u8 (0 : Int)), AVal.imm (u8 (0 : Int)), AVal.imm (u8 (0 : Int)), AVal.imm (u8 (0 : Int)),
  AVal.imm
  (i64
  (z1 (getV l (1 : Int) % (256 : Int)) (getV (List.drop 1 l) (1 : Int) % (256 : Int)) (0 : Int) (decide (getV (List.drop 1 (List.drop 1 l)) (1 : Int) = (1 : Int)))
  (0 : Int)).key.height),
  AVal.imm
  (u32
  (z1 (getV l (1 : Int) % (256 : Int)) (getV (List.drop 1 l) (1 : Int) % (256 : Int)) (0 : Int) (decide (getV (List.drop 1 (List.drop 1 l)) (1 : Int) = (1 : Int)))
  (0 : Int)).refresh),
  AVal.imm
  (u32
  (z1 (getV l (1 : Int) % (256 : Int)) (getV (List.drop 1 l) (1 : Int) % (256 : Int)) (0 : Int) (decide (getV (List.drop 1 (List.drop 1 l)) (1 : Int) = (1 : Int)))
  (0 : Int)).retry),
  AVal.imm
  (u32
  (z1 (getV l (1 : Int) % (256 : Int)) (getV (List.drop 1 l) (1 : Int) % (256 : Int)) (0 : Int) (decide (getV (List.drop 1 (List.drop 1 l)) (1 : Int) = (1 : Int)))
  (0 : Int)).expire),
  AVal.imm
  (u16
  (z1 (getV l (1 : Int) % (256 : Int)) (getV (List.drop 1 l) (1 : Int) % (256 : Int)) (0 : Int) (decide (getV (List.drop 1 (List.drop 1 l)) (1 : Int) = (1 : Int)))
  (0 : Int)).code),
  AVal.imm (IVal.v (Value.slice none 0 0)),
  AVal.imm
  (st
  (z1 (getV l (1 : Int) % (256 : Int)) (getV (List.drop 1 l) (1 : Int) % (256 : Int)) (0 : Int) (decide (getV (List.drop 1 (List.drop 1 l)) (1 : Int) = (1 : Int)))
  (0 : Int)).text)]),
  (92, AVal.agg [AVal.imm (slE 1 u8 (List.drop 4 (List.drop 2 (List.drop 1 (List.drop 1 l)))))])]
  [] [AVal.ptr 0 0, AVal.ptr 1 0] errE)
  (Tree.need
  (errE = errE ∧
  [(42, AVal.imm z42), (4, AVal.imm (bo false))] =
  [(42,
  AVal.imm
  (IVal.agg
  [u8 (0 : Int), u8 (0 : Int), u16 (0 : Int), u32 (0 : Int), bo false, u32 (0 : Int), u8 (0 : Int), u64 (0 : Int), u64 (0 : Int), i64 (0 : Int), i64 (0 : Int), u32 (0 : Int),
  IVal.v (Value.slice none 0 0), u32 (0 : Int), u8 (0 : Int), u8 (0 : Int), u8 (0 : Int), u8 (0 : Int), u8 (0 : Int), u8 (0 : Int), u8 (0 : Int), u8 (0 : Int), u8 (0 : Int),
  u8 (0 : Int), u8 (0 : Int), u8 (0 : Int), u8 (0 : Int), u8 (0 : Int), u8 (0 : Int), u8 (0 : Int), i64 (0 : Int), u32 (0 : Int), u32 (0 : Int), u32 (0 : Int), u16 (0 : Int),
  IVal.v (Value.slice none 0 0), IVal.v (Value.string (ByteArray.mk (Array.mk [])))])),
  (4, AVal.imm (IVal.v (Value.bool false)))] ∧
  ls 0 = ls 0 ∧ ls 1 = ls 1 ∧ True)
  (Tree.done Exit.ret
  (lret
  (IVal.tup
  [IVal.agg
  [u8 (0 : Int), u8 (0 : Int), u16 (0 : Int), u32 (0 : Int), bo false, u32 (0 : Int), u8 (0 : Int), u64 (0 : Int), u64 (0 : Int), i64 (0 : Int), i64 (0 : Int), u32 (0 : Int),
  IVal.v (Value.slice none 0 0), u32 (0 : Int), u8 (0 : Int), u8 (0 : Int), u8 (0 : Int), u8 (0 : Int), u8 (0 : Int), u8 (0 : Int), u8 (0 : Int), u8 (0 : Int), u8 (0 : Int),
  u8 (0 : Int), u8 (0 : Int), u8 (0 : Int), u8 (0 : Int), u8 (0 : Int), u8 (0 : Int), u8 (0 : Int), i64 (0 : Int), u32 (0 : Int), u32 (0 : Int), u32 (0 : Int), u16 (0 : Int),
  IVal.v (Value.slice none 0 0), IVal.v (Value.string (ByteArray.mk (Array.mk [])))],
  IVal.v (Value.bool false)])))))))
  (Tree.need
  (ALeL [AVal.ptr 0 0, AVal.imm (IVal.v (Value.int IntKind.i64 (4 : Int)))] [AVal.ptr 0 0, AVal.imm (i64 (4 : Int))] ∧
  PSpec prog 76 [(92, AVal.agg [AVal.imm (slE 1 u8 (List.drop 2 (List.drop 1 (List.drop 1 l))))])] [] [AVal.ptr 0 0, AVal.imm (i64 (4 : Int))] errE)
  (Tree.need
  (errE = errE ∧
  [(42, AVal.imm z42), (4, AVal.imm (bo false))] =
  [(42,
  AVal.imm
  (IVal.agg
  [u8 (0 : Int), u8 (0 : Int), u16 (0 : Int), u32 (0 : Int), bo false, u32 (0 : Int), u8 (0 : Int), u64 (0 : Int), u64 (0 : Int), i64 (0 : Int), i64 (0 : Int), u32 (0 : Int),
  IVal.v (Value.slice none 0 0), u32 (0 : Int), u8 (0 : Int), u8 (0 : Int), u8 (0 : Int), u8 (0 : Int), u8 (0 : Int), u8 (0 : Int), u8 (0 : Int), u8 (0 : Int), u8 (0 : Int),
  u8 (0 : Int), u8 (0 : Int), u8 (0 : Int), u8 (0 : Int), u8 (0 : Int), u8 (0 : Int), u8 (0 : Int), i64 (0 : Int), u32 (0 : Int), u32 (0 : Int), u32 (0 : Int), u16 (0 : Int),
  IVal.v (Value.slice none 0 0), IVal.v (Value.string (ByteArray.mk (Array.mk [])))])),
  (4, AVal.imm (IVal.v (Value.bool false)))] ∧
  ls 0 = ls 0 ∧ ls 1 = ls 1 ∧ True)
  (Tree.done Exit.ret
  (lret
  (IVal.tup
  [IVal.agg
  [u8 (0 : Int), u8 (0 : Int), u16 (0 : Int), u32 (0 : Int), bo false, u32 (0 : Int), u8 (0 : Int), u64 (0 : Int), u64 (0 : Int), i64 (0 : Int), i64 (0 : Int), u32 (0 : Int),
  IVal.v (Value.slice none 0 0), u32 (0 : Int), u8 (0 : Int), u8 (0 : Int), u8 (0 : Int), u8 (0 : Int), u8 (0 : Int), u8 (0 : Int), u8 (0 : Int), u8 (0 : Int), u8 (0 : Int), u8 (0 : Int),
  u8 (0 : Int), u8 (0 : Int), u8 (0 : Int), u8 (0 : Int), u8 (0 : Int), u8 (0 : Int), i64 (0 : Int), u32 (0 : Int), u32 (0 : Int), u32 (0 : Int), u16 (0 : Int),
  IVal.v (Value.slice none 0 0), IVal.v (Value.string (ByteArray.mk (Array.mk [])))],
  IVal.v (Value.bool false)])))))))
  (Tree.need
  (ALeL [AVal.ptr 0 0, AVal.ptr 1 0] [AVal.ptr 0 0, AVal.ptr 1 0] ∧
  PSpec prog 65
  [(85,
  AVal.agg
  [AVal.imm (IVal.v (Value.int IntKind.u8 (IntKind.wrap IntKind.u8 (getV l (1 : Int))))), AVal.imm (IVal.v (Value.int IntKind.u8 (IntKind.wrap IntKind.u8 (getV (List.drop 1 l) (1 : Int))))),
  AVal.imm (IVal.v (Value.int IntKind.u16 (0 : Int))), AVal.imm (IVal.v (Value.int IntKind.u32 (0 : Int))), AVal.imm (IVal.v (Value.bool false)), AVal.imm (IVal.v (Value.int IntKind.u32 (0 : Int))),
  AVal.imm (IVal.v (Value.int IntKind.u8 (0 : Int))), AVal.imm (IVal.v (Value.int IntKind.u64 (0 : Int))), AVal.imm (IVal.v (Value.int IntKind.u64 (0 : Int))), AVal.imm (IVal.v (Value.int IntKind.i64 (0 : Int))),
  AVal.imm (IVal.v (Value.int IntKind.i64 (0 : Int))), AVal.imm (IVal.v (Value.int IntKind.u32 (0 : Int))), AVal.imm (IVal.v (Value.slice none 0 0)),
  AVal.imm (IVal.v (Value.int IntKind.u32 (0 : Int))), AVal.imm (IVal.v (Value.int IntKind.u8 (0 : Int))), AVal.imm (IVal.v (Value.int IntKind.u8 (0 : Int))), AVal.imm (IVal.v (Value.int IntKind.u8 (0 : Int))),
  AVal.imm (IVal.v (Value.int IntKind.u8 (0 : Int))), AVal.imm (IVal.v (Value.int IntKind.u8 (0 : Int))), AVal.imm (IVal.v (Value.int IntKind.u8 (0 : Int))), AVal.imm (IVal.v (Value.int IntKind.u8 (0 : Int))),
  AVal.imm (IVal.v (Value.int IntKind.u8 (0 : Int))), AVal.imm (IVal.v (Value.int IntKind.u8 (0 : Int))), AVal.imm (IVal.v (Value.int IntKind.u8 (0 : Int))), AVal.imm (IVal.v (Value.int IntKind.u8 (0 : Int))),
  AVal.imm (IVal.v (Value.int IntKind.u8 (0 : Int))), AVal.imm (IVal.v (Value.int IntKind.u8 (0 : Int))), AVal.imm (IVal.v (Value.int IntKind.u8 (0 : Int))), AVal.imm (IVal.v (Value.int IntKind.u8 (0 : Int))),
  AVal.imm (IVal.v (Value.int IntKind.u8 (0 : Int))), AVal.imm (IVal.v (Value.int IntKind.i64 (0 : Int))), AVal.imm (IVal.v (Value.int IntKind.u32 (0 : Int))), AVal.imm (IVal.v (Value.int IntKind.u32 (0 : Int))),
  AVal.imm (IVal.v (Value.int IntKind.u32 (0 : Int))), AVal.imm (IVal.v (Value.int IntKind.u16 (0 : Int))), AVal.imm (IVal.v (Value.slice none 0 0)),
  AVal.imm (IVal.v (Value.string (ByteArray.mk (Array.mk []))))]),
  (92, AVal.agg [AVal.imm (slE 1 u8 (List.drop 1 (List.drop 1 l)))])]
  [] [AVal.ptr 0 0, AVal.ptr 1 0] errE)
  (Tree.need
  (errE = errE ∧
  [(42, AVal.imm z42), (4, AVal.imm (bo false))] =
  [(42,
  AVal.imm
  (IVal.agg
  [u8 (0 : Int), u8 (0 : Int), u16 (0 : Int), u32 (0 : Int), bo false, u32 (0 : Int), u8 (0 : Int), u64 (0 : Int), u64 (0 : Int), i64 (0 : Int), i64 (0 : Int), u32 (0 : Int),
  IVal.v (Value.slice none 0 0), u32 (0 : Int), u8 (0 : Int), u8 (0 : Int), u8 (0 : Int), u8 (0 : Int), u8 (0 : Int), u8 (0 : Int), u8 (0 : Int), u8 (0 : Int), u8 (0 : Int), u8 (0 : Int),
  u8 (0 : Int), u8 (0 : Int), u8 (0 : Int), u8 (0 : Int), u8 (0 : Int), u8 (0 : Int), i64 (0 : Int), u32 (0 : Int), u32 (0 : Int), u32 (0 : Int), u16 (0 : Int),
  IVal.v (Value.slice none 0 0), IVal.v (Value.string (ByteArray.mk (Array.mk [])))])),
  (4, AVal.imm (IVal.v (Value.bool false)))] ∧
  ls 0 = ls 0 ∧ ls 1 = ls 1 ∧ True)
  (Tree.done Exit.ret
  (lret
  (IVal.tup
  [IVal.agg
  [u8 (0 : Int), u8 (0 : Int), u16 (0 : Int), u32 (0 : Int), bo false, u32 (0 : Int), u8 (0 : Int), u64 (0 : Int), u64 (0 : Int), i64 (0 : Int), i64 (0 : Int), u32 (0 : Int),
  IVal.v (Value.slice none 0 0), u32 (0 : Int), u8 (0 : Int), u8 (0 : Int), u8 (0 : Int), u8 (0 : Int), u8 (0 : Int), u8 (0 : Int), u8 (0 : Int), u8 (0 : Int), u8 (0 : Int), u8 (0 : Int),
  u8 (0 : Int), u8 (0 : Int), u8 (0 : Int), u8 (0 : Int), u8 (0 : Int), u8 (0 : Int), i64 (0 : Int), u32 (0 : Int), u32 (0 : Int), u32 (0 : Int), u16 (0 : Int), IVal.v (Value.slice none 0 0),
  IVal.v (Value.string (ByteArray.mk (Array.mk [])))],
  IVal.v (Value.bool false)]))))))))))
  (Tree.need
  (ALeL [AVal.ptr 0 0, AVal.imm (IVal.v (Value.int IntKind.i64 (1 : Int)))] [AVal.ptr 0 0, AVal.imm (i64 (1 : Int))] ∧
  PSpec prog 42 [(92, AVal.agg [AVal.imm (slE 1 u8 (List.drop 1 l))])] [] [AVal.ptr 0 0, AVal.imm (i64 (1 : Int))] errE)
  (Tree.need
  (errE = errE ∧
  [(42, AVal.imm z42), (4, AVal.imm (bo false))] =
  [(42,
  AVal.imm
  (IVal.agg
  [u8 (0 : Int), u8 (0 : Int), u16 (0 : Int), u32 (0 : Int), bo false, u32 (0 : Int), u8 (0 : Int), u64 (0 : Int), u64 (0 : Int), i64 (0 : Int), i64 (0 : Int), u32 (0 : Int),
  IVal.v (Value.slice none 0 0), u32 (0 : Int), u8 (0 : Int), u8 (0 : Int), u8 (0 : Int), u8 (0 : Int), u8 (0 : Int), u8 (0 : Int), u8 (0 : Int), u8 (0 : Int), u8 (0 : Int), u8 (0 : Int),
  u8 (0 : Int), u8 (0 : Int), u8 (0 : Int), u8 (0 : Int), u8 (0 : Int), u8 (0 : Int), i64 (0 : Int), u32 (0 : Int), u32 (0 : Int), u32 (0 : Int), u16 (0 : Int), IVal.v (Value.slice none 0 0),
  IVal.v (Value.string (ByteArray.mk (Array.mk [])))])),
  (4, AVal.imm (IVal.v (Value.bool false)))] ∧
  ls 0 = ls 0 ∧ ls 1 = ls 1 ∧ True)
  (Tree.done Exit.ret
  (lret
  (IVal.tup
  [IVal.agg
  [u8 (0 : Int), u8 (0 : Int), u16 (0 : Int), u32 (0 : Int), bo false, u32 (0 : Int), u8 (0 : Int), u64 (0 : Int), u64 (0 : Int), i64 (0 : Int), i64 (0 : Int), u32 (0 : Int), IVal.v (Value.slice none 0 0),
  u32 (0 : Int), u8 (0 : Int), u8 (0 : Int), u8 (0 : Int), u8 (0 : Int), u8 (0 : Int), u8 (0 : Int), u8 (0 : Int), u8 (0 : Int), u8 (0 : Int), u8 (0 : Int), u8 (0 : Int), u8 (0 : Int), u8 (0 : Int), u8 (0 : Int),
  u8 (0 : Int), u8 (0 : Int), i64 (0 : Int), u32 (0 : Int), u32 (0 : Int), u32 (0 : Int), u16 (0 : Int), IVal.v (Value.slice none 0 0), IVal.v (Value.string (ByteArray.mk (Array.mk [])))],
  IVal.v (Value.bool false)])))))))
  (Tree.need
  (ALeL [AVal.ptr 0 0, AVal.imm (IVal.v (Value.int IntKind.i64 (1 : Int)))] [AVal.ptr 0 0, AVal.imm (i64 (1 : Int))] ∧
  PSpec prog 42 [(92, AVal.agg [AVal.imm (slE 1 u8 l)])] [] [AVal.ptr 0 0, AVal.imm (i64 (1 : Int))] errE)
  (Tree.need
  (errE = errE ∧
  [(42, AVal.imm z42), (4, AVal.imm (bo false))] =
  [(42,
  AVal.imm
  (IVal.agg
  [u8 (0 : Int), u8 (0 : Int), u16 (0 : Int), u32 (0 : Int), bo false, u32 (0 : Int), u8 (0 : Int), u64 (0 : Int), u64 (0 : Int), i64 (0 : Int), i64 (0 : Int), u32 (0 : Int), IVal.v (Value.slice none 0 0),
  u32 (0 : Int), u8 (0 : Int), u8 (0 : Int), u8 (0 : Int), u8 (0 : Int), u8 (0 : Int), u8 (0 : Int), u8 (0 : Int), u8 (0 : Int), u8 (0 : Int), u8 (0 : Int), u8 (0 : Int), u8 (0 : Int), u8 (0 : Int), u8 (0 : Int),
  u8 (0 : Int), u8 (0 : Int), i64 (0 : Int), u32 (0 : Int), u32 (0 : Int), u32 (0 : Int), u16 (0 : Int), IVal.v (Value.slice none 0 0), IVal.v (Value.string (ByteArray.mk (Array.mk [])))])),
  (4, AVal.imm (IVal.v (Value.bool false)))] ∧
  ls 0 = ls 0 ∧ ls 1 = ls 1 ∧ True)
  (Tree.done Exit.ret
  (lret
  (IVal.tup
  [IVal.agg
  [u8 (0 : Int), u8 (0 : Int), u16 (0 : Int), u32 (0 : Int), bo false, u32 (0 : Int), u8 (0 : Int), u64 (0 : Int), u64 (0 : Int), i64 (0 : Int), i64 (0 : Int), u32 (0 : Int), IVal.v (Value.slice none 0 0),
  u32 (0 : Int), u8 (0 : Int), u8 (0 : Int), u8 (0 : Int), u8 (0 : Int), u8 (0 : Int), u8 (0 : Int), u8 (0 : Int), u8 (0 : Int), u8 (0 : Int), u8 (0 : Int), u8 (0 : Int), u8 (0 : Int), u8 (0 : Int), u8 (0 : Int),
  u8 (0 : Int), u8 (0 : Int), i64 (0 : Int), u32 (0 : Int), u32 (0 : Int), u32 (0 : Int), u16 (0 : Int), IVal.v (Value.slice none 0 0), IVal.v (Value.string (ByteArray.mk (Array.mk [])))],
  IVal.v (Value.bool false)]))))) := by kernel_rfl
end Gp
