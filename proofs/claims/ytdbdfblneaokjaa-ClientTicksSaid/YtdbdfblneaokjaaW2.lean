/- Part 2 of the walk and of the plain law of ClientTicks. -/
import Derived.Test.YtdbdfblneaokjaaW1

set_option maxRecDepth 100000
set_option maxHeartbeats 0
set_option linter.unusedVariables false
set_option linter.unusedSimpArgs false
open Go Go.Abs
namespace Gp
theorem ile_eq {d r : IVal} (h : d = r) : ILe d r := h ▸ ILe.refl _
theorem ile_i64 {a b : Int} (h : a = b) : ILe (.v (.int .i64 a)) (i64 b) := h ▸ ILe.refl _
theorem ile_bo {a b : Bool} (h : a = b) : ILe (.v (.bool a)) (bo b) := h ▸ ILe.refl _
/-! the reference's orders -/
def cmpA' (a b : Addr) : Int := if a = b then 0 else if a.hi < b.hi ∨ a.hi = b.hi ∧ a.lo < b.lo then -1 else 1
def T74 (a b : Addr) : Tell :=
  Tell.mk (fun x x_1 => false) (fun x x_1 => Orc.no) (fun x => Tree.fail (1000003 : Nat) (0 : Nat)) (fun x => (0 : Nat)) (fun x => ([], [])) (fun x x_1 x_2 => Orc.no) fun x x_1 => Tree.fail (1000003 : Nat) (0 : Nat)
theorem t74 (a b : Addr) : levF prog Proofs.Try.f74 [encA a, encA b] (T74 a b) =
  Tree.br (if BinOp.eql = BinOp.neq then !(decide (a.hi = b.hi) && (decide (a.lo = b.lo) && true)) else decide (a.hi = b.hi) && (decide (a.lo = b.lo) && true)) (Tree.done Exit.ret (lret (IVal.v (Value.int IntKind.i64 (0 : Int)))))
  (Tree.br (decide (a.hi < b.hi)) (Tree.done Exit.ret (lret (IVal.v (Value.int IntKind.i64 (-1 : Int)))))
  (Tree.br (decide (a.hi = b.hi)) (Tree.br (decide (a.lo < b.lo)) (Tree.done Exit.ret (lret (IVal.v (Value.int IntKind.i64 (-1 : Int))))) (Tree.done Exit.ret (lret (IVal.v (Value.int IntKind.i64 (1 : Int))))))
  (Tree.done Exit.ret (lret (IVal.v (Value.int IntKind.i64 (1 : Int))))))) := by kernel_rfl
theorem c74 (a b : Addr) : ASpec prog 74 [encA a, encA b] (i64 (cmpA' a b)) := by
  refine ASpec.treeW Proofs.Try.f74 (T74 a b) (by kernel_rfl) (by kernel_rfl) (t74 a b) ?_
  refine ⟨fun h1 => ⟨_, rfl, ?_⟩, fun h1 => ⟨fun h2 => ⟨_, rfl, ?_⟩, fun h2 => ⟨fun h3 => ⟨fun h4 => ⟨_, rfl, ?_⟩, fun h4 => ⟨_, rfl, ?_⟩⟩, fun h3 => ⟨_, rfl, ?_⟩⟩⟩⟩
  all_goals (refine ile_i64 ?_; simp [cmpA', Addr.ext_iff] at *; grind)
def T58 (a b : Attest) : Tell :=
  Tell.mk (fun x x_1 => false) (fun x x_1 => Orc.no) (fun x => Tree.fail (1000003 : Nat) (0 : Nat)) (fun x => (0 : Nat)) (fun x => ([], [])) (fun x x_1 x_2 => Orc.no) fun x x_1 => Tree.fail (1000003 : Nat) (0 : Nat)
theorem t58 (a b : Attest) : levF prog Proofs.Try.f58 [encT a, encT b] (T58 a b) =
  Tree.done Exit.ret (lret (IVal.v (Value.bool (decide (a.cust < b.cust))))) := by kernel_rfl
theorem c58 (a b : Attest) : ASpec prog 58 [encT a, encT b] (bo (decide (a.cust < b.cust))) := by
  refine ASpec.treeW Proofs.Try.f58 (T58 a b) (by kernel_rfl) (by kernel_rfl) (t58 a b) ?_
  refine ⟨_, rfl, ?_⟩
  exact ILe.refl _
def befO (a b : Origin) : Bool :=
  if a.asn ≠ b.asn then decide (a.asn < b.asn) else if a.pfx.fam ≠ b.pfx.fam then decide (a.pfx.fam < b.pfx.fam) else if a.pfx.addr ≠ b.pfx.addr then decide (cmpA' a.pfx.addr b.pfx.addr < 0)
  else if a.pfx.len ≠ b.pfx.len then decide (a.pfx.len < b.pfx.len) else decide (a.max < b.max)
def T56 (a b : Origin) : Tell :=
  Tell.mk (fun x x_1 => false) (fun x x_1 => Orc.no) (fun x => Tree.fail (1000003 : Nat) (0 : Nat)) (fun x => (0 : Nat)) (fun x => ([], []))
  (oget [((29 : Nat), (7 : Nat), (4 : Nat), Orc.call [encA a.pfx.addr, encA b.pfx.addr] (i64 (cmpA' a.pfx.addr b.pfx.addr)))]) fun x x_1 => Tree.fail (1000003 : Nat) (0 : Nat)
theorem t56 (a b : Origin) : levF prog Proofs.Try.f56 [encO a, encO b] (T56 a b) =
  Tree.br (!decide (a.asn = b.asn)) (Tree.done Exit.ret (lret (IVal.v (Value.bool (decide (a.asn < b.asn))))))
  (Tree.br (!decide (a.pfx.fam = b.pfx.fam)) (Tree.done Exit.ret (lret (IVal.v (Value.bool (decide (a.pfx.fam < b.pfx.fam))))))
  (Tree.br (if BinOp.neq = BinOp.neq then !(decide (a.pfx.addr.hi = b.pfx.addr.hi) && (decide (a.pfx.addr.lo = b.pfx.addr.lo) && true)) else decide (a.pfx.addr.hi = b.pfx.addr.hi) && (decide (a.pfx.addr.lo = b.pfx.addr.lo) && true))
  (Tree.need
  (ILeL [IVal.agg [u64 a.pfx.addr.hi, u64 a.pfx.addr.lo], IVal.agg [u64 b.pfx.addr.hi, u64 b.pfx.addr.lo]] [encA a.pfx.addr, encA b.pfx.addr] ∧
  ASpec prog (74 : Nat) [encA a.pfx.addr, encA b.pfx.addr] (i64 (cmpA' a.pfx.addr b.pfx.addr)))
  (Tree.done Exit.ret (lret (IVal.v (Value.bool (decide (cmpA' a.pfx.addr b.pfx.addr < (0 : Int))))))))
  (Tree.br (!decide (a.pfx.len = b.pfx.len)) (Tree.done Exit.ret (lret (IVal.v (Value.bool (decide (a.pfx.len < b.pfx.len)))))) (Tree.done Exit.ret (lret (IVal.v (Value.bool (decide (a.max < b.max))))))))) := by kernel_rfl
theorem c56 (a b : Origin) : ASpec prog 56 [encO a, encO b] (bo (befO a b)) := by
  refine ASpec.treeW Proofs.Try.f56 (T56 a b) (by kernel_rfl) (by kernel_rfl) (t56 a b) ?_
  refine ⟨fun h1 => ⟨_, rfl, ?_⟩, fun h1 => ⟨fun h2 => ⟨_, rfl, ?_⟩, fun h2 => ⟨fun h3 => ⟨⟨ILeL.refl _, c74 _ _⟩, fun _ => ⟨_, rfl, ?_⟩⟩, fun h3 => ⟨fun h4 => ⟨_, rfl, ?_⟩, fun h4 => ⟨_, rfl, ?_⟩⟩⟩⟩⟩
  all_goals (refine ile_bo ?_; simp [befO, Addr.ext_iff] at *; grind)
def lexB : List (Int × Int) → Bool → Bool
  | [], e => e
  | (x, y) :: l, e => if x ≠ y then decide (x < y) else lexB l e
def befK (a b : RKey) : Bool := lexB [(a.asn, b.asn), (a.root[0], b.root[0]), (a.root[1], b.root[1]), (a.root[2], b.root[2]), (a.root[3], b.root[3]), (a.root[4], b.root[4]), (a.root[5], b.root[5]), (a.root[6], b.root[6]), (a.root[7], b.root[7]), (a.root[8], b.root[8]), (a.root[9], b.root[9]), (a.root[10], b.root[10]), (a.root[11], b.root[11]), (a.root[12], b.root[12]), (a.root[13], b.root[13]), (a.root[14], b.root[14]), (a.root[15], b.root[15])] (decide (a.height < b.height))
theorem t59 (a b : RKey) : levF prog Proofs.Try.f59 [encK a, encK b] { un := fun _ => 17 } =
  Tree.br (!decide (a.asn = b.asn)) (Tree.done Exit.ret (lret (IVal.v (Value.bool (decide (a.asn < b.asn))))))
  (Tree.br true
  (Tree.br (!decide (a.root[(0 : Nat)] = b.root[(0 : Nat)])) (Tree.done Exit.ret (lret (IVal.v (Value.bool (decide (a.root[(0 : Nat)] < b.root[(0 : Nat)]))))))
  (Tree.br true
  (Tree.br (!decide (a.root[(1 : Nat)] = b.root[(1 : Nat)])) (Tree.done Exit.ret (lret (IVal.v (Value.bool (decide (a.root[(1 : Nat)] < b.root[(1 : Nat)]))))))
  (Tree.br true
  (Tree.br (!decide (a.root[(2 : Nat)] = b.root[(2 : Nat)])) (Tree.done Exit.ret (lret (IVal.v (Value.bool (decide (a.root[(2 : Nat)] < b.root[(2 : Nat)]))))))
  (Tree.br true
  (Tree.br (!decide (a.root[(3 : Nat)] = b.root[(3 : Nat)])) (Tree.done Exit.ret (lret (IVal.v (Value.bool (decide (a.root[(3 : Nat)] < b.root[(3 : Nat)]))))))
  (Tree.br true
  (Tree.br (!decide (a.root[(4 : Nat)] = b.root[(4 : Nat)])) (Tree.done Exit.ret (lret (IVal.v (Value.bool (decide (a.root[(4 : Nat)] < b.root[(4 : Nat)]))))))
  (Tree.br true
  (Tree.br (!decide (a.root[(5 : Nat)] = b.root[(5 : Nat)])) (Tree.done Exit.ret (lret (IVal.v (Value.bool (decide (a.root[(5 : Nat)] < b.root[(5 : Nat)]))))))
  (Tree.br true
  (Tree.br (!decide (a.root[(6 : Nat)] = b.root[(6 : Nat)])) (Tree.done Exit.ret (lret (IVal.v (Value.bool (decide (a.root[(6 : Nat)] < b.root[(6 : Nat)]))))))
  (Tree.br true
  (Tree.br (!decide (a.root[(7 : Nat)] = b.root[(7 : Nat)])) (Tree.done Exit.ret (lret (IVal.v (Value.bool (decide (a.root[(7 : Nat)] < b.root[(7 : Nat)]))))))
  (Tree.br true
  (Tree.br (!decide (a.root[(8 : Nat)] = b.root[(8 : Nat)])) (Tree.done Exit.ret (lret (IVal.v (Value.bool (decide (a.root[(8 : Nat)] < b.root[(8 : Nat)]))))))
  (Tree.br true
  (Tree.br (!decide (a.root[(9 : Nat)] = b.root[(9 : Nat)])) (Tree.done Exit.ret (lret (IVal.v (Value.bool (decide (a.root[(9 : Nat)] < b.root[(9 : Nat)]))))))
  (Tree.br true
  (Tree.br (!decide (a.root[(10 : Nat)] = b.root[(10 : Nat)])) (Tree.done Exit.ret (lret (IVal.v (Value.bool (decide (a.root[(10 : Nat)] < b.root[(10 : Nat)]))))))
  (Tree.br true
  (Tree.br (!decide (a.root[(11 : Nat)] = b.root[(11 : Nat)])) (Tree.done Exit.ret (lret (IVal.v (Value.bool (decide (a.root[(11 : Nat)] < b.root[(11 : Nat)]))))))
  (Tree.br true
  (Tree.br (!decide (a.root[(12 : Nat)] = b.root[(12 : Nat)])) (Tree.done Exit.ret (lret (IVal.v (Value.bool (decide (a.root[(12 : Nat)] < b.root[(12 : Nat)]))))))
  (Tree.br true
  (Tree.br (!decide (a.root[(13 : Nat)] = b.root[(13 : Nat)])) (Tree.done Exit.ret (lret (IVal.v (Value.bool (decide (a.root[(13 : Nat)] < b.root[(13 : Nat)]))))))
  (Tree.br true
  (Tree.br (!decide (a.root[(14 : Nat)] = b.root[(14 : Nat)])) (Tree.done Exit.ret (lret (IVal.v (Value.bool (decide (a.root[(14 : Nat)] < b.root[(14 : Nat)]))))))
  (Tree.br true
  (Tree.br (!decide (a.root[(15 : Nat)] = b.root[(15 : Nat)])) (Tree.done Exit.ret (lret (IVal.v (Value.bool (decide (a.root[(15 : Nat)] < b.root[(15 : Nat)]))))))
  (Tree.br false
  (Tree.stop
  (LState.mk
  [((22 : Nat), AVal.ptr (0 : Nat) (1 : Nat)), ((21 : Nat), AVal.ptr (0 : Nat) (1 : Nat)), ((20 : Nat), AVal.imm (IVal.v (Value.int IntKind.i64 (16 : Int)))),
  ((17 : Nat), AVal.imm (IVal.v (Value.bool false))), ((16 : Nat), AVal.imm (IVal.v (Value.int IntKind.i64 (16 : Int)))),
  ((5 : Nat), AVal.imm (IVal.v (Value.int IntKind.i64 (16 : Int)))), ((19 : Nat), AVal.imm (IVal.v (Value.int IntKind.i64 (16 : Int)))),
  ((18 : Nat), AVal.imm (IVal.v (Value.int IntKind.i64 (15 : Int)))), ((30 : Nat), AVal.imm (IVal.v (Value.bool !decide (a.root[(15 : Nat)] = b.root[(15 : Nat)])))),
  ((29 : Nat), AVal.imm (u8 b.root[(15 : Nat)])), ((28 : Nat), AVal.ptr (1 : Nat) (16 : Nat)), ((27 : Nat), AVal.ptr (1 : Nat) (1 : Nat)),
  ((26 : Nat), AVal.ptr (1 : Nat) (1 : Nat)), ((25 : Nat), AVal.imm (IVal.v (Value.int IntKind.i64 (15 : Int)))), ((24 : Nat), AVal.imm (u8 a.root[(15 : Nat)])),
  ((23 : Nat), AVal.ptr (0 : Nat) (16 : Nat)), ((10 : Nat), AVal.imm (IVal.v (Value.bool !decide (a.asn = b.asn)))), ((9 : Nat), AVal.imm (u32 b.asn)),
  ((8 : Nat), AVal.ptr (1 : Nat) (0 : Nat)), ((7 : Nat), AVal.imm (u32 a.asn)), ((6 : Nat), AVal.ptr (0 : Nat) (0 : Nat)),
  ((4 : Nat), AVal.imm (IVal.v (Value.bool false))), ((3 : Nat), AVal.ptr (1 : Nat) (0 : Nat)), ((2 : Nat), AVal.ptr (0 : Nat) (0 : Nat)),
  ((0 : Nat), AVal.imm (encK a)), ((1 : Nat), AVal.imm (encK b))]
  [((1 : Nat), Entry.box (83 : Nat) (AVal.imm (encK b))), ((0 : Nat), Entry.box (83 : Nat) (AVal.imm (encK a)))] (49 : Nat) (267 : Nat) [((4 : Nat), false)])
  (6 : Nat) (3 : Nat) (Op.indexAddr (79 : Nat) (Operand.tmp (22 : Nat)) (Operand.tmp (20 : Nat))))
  (Tree.done Exit.ret (lret (IVal.v (Value.bool (decide (a.height < b.height))))))))
  (Tree.done Exit.ret (lret (IVal.v (Value.bool (decide (a.height < b.height))))))))
  (Tree.done Exit.ret (lret (IVal.v (Value.bool (decide (a.height < b.height))))))))
  (Tree.done Exit.ret (lret (IVal.v (Value.bool (decide (a.height < b.height))))))))
  (Tree.done Exit.ret (lret (IVal.v (Value.bool (decide (a.height < b.height))))))))
  (Tree.done Exit.ret (lret (IVal.v (Value.bool (decide (a.height < b.height))))))))
  (Tree.done Exit.ret (lret (IVal.v (Value.bool (decide (a.height < b.height))))))))
  (Tree.done Exit.ret (lret (IVal.v (Value.bool (decide (a.height < b.height))))))))
  (Tree.done Exit.ret (lret (IVal.v (Value.bool (decide (a.height < b.height))))))))
  (Tree.done Exit.ret (lret (IVal.v (Value.bool (decide (a.height < b.height))))))))
  (Tree.done Exit.ret (lret (IVal.v (Value.bool (decide (a.height < b.height))))))))
  (Tree.done Exit.ret (lret (IVal.v (Value.bool (decide (a.height < b.height))))))))
  (Tree.done Exit.ret (lret (IVal.v (Value.bool (decide (a.height < b.height))))))))
  (Tree.done Exit.ret (lret (IVal.v (Value.bool (decide (a.height < b.height))))))))
  (Tree.done Exit.ret (lret (IVal.v (Value.bool (decide (a.height < b.height))))))))
  (Tree.done Exit.ret (lret (IVal.v (Value.bool (decide (a.height < b.height))))))))
  (Tree.done Exit.ret (lret (IVal.v (Value.bool (decide (a.height < b.height))))))) := by kernel_rfl
theorem c59 (a b : RKey) : ASpec prog 59 [encK a, encK b] (bo (befK a b)) := by
  refine ASpec.treeW Proofs.Try.f59 { un := fun _ => 17 } (by kernel_rfl) (by kernel_rfl) (t59 a b) ?_
  refine ⟨fun h1 => ⟨_, rfl, ?_⟩, fun h1 => ⟨fun _ => ⟨fun h2 => ⟨_, rfl, ?_⟩, fun h2 => ⟨fun _ => ⟨fun h3 => ⟨_, rfl, ?_⟩, fun h3 => ⟨fun _ => ⟨fun h4 => ⟨_, rfl, ?_⟩, fun h4 => ⟨fun _ => ⟨fun h5 => ⟨_, rfl, ?_⟩, fun h5 => ⟨fun _ => ⟨fun h6 => ⟨_, rfl, ?_⟩, fun h6 => ⟨fun _ => ⟨fun h7 => ⟨_, rfl, ?_⟩, fun h7 => ⟨fun _ => ⟨fun h8 => ⟨_, rfl, ?_⟩, fun h8 => ⟨fun _ => ⟨fun h9 => ⟨_, rfl, ?_⟩, fun h9 => ⟨fun _ => ⟨fun h10 => ⟨_, rfl, ?_⟩, fun h10 => ⟨fun _ => ⟨fun h11 => ⟨_, rfl, ?_⟩, fun h11 => ⟨fun _ => ⟨fun h12 => ⟨_, rfl, ?_⟩, fun h12 => ⟨fun _ => ⟨fun h13 => ⟨_, rfl, ?_⟩, fun h13 => ⟨fun _ => ⟨fun h14 => ⟨_, rfl, ?_⟩, fun h14 => ⟨fun _ => ⟨fun h15 => ⟨_, rfl, ?_⟩, fun h15 => ⟨fun _ => ⟨fun h16 => ⟨_, rfl, ?_⟩, fun h16 => ⟨fun _ => ⟨fun h17 => ⟨_, rfl, ?_⟩, fun h17 => ⟨fun h => (by cases h), fun _ => ⟨_, rfl, ?_⟩⟩⟩, fun h => (by cases h)⟩⟩, fun h => (by cases h)⟩⟩, fun h => (by cases h)⟩⟩, fun h => (by cases h)⟩⟩, fun h => (by cases h)⟩⟩, fun h => (by cases h)⟩⟩, fun h => (by cases h)⟩⟩, fun h => (by cases h)⟩⟩, fun h => (by cases h)⟩⟩, fun h => (by cases h)⟩⟩, fun h => (by cases h)⟩⟩, fun h => (by cases h)⟩⟩, fun h => (by cases h)⟩⟩, fun h => (by cases h)⟩⟩, fun h => (by cases h)⟩⟩, fun h => (by cases h)⟩⟩
  all_goals (refine ile_bo ?_; simp only [Bool.not_eq_true', Bool.not_eq_false', decide_eq_true_eq, decide_eq_false_iff_not] at *; simp only [befK, lexB, ne_eq, *, not_true_eq_false, not_false_eq_true, if_true, if_false])
end Gp
namespace Gp
/-! lists of numbers -/
def P46 (l r : List Int) (i : Nat) : Bool := neI (l.getD i 0) (r.getD i 0)
def I46 (l r : List Int) (i : Nat) : LState := { t := [(5, .imm (i64 i)), (0, .imm (lu32 l)), (1, .imm (lu32 r))], s := [], m := 26, n := 0 }
def R46 (l r : List Int) (i : Nat) : LState := { t := [(4, .imm (bo false))], s := [], m := 26, n := 0 }
def E46 (l r : List Int) : LState := { t := [], s := [], m := 26, n := 0 }
def fin46 : Exit → Fin
  | .normal => ⟨[], [5, 0, 1], []⟩
  | .ret => ⟨[], [4], []⟩
  | _ => ⟨[], [], []⟩
def L46 (l r : List Int) : Tree := Lfirst (P46 l r) l.length 0 (R46 l r) (E46 l r)
def T46r (l r : List Int) (i : Nat) : Tell :=
  Tell.mk (fun x x_1 => false) (fun x x_1 => Orc.no) (fun x => Tree.fail (1000003 : Nat) (0 : Nat)) (fun x => (0 : Nat)) (fun x => ([], []))
  (oget [((4 : Nat), (6 : Nat), (2 : Nat), Orc.elem (u32 (List.getD l i default))), ((4 : Nat), (6 : Nat), (6 : Nat), Orc.elem (u32 (List.getD r i default)))]) fun x x_1 => Tree.fail (1000003 : Nat) (0 : Nat)
theorem t46r (l r : List Int) (i : Nat) : levL prog Proofs.Try.f46 4 (I46 l r i) (T46r l r i) fin46 =
  Tree.br (decide ((↑i : Int) < (↑(List.length (List.map u32 l)) : Int)))
  (Tree.need ((0 : Int) ≤ (↑i : Int) ∧ (List.map u32 l)[i]? = some (u32 (List.getD l i (0 : Int))))
  (Tree.need ((0 : Int) ≤ (↑i : Int) ∧ (List.map u32 r)[i]? = some (u32 (List.getD r i (0 : Int))))
  (Tree.br (!decide (List.getD l i (0 : Int) = List.getD r i (0 : Int))) (Tree.done Exit.ret (LState.mk [((4 : Nat), AVal.imm (IVal.v (Value.bool false)))] [] (26 : Nat) (14 : Nat) []))
  (Tree.done Exit.normal
  (LState.mk [((5 : Nat), AVal.imm (IVal.v (Value.int IntKind.i64 (IntKind.wrap IntKind.i64 ((↑i : Int) + (1 : Int)))))), ((0 : Nat), AVal.imm (lu32 l)), ((1 : Nat), AVal.imm (lu32 r))] [] (26 : Nat) (16 : Nat) [])))))
  (Tree.done (Exit.exit (0 : Nat)) (LState.mk [] [] (26 : Nat) (4 : Nat) [])) := by kernel_rfl
def B46 (l r : List Int) : Tell := { Lp := fun _ => L46 l r, lv := fun _ => ([5, 0, 1], []) }
def T46 (l r : List Int) : Tell :=
  Tell.mk (fun x x_1 => false) (fun x x_1 => Orc.no) (fun x => L46 l r) (fun x => (0 : Nat)) (fun x => ([(5 : Nat), (0 : Nat), (1 : Nat)], [])) (fun x x_1 x_2 => Orc.no) fun x x_1 => L46 l r
theorem t46 (l r : List Int) : levF prog Proofs.Try.f46 [lu32 l, lu32 r] (T46 l r) =
  Tree.br (!decide ((↑(List.length (List.map u32 l)) : Int) = (↑(List.length (List.map u32 r)) : Int))) (Tree.done Exit.ret (lret (IVal.v (Value.bool false))))
  (Tree.loop (4 : Nat) (LState.mk [((5 : Nat), AVal.imm (IVal.v (Value.int IntKind.i64 (0 : Int)))), ((0 : Nat), AVal.imm (lu32 l)), ((1 : Nat), AVal.imm (lu32 r))] [] (26 : Nat) (7 : Nat) [])
  (Tree.br (anyI (P46 l r) (0 : Nat) (List.length l)) (Tree.done Exit.ret (R46 l r (firstI (P46 l r) (0 : Nat) (List.length l)))) (Tree.done (Exit.exit (0 : Nat)) (E46 l r)))
  (Tree.br (anyI (P46 l r) (0 : Nat) (List.length l)) (Tree.done Exit.ret (lret (IVal.v (Value.bool false)))) (Tree.done Exit.ret (lret (IVal.v (Value.bool true)))))) := by kernel_rfl
theorem l46 (l r : List Int) (hl : l.length ≤ 2 ^ 62) (hlr : l.length = r.length) (σ : LState) (h : LSub σ (I46 l r 0)) : LoopOk prog [] (bodyOf Proofs.Try.f46) 4 σ (L46 l r) := by
  refine LoopOk.first (P46 l r) l.length 0 (I46 l r) (R46 l r) (E46 l r) (T46r l r) fin46 (by kernel_rfl) h fun i hi hz => ?_
  rw [t46r]
  refine ⟨fun h1 => ⟨elem_need ?_, fun _ => ⟨elem_need ?_, fun _ => ⟨fun h2 => ?_, fun h2 => ?_⟩⟩⟩, fun h1 => ?_⟩
  · (refine ⟨by omega, ?_, ?_⟩ <;> (simp only [List.length_map, decide_eq_true_eq, decide_eq_false_iff_not, Int.toNat_natCast] at * <;> omega))
  · (refine ⟨by omega, ?_, ?_⟩ <;> (simp only [List.length_map, decide_eq_true_eq, decide_eq_false_iff_not, Int.toNat_natCast] at * <;> omega))
  · exact ⟨by (simp only [List.length_map, decide_eq_true_eq, decide_eq_false_iff_not, Int.toNat_natCast] at * <;> omega), h2, by simp [R46, bo, LSub, tsub, ssub, tl, sl, linT, linS, ainB, ainBL]⟩
  · exact ⟨by (simp only [List.length_map, decide_eq_true_eq, decide_eq_false_iff_not, Int.toNat_natCast] at * <;> omega), h2, by simp [I46, i64, i64_small (n := i) (by (simp only [List.length_map, decide_eq_true_eq, decide_eq_false_iff_not, Int.toNat_natCast] at * <;> omega)) hl, LSub, tsub, ssub, tl, sl, linT, linS, ainB, ainBL]⟩
  · exact ⟨rfl, by (simp only [List.length_map, decide_eq_true_eq, decide_eq_false_iff_not, Int.toNat_natCast] at * <;> omega), by simp [E46, LSub, tsub, ssub, tl, sl, linT, linS, ainB, ainBL]⟩
theorem c46 (l r : List Int) (hl : l.length ≤ 2 ^ 62) : ASpec prog 46 [lu32 l, lu32 r] (bo (decide (l = r))) := by
  have he : sameL neI 0 l r = decide (l = r) := by rw [Bool.eq_iff_iff, sameL_iff (fun a b => by simp [neI])]; simp
  rw [← he]
  refine ASpec.treeW Proofs.Try.f46 (T46 l r) (by kernel_rfl) (by kernel_rfl) (t46 l r) ?_
  refine ⟨fun h1 => ⟨_, rfl, ?_⟩, fun h1 => ⟨?_, ⟨fun h2 => ⟨_, rfl, ?_⟩, fun h2 => ⟨_, rfl, ?_⟩⟩⟩⟩
  · have : ¬ l.length = r.length := by simp at h1; omega
    exact ile_bo (by simp [sameL, this])
  · exact l46 l r hl (by simp at h1; omega) _ (by simp [I46, i64, LSub, tsub, ssub, tl, sl, linT, linS, ainB, ainBL])
  · have : l.length = r.length := by simp at h1; omega
    refine ile_bo ?_
    simp only [sameL, show diffAt neI 0 l r = P46 l r from rfl, h2]; simp
  · have : l.length = r.length := by simp at h1; omega
    refine ile_bo ?_
    simp only [sameL, show diffAt neI 0 l r = P46 l r from rfl, h2]; simp [this]
def P47 (l r : List Int) (i : Nat) : Bool := neI (l.getD i 0) (r.getD i 0)
def I47 (l r : List Int) (i : Nat) : LState := { t := [(5, .imm (i64 i)), (0, .imm (lu8 l)), (1, .imm (lu8 r))], s := [], m := 26, n := 0 }
def R47 (l r : List Int) (i : Nat) : LState := { t := [(4, .imm (bo false))], s := [], m := 26, n := 0 }
def E47 (l r : List Int) : LState := { t := [], s := [], m := 26, n := 0 }
def fin47 : Exit → Fin
  | .normal => ⟨[], [5, 0, 1], []⟩
  | .ret => ⟨[], [4], []⟩
  | _ => ⟨[], [], []⟩
def L47 (l r : List Int) : Tree := Lfirst (P47 l r) l.length 0 (R47 l r) (E47 l r)
def T47r (l r : List Int) (i : Nat) : Tell :=
  Tell.mk (fun x x_1 => false) (fun x x_1 => Orc.no) (fun x => Tree.fail (1000003 : Nat) (0 : Nat)) (fun x => (0 : Nat)) (fun x => ([], []))
  (oget [((4 : Nat), (6 : Nat), (2 : Nat), Orc.elem (u8 (List.getD l i default))), ((4 : Nat), (6 : Nat), (6 : Nat), Orc.elem (u8 (List.getD r i default)))]) fun x x_1 => Tree.fail (1000003 : Nat) (0 : Nat)
theorem t47r (l r : List Int) (i : Nat) : levL prog Proofs.Try.f47 4 (I47 l r i) (T47r l r i) fin47 =
  Tree.br (decide ((↑i : Int) < (↑(List.length (List.map u8 l)) : Int)))
  (Tree.need ((0 : Int) ≤ (↑i : Int) ∧ (List.map u8 l)[i]? = some (u8 (List.getD l i (0 : Int))))
  (Tree.need ((0 : Int) ≤ (↑i : Int) ∧ (List.map u8 r)[i]? = some (u8 (List.getD r i (0 : Int))))
  (Tree.br (!decide (List.getD l i (0 : Int) = List.getD r i (0 : Int))) (Tree.done Exit.ret (LState.mk [((4 : Nat), AVal.imm (IVal.v (Value.bool false)))] [] (26 : Nat) (14 : Nat) []))
  (Tree.done Exit.normal
  (LState.mk [((5 : Nat), AVal.imm (IVal.v (Value.int IntKind.i64 (IntKind.wrap IntKind.i64 ((↑i : Int) + (1 : Int)))))), ((0 : Nat), AVal.imm (lu8 l)), ((1 : Nat), AVal.imm (lu8 r))] [] (26 : Nat) (16 : Nat) [])))))
  (Tree.done (Exit.exit (0 : Nat)) (LState.mk [] [] (26 : Nat) (4 : Nat) [])) := by kernel_rfl
def B47 (l r : List Int) : Tell := { Lp := fun _ => L47 l r, lv := fun _ => ([5, 0, 1], []) }
def T47 (l r : List Int) : Tell :=
  Tell.mk (fun x x_1 => false) (fun x x_1 => Orc.no) (fun x => L47 l r) (fun x => (0 : Nat)) (fun x => ([(5 : Nat), (0 : Nat), (1 : Nat)], [])) (fun x x_1 x_2 => Orc.no) fun x x_1 => L47 l r
theorem t47 (l r : List Int) : levF prog Proofs.Try.f47 [lu8 l, lu8 r] (T47 l r) =
  Tree.br (!decide ((↑(List.length (List.map u8 l)) : Int) = (↑(List.length (List.map u8 r)) : Int))) (Tree.done Exit.ret (lret (IVal.v (Value.bool false))))
  (Tree.loop (4 : Nat) (LState.mk [((5 : Nat), AVal.imm (IVal.v (Value.int IntKind.i64 (0 : Int)))), ((0 : Nat), AVal.imm (lu8 l)), ((1 : Nat), AVal.imm (lu8 r))] [] (26 : Nat) (7 : Nat) [])
  (Tree.br (anyI (P47 l r) (0 : Nat) (List.length l)) (Tree.done Exit.ret (R47 l r (firstI (P47 l r) (0 : Nat) (List.length l)))) (Tree.done (Exit.exit (0 : Nat)) (E47 l r)))
  (Tree.br (anyI (P47 l r) (0 : Nat) (List.length l)) (Tree.done Exit.ret (lret (IVal.v (Value.bool false)))) (Tree.done Exit.ret (lret (IVal.v (Value.bool true)))))) := by kernel_rfl
theorem l47 (l r : List Int) (hl : l.length ≤ 2 ^ 62) (hlr : l.length = r.length) (σ : LState) (h : LSub σ (I47 l r 0)) : LoopOk prog [] (bodyOf Proofs.Try.f47) 4 σ (L47 l r) := by
  refine LoopOk.first (P47 l r) l.length 0 (I47 l r) (R47 l r) (E47 l r) (T47r l r) fin47 (by kernel_rfl) h fun i hi hz => ?_
  rw [t47r]
  refine ⟨fun h1 => ⟨elem_need ?_, fun _ => ⟨elem_need ?_, fun _ => ⟨fun h2 => ?_, fun h2 => ?_⟩⟩⟩, fun h1 => ?_⟩
  · (refine ⟨by omega, ?_, ?_⟩ <;> (simp only [List.length_map, decide_eq_true_eq, decide_eq_false_iff_not, Int.toNat_natCast] at * <;> omega))
  · (refine ⟨by omega, ?_, ?_⟩ <;> (simp only [List.length_map, decide_eq_true_eq, decide_eq_false_iff_not, Int.toNat_natCast] at * <;> omega))
  · exact ⟨by (simp only [List.length_map, decide_eq_true_eq, decide_eq_false_iff_not, Int.toNat_natCast] at * <;> omega), h2, by simp [R47, bo, LSub, tsub, ssub, tl, sl, linT, linS, ainB, ainBL]⟩
  · exact ⟨by (simp only [List.length_map, decide_eq_true_eq, decide_eq_false_iff_not, Int.toNat_natCast] at * <;> omega), h2, by simp [I47, i64, i64_small (n := i) (by (simp only [List.length_map, decide_eq_true_eq, decide_eq_false_iff_not, Int.toNat_natCast] at * <;> omega)) hl, LSub, tsub, ssub, tl, sl, linT, linS, ainB, ainBL]⟩
  · exact ⟨rfl, by (simp only [List.length_map, decide_eq_true_eq, decide_eq_false_iff_not, Int.toNat_natCast] at * <;> omega), by simp [E47, LSub, tsub, ssub, tl, sl, linT, linS, ainB, ainBL]⟩
theorem c47 (l r : List Int) (hl : l.length ≤ 2 ^ 62) : ASpec prog 47 [lu8 l, lu8 r] (bo (decide (l = r))) := by
  have he : sameL neI 0 l r = decide (l = r) := by rw [Bool.eq_iff_iff, sameL_iff (fun a b => by simp [neI])]; simp
  rw [← he]
  refine ASpec.treeW Proofs.Try.f47 (T47 l r) (by kernel_rfl) (by kernel_rfl) (t47 l r) ?_
  refine ⟨fun h1 => ⟨_, rfl, ?_⟩, fun h1 => ⟨?_, ⟨fun h2 => ⟨_, rfl, ?_⟩, fun h2 => ⟨_, rfl, ?_⟩⟩⟩⟩
  · have : ¬ l.length = r.length := by simp at h1; omega
    exact ile_bo (by simp [sameL, this])
  · exact l47 l r hl (by simp at h1; omega) _ (by simp [I47, i64, LSub, tsub, ssub, tl, sl, linT, linS, ainB, ainBL])
  · have : l.length = r.length := by simp at h1; omega
    refine ile_bo ?_
    simp only [sameL, show diffAt neI 0 l r = P47 l r from rfl, h2]; simp
  · have : l.length = r.length := by simp at h1; omega
    refine ile_bo ?_
    simp only [sameL, show diffAt neI 0 l r = P47 l r from rfl, h2]; simp [this]
def P36 (a b : Attest) (i : Nat) : Bool := neI (a.provs.getD i 0) (b.provs.getD i 0)
def I36 (a b : Attest) (i : Nat) : LState := { t := [(5, .imm (i64 i)), (3, .ptr 1 0), (2, .ptr 0 0)], s := [(0, .box 77 (.imm (encT a))), (1, .box 77 (.imm (encT b)))], m := 38, n := 2 }
def R36 (a b : Attest) (i : Nat) : LState := { t := [(4, .imm (bo false))], s := [], m := 38, n := 2 }
def E36 (a b : Attest) : LState := { t := [], s := [], m := 38, n := 2 }
def fin36 : Exit → Fin
  | .normal => ⟨[], [5, 3, 2], [0, 1]⟩
  | .ret => ⟨[], [4], []⟩
  | _ => ⟨[], [], []⟩
def L36 (a b : Attest) : Tree := Lfirst (P36 a b) a.provs.length 0 (R36 a b) (E36 a b)
def T36r (a b : Attest) (i : Nat) : Tell :=
  Tell.mk (fun x x_1 => false) (fun x x_1 => Orc.no) (fun x => Tree.fail (1000003 : Nat) (0 : Nat)) (fun x => (0 : Nat)) (fun x => ([], []))
  (oget [((7 : Nat), (6 : Nat), (3 : Nat), Orc.elem (u32 (List.getD a.provs i default))), ((7 : Nat), (6 : Nat), (8 : Nat), Orc.elem (u32 (List.getD b.provs i default)))]) fun x x_1 => Tree.fail (1000003 : Nat) (0 : Nat)
theorem t36r (a b : Attest) (i : Nat) : levL prog Proofs.Try.f36 4 (I36 a b i) (T36r a b i) fin36 =
  Tree.br (decide ((↑i : Int) < (↑(List.length (List.map u32 a.provs)) : Int)))
  (Tree.need ((0 : Int) ≤ (↑i : Int) ∧ (List.map u32 a.provs)[i]? = some (u32 (List.getD a.provs i (0 : Int))))
  (Tree.need ((0 : Int) ≤ (↑i : Int) ∧ (List.map u32 b.provs)[i]? = some (u32 (List.getD b.provs i (0 : Int))))
  (Tree.br (!decide (List.getD a.provs i (0 : Int) = List.getD b.provs i (0 : Int))) (Tree.done Exit.ret (LState.mk [((4 : Nat), AVal.imm (IVal.v (Value.bool false)))] [] (38 : Nat) (19 : Nat) []))
  (Tree.done Exit.normal
  (LState.mk [((5 : Nat), AVal.imm (IVal.v (Value.int IntKind.i64 (IntKind.wrap IntKind.i64 ((↑i : Int) + (1 : Int)))))), ((3 : Nat), AVal.ptr (1 : Nat) (0 : Nat)), ((2 : Nat), AVal.ptr (0 : Nat) (0 : Nat))]
  [((0 : Nat), Entry.box (77 : Nat) (AVal.imm (encT a))), ((1 : Nat), Entry.box (77 : Nat) (AVal.imm (encT b)))] (38 : Nat) (21 : Nat) [])))))
  (Tree.done (Exit.exit (0 : Nat)) (LState.mk [] [] (38 : Nat) (7 : Nat) [])) := by kernel_rfl
def B36 (a b : Attest) : Tell := { Lp := fun _ => L36 a b, lv := fun _ => ([5, 3, 2], [0, 1]) }
def T36 (a b : Attest) : Tell :=
  Tell.mk (fun x x_1 => false) (fun x x_1 => Orc.no) (fun x => L36 a b) (fun x => (0 : Nat)) (fun x => ([(5 : Nat), (3 : Nat), (2 : Nat)], [(0 : Nat), (1 : Nat)])) (fun x x_1 x_2 => Orc.no) fun x x_1 => L36 a b
theorem t36 (a b : Attest) : levF prog Proofs.Try.f36 [encT a, encT b] (T36 a b) =
  Tree.br (!decide (a.cust = b.cust)) (Tree.done Exit.ret (lret (IVal.v (Value.bool false))))
  (Tree.br (!decide ((↑(List.length (List.map u32 a.provs)) : Int) = (↑(List.length (List.map u32 b.provs)) : Int))) (Tree.done Exit.ret (lret (IVal.v (Value.bool false))))
  (Tree.loop (4 : Nat)
  (LState.mk [((5 : Nat), AVal.imm (IVal.v (Value.int IntKind.i64 (0 : Int)))), ((3 : Nat), AVal.ptr (1 : Nat) (0 : Nat)), ((2 : Nat), AVal.ptr (0 : Nat) (0 : Nat))]
  [((0 : Nat), Entry.box (77 : Nat) (AVal.imm (encT a))), ((1 : Nat), Entry.box (77 : Nat) (AVal.imm (encT b)))] (38 : Nat) (18 : Nat) [])
  (Tree.br (anyI (P36 a b) (0 : Nat) (List.length a.provs)) (Tree.done Exit.ret (R36 a b (firstI (P36 a b) (0 : Nat) (List.length a.provs)))) (Tree.done (Exit.exit (0 : Nat)) (E36 a b)))
  (Tree.br (anyI (P36 a b) (0 : Nat) (List.length a.provs)) (Tree.done Exit.ret (lret (IVal.v (Value.bool false)))) (Tree.done Exit.ret (lret (IVal.v (Value.bool true))))))) := by kernel_rfl
theorem l36 (a b : Attest) (hl : a.provs.length ≤ 2 ^ 62) (hlr : a.provs.length = b.provs.length) (σ : LState) (h : LSub σ (I36 a b 0)) : LoopOk prog [] (bodyOf Proofs.Try.f36) 4 σ (L36 a b) := by
  refine LoopOk.first (P36 a b) a.provs.length 0 (I36 a b) (R36 a b) (E36 a b) (T36r a b) fin36 (by kernel_rfl) h fun i hi hz => ?_
  rw [t36r]
  refine ⟨fun h1 => ⟨elem_need ?_, fun _ => ⟨elem_need ?_, fun _ => ⟨fun h2 => ?_, fun h2 => ?_⟩⟩⟩, fun h1 => ?_⟩
  · (refine ⟨by omega, ?_, ?_⟩ <;> (simp only [List.length_map, decide_eq_true_eq, decide_eq_false_iff_not, Int.toNat_natCast] at * <;> omega))
  · (refine ⟨by omega, ?_, ?_⟩ <;> (simp only [List.length_map, decide_eq_true_eq, decide_eq_false_iff_not, Int.toNat_natCast] at * <;> omega))
  · exact ⟨by (simp only [List.length_map, decide_eq_true_eq, decide_eq_false_iff_not, Int.toNat_natCast] at * <;> omega), h2, by simp [R36, bo, LSub, tsub, ssub, tl, sl, linT, linS, ainB, ainBL]⟩
  · exact ⟨by (simp only [List.length_map, decide_eq_true_eq, decide_eq_false_iff_not, Int.toNat_natCast] at * <;> omega), h2, by simp [I36, i64, i64_small (n := i) (by (simp only [List.length_map, decide_eq_true_eq, decide_eq_false_iff_not, Int.toNat_natCast] at * <;> omega)) hl, LSub, tsub, ssub, tl, sl, linT, linS, ainB, ainBL]⟩
  · exact ⟨rfl, by (simp only [List.length_map, decide_eq_true_eq, decide_eq_false_iff_not, Int.toNat_natCast] at * <;> omega), by simp [E36, LSub, tsub, ssub, tl, sl, linT, linS, ainB, ainBL]⟩
theorem c36 (a b : Attest) (hl : a.provs.length ≤ 2 ^ 62) : ASpec prog 36 [encT a, encT b] (bo (decide (a = b))) := by
  have he : sameL neI 0 a.provs b.provs = decide (a.provs = b.provs) := by rw [Bool.eq_iff_iff, sameL_iff (fun a b => by simp [neI])]; simp
  have hab : decide (a = b) = (decide (a.cust = b.cust) && decide (a.provs = b.provs)) := by rw [Bool.eq_iff_iff]; cases a; cases b; simp
  rw [hab, ← he]
  refine ASpec.treeW Proofs.Try.f36 (T36 a b) (by kernel_rfl) (by kernel_rfl) (t36 a b) ?_
  refine ⟨fun h1 => ⟨_, rfl, ?_⟩, fun h1 => ⟨fun h2 => ⟨_, rfl, ?_⟩, fun h2 => ⟨?_, ⟨fun h3 => ⟨_, rfl, ?_⟩, fun h3 => ⟨_, rfl, ?_⟩⟩⟩⟩⟩
  · have : ¬ a.cust = b.cust := by simpa using h1
    exact ile_bo (by simp [this])
  · have : ¬ a.provs.length = b.provs.length := by simp at h2; omega
    exact ile_bo (by simp [sameL, this])
  · exact l36 a b hl (by simp at h2; omega) _ (by simp [I36, i64, LSub, tsub, ssub, tl, sl, linT, linS, ainB, ainBL])
  · refine ile_bo ?_
    simp only [sameL, show diffAt neI 0 a.provs b.provs = P36 a b from rfl, h3]; simp
  · have h2 : a.provs.length = b.provs.length := by simp at h2; omega
    have h1 : a.cust = b.cust := by simpa using h1
    refine ile_bo ?_
    simp only [sameL, show diffAt neI 0 a.provs b.provs = P36 a b from rfl, h3]; simp [h1, h2]
def diffB {α : Type} (ne : α → α → Bool) (d : α) (l r : List α) (i : Nat) : Bool := ne (l.getD i d) (r.getD i d)
def P18a (p q : Payload) (i : Nat) : Bool := neO (p.origins.getD i default) (q.origins.getD i default)
def I18a (p q : Payload) (i : Nat) : LState := { t := [(5, .imm (i64 i)), (3, .ptr 1 0), (2, .ptr 0 0)], s := [(0, .box 28 (.imm (encL p))), (1, .box 28 (.imm (encL q)))], m := 88, n := 2 }
def R18a (p q : Payload) (i : Nat) : LState := { t := [(4, .imm (bo false))], s := [], m := 88, n := 2 }
def E18a (p q : Payload) : LState := { t := [(3, .ptr 1 0), (2, .ptr 0 0)], s := [(0, .box 28 (.imm (encL p))), (1, .box 28 (.imm (encL q)))], m := 88, n := 2 }
def fin18a : Exit → Fin
  | .normal => ⟨[], [5, 3, 2], [0, 1]⟩
  | .ret => ⟨[], [4], []⟩
  | _ => ⟨[], [3, 2], [0, 1]⟩
def L18a (p q : Payload) : Tree := Lfirst (P18a p q) p.origins.length 0 (R18a p q) (E18a p q)
def T18ar (p q : Payload) (i : Nat) : Tell :=
  Tell.mk (fun x x_1 => false) (fun x x_1 => Orc.no) (fun x => Tree.fail (1000003 : Nat) (0 : Nat)) (fun x => (0 : Nat)) (fun x => ([], []))
  (oget [((7 : Nat), (6 : Nat), (3 : Nat), Orc.elem (encO (List.getD p.origins i default))), ((7 : Nat), (6 : Nat), (8 : Nat), Orc.elem (encO (List.getD q.origins i default)))]) fun x x_1 => Tree.fail (1000003 : Nat) (0 : Nat)
theorem t18ar (p q : Payload) (i : Nat) : levL prog Proofs.Try.f18 4 (I18a p q i) (T18ar p q i) fin18a =
  Tree.br (decide ((↑i : Int) < (↑(List.length (List.map encO p.origins)) : Int)))
  (Tree.need ((0 : Int) ≤ (↑i : Int) ∧ (List.map encO p.origins)[i]? = some (encO (List.getD p.origins i default)))
  (Tree.need ((0 : Int) ≤ (↑i : Int) ∧ (List.map encO q.origins)[i]? = some (encO (List.getD q.origins i default)))
  (Tree.br
  (if BinOp.neq = BinOp.neq then
  !(decide ((List.getD p.origins i default).asn = (List.getD q.origins i default).asn) &&
  (decide ((List.getD p.origins i default).pfx.fam = (List.getD q.origins i default).pfx.fam) &&
  (decide ((List.getD p.origins i default).pfx.addr.hi = (List.getD q.origins i default).pfx.addr.hi) &&
  (decide ((List.getD p.origins i default).pfx.addr.lo = (List.getD q.origins i default).pfx.addr.lo) &&
  (decide ((List.getD p.origins i default).pfx.len = (List.getD q.origins i default).pfx.len) && (decide ((List.getD p.origins i default).max = (List.getD q.origins i default).max) && true))))))
  else
  decide ((List.getD p.origins i default).asn = (List.getD q.origins i default).asn) &&
  (decide ((List.getD p.origins i default).pfx.fam = (List.getD q.origins i default).pfx.fam) &&
  (decide ((List.getD p.origins i default).pfx.addr.hi = (List.getD q.origins i default).pfx.addr.hi) &&
  (decide ((List.getD p.origins i default).pfx.addr.lo = (List.getD q.origins i default).pfx.addr.lo) &&
  (decide ((List.getD p.origins i default).pfx.len = (List.getD q.origins i default).pfx.len) && (decide ((List.getD p.origins i default).max = (List.getD q.origins i default).max) && true))))))
  (Tree.done Exit.ret (LState.mk [((4 : Nat), AVal.imm (IVal.v (Value.bool false)))] [] (88 : Nat) (19 : Nat) []))
  (Tree.done Exit.normal
  (LState.mk [((5 : Nat), AVal.imm (IVal.v (Value.int IntKind.i64 (IntKind.wrap IntKind.i64 ((↑i : Int) + (1 : Int)))))), ((3 : Nat), AVal.ptr (1 : Nat) (0 : Nat)), ((2 : Nat), AVal.ptr (0 : Nat) (0 : Nat))]
  [((0 : Nat), Entry.box (28 : Nat) (AVal.imm (encL p))), ((1 : Nat), Entry.box (28 : Nat) (AVal.imm (encL q)))] (88 : Nat) (21 : Nat) [])))))
  (Tree.done (Exit.exit (0 : Nat))
  (LState.mk [((3 : Nat), AVal.ptr (1 : Nat) (0 : Nat)), ((2 : Nat), AVal.ptr (0 : Nat) (0 : Nat))] [((0 : Nat), Entry.box (28 : Nat) (AVal.imm (encL p))), ((1 : Nat), Entry.box (28 : Nat) (AVal.imm (encL q)))] (88 : Nat) (7 : Nat) [])) := by kernel_rfl
theorem l18a (p q : Payload) (hl : p.origins.length ≤ 2 ^ 62) (hlr : p.origins.length = q.origins.length) (σ : LState) (h : LSub σ (I18a p q 0)) : LoopOk prog [] (bodyOf Proofs.Try.f18) 4 σ (L18a p q) := by
  refine LoopOk.first (P18a p q) p.origins.length 0 (I18a p q) (R18a p q) (E18a p q) (T18ar p q) fin18a (by kernel_rfl) h fun i hi hz => ?_
  rw [t18ar]
  refine ⟨fun h1 => ⟨elem_need ?_, fun _ => ⟨elem_need ?_, fun _ => ⟨fun h2 => ?_, fun h2 => ?_⟩⟩⟩, fun h1 => ?_⟩
  · (refine ⟨by omega, ?_, ?_⟩ <;> (simp only [List.length_map, decide_eq_true_eq, decide_eq_false_iff_not, Int.toNat_natCast] at * <;> omega))
  · (refine ⟨by omega, ?_, ?_⟩ <;> (simp only [List.length_map, decide_eq_true_eq, decide_eq_false_iff_not, Int.toNat_natCast] at * <;> omega))
  · exact ⟨by (simp only [List.length_map, decide_eq_true_eq, decide_eq_false_iff_not, Int.toNat_natCast] at * <;> omega), h2, by simp [R18a, bo, LSub, tsub, ssub, tl, sl, linT, linS, ainB, ainBL]⟩
  · exact ⟨by (simp only [List.length_map, decide_eq_true_eq, decide_eq_false_iff_not, Int.toNat_natCast] at * <;> omega), h2, by simp [I18a, i64, i64_small (n := i) (by (simp only [List.length_map, decide_eq_true_eq, decide_eq_false_iff_not, Int.toNat_natCast] at * <;> omega)) hl, LSub, tsub, ssub, tl, sl, linT, linS, ainB, ainBL]⟩
  · exact ⟨rfl, by (simp only [List.length_map, decide_eq_true_eq, decide_eq_false_iff_not, Int.toNat_natCast] at * <;> omega), by simp [E18a, LSub, tsub, ssub, tl, sl, linT, linS, ainB, ainBL]⟩
def P18b (p q : Payload) (i : Nat) : Bool := !decide (p.paths.getD i default = q.paths.getD i default)
def I18b (p q : Payload) (i : Nat) : LState := { t := [(6, .imm (i64 i)), (3, .ptr 1 0), (2, .ptr 0 0)], s := [(0, .box 28 (.imm (encL p))), (1, .box 28 (.imm (encL q)))], m := 88, n := 2 }
def R18b (p q : Payload) (i : Nat) : LState := { t := [(4, .imm (bo false))], s := [], m := 88, n := 2 }
def E18b (p q : Payload) : LState := { t := [(3, .ptr 1 0), (2, .ptr 0 0)], s := [(0, .box 28 (.imm (encL p))), (1, .box 28 (.imm (encL q)))], m := 88, n := 2 }
def fin18b : Exit → Fin
  | .normal => ⟨[], [6, 3, 2], [0, 1]⟩
  | .ret => ⟨[], [4], []⟩
  | _ => ⟨[], [3, 2], [0, 1]⟩
def L18b (p q : Payload) : Tree := Lfirst (P18b p q) p.paths.length 2 (R18b p q) (E18b p q)
def T18br (p q : Payload) (i : Nat) : Tell :=
  Tell.mk (fun x x_1 => false) (fun x x_1 => Orc.no) (fun x => Tree.fail (1000003 : Nat) (0 : Nat)) (fun x => (0 : Nat)) (fun x => ([], []))
  (oget
  [((7 : Nat), (11 : Nat), (3 : Nat), Orc.elem (encT (List.getD p.paths i default))), ((7 : Nat), (11 : Nat), (8 : Nat), Orc.elem (encT (List.getD q.paths i default))),
  ((7 : Nat), (11 : Nat), (10 : Nat), Orc.call [encT (List.getD p.paths i default), encT (List.getD q.paths i default)] (bo (decide (List.getD p.paths i default = List.getD q.paths i default))))])
  fun x x_1 => Tree.fail (1000003 : Nat) (0 : Nat)
theorem t18br (p q : Payload) (i : Nat) : levL prog Proofs.Try.f18 9 (I18b p q i) (T18br p q i) fin18b =
  Tree.br (decide ((↑i : Int) < (↑(List.length (List.map encT p.paths)) : Int)))
  (Tree.need ((0 : Int) ≤ (↑i : Int) ∧ (List.map encT p.paths)[i]? = some (encT (List.getD p.paths i default)))
  (Tree.need ((0 : Int) ≤ (↑i : Int) ∧ (List.map encT q.paths)[i]? = some (encT (List.getD q.paths i default)))
  (Tree.need
  (ILeL [encT (List.getD p.paths i default), encT (List.getD q.paths i default)] [encT (List.getD p.paths i default), encT (List.getD q.paths i default)] ∧
  ASpec prog (36 : Nat) [encT (List.getD p.paths i default), encT (List.getD q.paths i default)] (bo (decide (List.getD p.paths i default = List.getD q.paths i default))))
  (Tree.br (!decide (List.getD p.paths i default = List.getD q.paths i default)) (Tree.done Exit.ret (LState.mk [((4 : Nat), AVal.imm (IVal.v (Value.bool false)))] [] (88 : Nat) (20 : Nat) []))
  (Tree.done Exit.normal
  (LState.mk [((6 : Nat), AVal.imm (IVal.v (Value.int IntKind.i64 (IntKind.wrap IntKind.i64 ((↑i : Int) + (1 : Int)))))), ((3 : Nat), AVal.ptr (1 : Nat) (0 : Nat)), ((2 : Nat), AVal.ptr (0 : Nat) (0 : Nat))]
  [((0 : Nat), Entry.box (28 : Nat) (AVal.imm (encL p))), ((1 : Nat), Entry.box (28 : Nat) (AVal.imm (encL q)))] (88 : Nat) (22 : Nat) []))))))
  (Tree.done (Exit.exit (2 : Nat))
  (LState.mk [((3 : Nat), AVal.ptr (1 : Nat) (0 : Nat)), ((2 : Nat), AVal.ptr (0 : Nat) (0 : Nat))] [((0 : Nat), Entry.box (28 : Nat) (AVal.imm (encL p))), ((1 : Nat), Entry.box (28 : Nat) (AVal.imm (encL q)))] (88 : Nat) (7 : Nat) [])) := by kernel_rfl
theorem l18b (p q : Payload) (hT : ∀ a ∈ p.paths, okT a) (hl : p.paths.length ≤ 2 ^ 62) (hlr : p.paths.length = q.paths.length) (σ : LState) (h : LSub σ (I18b p q 0)) : LoopOk prog [] (bodyOf Proofs.Try.f18) 9 σ (L18b p q) := by
  refine LoopOk.first (P18b p q) p.paths.length 2 (I18b p q) (R18b p q) (E18b p q) (T18br p q) fin18b (by kernel_rfl) h fun i hi hz => ?_
  rw [t18br]
  refine ⟨fun h1 => ⟨elem_need ?_, fun _ => ⟨elem_need ?_, fun _ => ⟨⟨ILeL.refl _, c36 _ _ ?_⟩, fun _ => ⟨fun h2 => ?_, fun h2 => ?_⟩⟩⟩⟩, fun h1 => ?_⟩
  · (refine ⟨by omega, ?_, ?_⟩ <;> (simp only [List.length_map, decide_eq_true_eq, decide_eq_false_iff_not, Int.toNat_natCast] at * <;> omega))
  · (refine ⟨by omega, ?_, ?_⟩ <;> (simp only [List.length_map, decide_eq_true_eq, decide_eq_false_iff_not, Int.toNat_natCast] at * <;> omega))
  · have := hT _ (getD_mem p.paths i (by (simp only [List.length_map, decide_eq_true_eq, decide_eq_false_iff_not, Int.toNat_natCast] at * <;> omega))); unfold okT at this; omega
  · exact ⟨by (simp only [List.length_map, decide_eq_true_eq, decide_eq_false_iff_not, Int.toNat_natCast] at * <;> omega), h2, by simp [R18b, bo, LSub, tsub, ssub, tl, sl, linT, linS, ainB, ainBL]⟩
  · exact ⟨by (simp only [List.length_map, decide_eq_true_eq, decide_eq_false_iff_not, Int.toNat_natCast] at * <;> omega), h2, by simp [I18b, i64, i64_small (n := i) (by (simp only [List.length_map, decide_eq_true_eq, decide_eq_false_iff_not, Int.toNat_natCast] at * <;> omega)) hl, LSub, tsub, ssub, tl, sl, linT, linS, ainB, ainBL]⟩
  · exact ⟨rfl, by (simp only [List.length_map, decide_eq_true_eq, decide_eq_false_iff_not, Int.toNat_natCast] at * <;> omega), by simp [E18b, LSub, tsub, ssub, tl, sl, linT, linS, ainB, ainBL]⟩
def P18c (p q : Payload) (i : Nat) : Bool := neK (p.keys.getD i default) (q.keys.getD i default)
def I18c (p q : Payload) (i : Nat) : LState := { t := [(7, .imm (i64 i)), (3, .ptr 1 0), (2, .ptr 0 0)], s := [(0, .box 28 (.imm (encL p))), (1, .box 28 (.imm (encL q)))], m := 88, n := 2 }
def R18c (p q : Payload) (i : Nat) : LState := { t := [(4, .imm (bo false))], s := [], m := 88, n := 2 }
def E18c (p q : Payload) : LState := { t := [(3, .ptr 1 0), (2, .ptr 0 0)], s := [(0, .box 28 (.imm (encL p))), (1, .box 28 (.imm (encL q)))], m := 88, n := 2 }
def fin18c : Exit → Fin
  | .normal => ⟨[], [7, 3, 2], [0, 1]⟩
  | .ret => ⟨[], [4], []⟩
  | _ => ⟨[], [3, 2], [0, 1]⟩
def L18c (p q : Payload) : Tree := Lfirst (P18c p q) p.keys.length 4 (R18c p q) (E18c p q)
def T18cr (p q : Payload) (i : Nat) : Tell :=
  Tell.mk (fun x x_1 => false) (fun x x_1 => Orc.no) (fun x => Tree.fail (1000003 : Nat) (0 : Nat)) (fun x => (0 : Nat)) (fun x => ([], []))
  (oget [((7 : Nat), (16 : Nat), (3 : Nat), Orc.elem (encK (List.getD p.keys i default))), ((7 : Nat), (16 : Nat), (8 : Nat), Orc.elem (encK (List.getD q.keys i default)))]) fun x x_1 => Tree.fail (1000003 : Nat) (0 : Nat)
theorem t18cr (p q : Payload) (i : Nat) : levL prog Proofs.Try.f18 14 (I18c p q i) (T18cr p q i) fin18c =
  Tree.br (decide ((↑i : Int) < (↑(List.length (List.map encK p.keys)) : Int)))
  (Tree.need ((0 : Int) ≤ (↑i : Int) ∧ (List.map encK p.keys)[i]? = some (encK (List.getD p.keys i default)))
  (Tree.need ((0 : Int) ≤ (↑i : Int) ∧ (List.map encK q.keys)[i]? = some (encK (List.getD q.keys i default)))
  (Tree.br
  (if BinOp.neq = BinOp.neq then
  !(decide ((List.getD p.keys i default).asn = (List.getD q.keys i default).asn) &&
  (decide ((List.getD p.keys i default).root[(0 : Nat)] = (List.getD q.keys i default).root[(0 : Nat)]) &&
  (decide ((List.getD p.keys i default).root[(1 : Nat)] = (List.getD q.keys i default).root[(1 : Nat)]) &&
  (decide ((List.getD p.keys i default).root[(2 : Nat)] = (List.getD q.keys i default).root[(2 : Nat)]) &&
  (decide ((List.getD p.keys i default).root[(3 : Nat)] = (List.getD q.keys i default).root[(3 : Nat)]) &&
  (decide ((List.getD p.keys i default).root[(4 : Nat)] = (List.getD q.keys i default).root[(4 : Nat)]) &&
  (decide ((List.getD p.keys i default).root[(5 : Nat)] = (List.getD q.keys i default).root[(5 : Nat)]) &&
  (decide ((List.getD p.keys i default).root[(6 : Nat)] = (List.getD q.keys i default).root[(6 : Nat)]) &&
  (decide ((List.getD p.keys i default).root[(7 : Nat)] = (List.getD q.keys i default).root[(7 : Nat)]) &&
  (decide ((List.getD p.keys i default).root[(8 : Nat)] = (List.getD q.keys i default).root[(8 : Nat)]) &&
  (decide ((List.getD p.keys i default).root[(9 : Nat)] = (List.getD q.keys i default).root[(9 : Nat)]) &&
  (decide ((List.getD p.keys i default).root[(10 : Nat)] = (List.getD q.keys i default).root[(10 : Nat)]) &&
  (decide ((List.getD p.keys i default).root[(11 : Nat)] = (List.getD q.keys i default).root[(11 : Nat)]) &&
  (decide ((List.getD p.keys i default).root[(12 : Nat)] = (List.getD q.keys i default).root[(12 : Nat)]) &&
  (decide ((List.getD p.keys i default).root[(13 : Nat)] = (List.getD q.keys i default).root[(13 : Nat)]) &&
  (decide ((List.getD p.keys i default).root[(14 : Nat)] = (List.getD q.keys i default).root[(14 : Nat)]) &&
  (decide ((List.getD p.keys i default).root[(15 : Nat)] = (List.getD q.keys i default).root[(15 : Nat)]) &&
  (decide ((List.getD p.keys i default).height = (List.getD q.keys i default).height) && true))))))))))))))))))
  else
  decide ((List.getD p.keys i default).asn = (List.getD q.keys i default).asn) &&
  (decide ((List.getD p.keys i default).root[(0 : Nat)] = (List.getD q.keys i default).root[(0 : Nat)]) &&
  (decide ((List.getD p.keys i default).root[(1 : Nat)] = (List.getD q.keys i default).root[(1 : Nat)]) &&
  (decide ((List.getD p.keys i default).root[(2 : Nat)] = (List.getD q.keys i default).root[(2 : Nat)]) &&
  (decide ((List.getD p.keys i default).root[(3 : Nat)] = (List.getD q.keys i default).root[(3 : Nat)]) &&
  (decide ((List.getD p.keys i default).root[(4 : Nat)] = (List.getD q.keys i default).root[(4 : Nat)]) &&
  (decide ((List.getD p.keys i default).root[(5 : Nat)] = (List.getD q.keys i default).root[(5 : Nat)]) &&
  (decide ((List.getD p.keys i default).root[(6 : Nat)] = (List.getD q.keys i default).root[(6 : Nat)]) &&
  (decide ((List.getD p.keys i default).root[(7 : Nat)] = (List.getD q.keys i default).root[(7 : Nat)]) &&
  (decide ((List.getD p.keys i default).root[(8 : Nat)] = (List.getD q.keys i default).root[(8 : Nat)]) &&
  (decide ((List.getD p.keys i default).root[(9 : Nat)] = (List.getD q.keys i default).root[(9 : Nat)]) &&
  (decide ((List.getD p.keys i default).root[(10 : Nat)] = (List.getD q.keys i default).root[(10 : Nat)]) &&
  (decide ((List.getD p.keys i default).root[(11 : Nat)] = (List.getD q.keys i default).root[(11 : Nat)]) &&
  (decide ((List.getD p.keys i default).root[(12 : Nat)] = (List.getD q.keys i default).root[(12 : Nat)]) &&
  (decide ((List.getD p.keys i default).root[(13 : Nat)] = (List.getD q.keys i default).root[(13 : Nat)]) &&
  (decide ((List.getD p.keys i default).root[(14 : Nat)] = (List.getD q.keys i default).root[(14 : Nat)]) &&
  (decide ((List.getD p.keys i default).root[(15 : Nat)] = (List.getD q.keys i default).root[(15 : Nat)]) &&
  (decide ((List.getD p.keys i default).height = (List.getD q.keys i default).height) && true))))))))))))))))))
  (Tree.done Exit.ret (LState.mk [((4 : Nat), AVal.imm (IVal.v (Value.bool false)))] [] (88 : Nat) (19 : Nat) []))
  (Tree.done Exit.normal
  (LState.mk [((7 : Nat), AVal.imm (IVal.v (Value.int IntKind.i64 (IntKind.wrap IntKind.i64 ((↑i : Int) + (1 : Int)))))), ((3 : Nat), AVal.ptr (1 : Nat) (0 : Nat)), ((2 : Nat), AVal.ptr (0 : Nat) (0 : Nat))]
  [((0 : Nat), Entry.box (28 : Nat) (AVal.imm (encL p))), ((1 : Nat), Entry.box (28 : Nat) (AVal.imm (encL q)))] (88 : Nat) (21 : Nat) [])))))
  (Tree.done (Exit.exit (4 : Nat))
  (LState.mk [((3 : Nat), AVal.ptr (1 : Nat) (0 : Nat)), ((2 : Nat), AVal.ptr (0 : Nat) (0 : Nat))] [((0 : Nat), Entry.box (28 : Nat) (AVal.imm (encL p))), ((1 : Nat), Entry.box (28 : Nat) (AVal.imm (encL q)))] (88 : Nat) (7 : Nat) [])) := by kernel_rfl
theorem l18c (p q : Payload) (hl : p.keys.length ≤ 2 ^ 62) (hlr : p.keys.length = q.keys.length) (σ : LState) (h : LSub σ (I18c p q 0)) : LoopOk prog [] (bodyOf Proofs.Try.f18) 14 σ (L18c p q) := by
  refine LoopOk.first (P18c p q) p.keys.length 4 (I18c p q) (R18c p q) (E18c p q) (T18cr p q) fin18c (by kernel_rfl) h fun i hi hz => ?_
  rw [t18cr]
  refine ⟨fun h1 => ⟨elem_need ?_, fun _ => ⟨elem_need ?_, fun _ => ⟨fun h2 => ?_, fun h2 => ?_⟩⟩⟩, fun h1 => ?_⟩
  · (refine ⟨by omega, ?_, ?_⟩ <;> (simp only [List.length_map, decide_eq_true_eq, decide_eq_false_iff_not, Int.toNat_natCast] at * <;> omega))
  · (refine ⟨by omega, ?_, ?_⟩ <;> (simp only [List.length_map, decide_eq_true_eq, decide_eq_false_iff_not, Int.toNat_natCast] at * <;> omega))
  · exact ⟨by (simp only [List.length_map, decide_eq_true_eq, decide_eq_false_iff_not, Int.toNat_natCast] at * <;> omega), h2, by simp [R18c, bo, LSub, tsub, ssub, tl, sl, linT, linS, ainB, ainBL]⟩
  · exact ⟨by (simp only [List.length_map, decide_eq_true_eq, decide_eq_false_iff_not, Int.toNat_natCast] at * <;> omega), h2, by simp [I18c, i64, i64_small (n := i) (by (simp only [List.length_map, decide_eq_true_eq, decide_eq_false_iff_not, Int.toNat_natCast] at * <;> omega)) hl, LSub, tsub, ssub, tl, sl, linT, linS, ainB, ainBL]⟩
  · exact ⟨rfl, by (simp only [List.length_map, decide_eq_true_eq, decide_eq_false_iff_not, Int.toNat_natCast] at * <;> omega), by simp [E18c, LSub, tsub, ssub, tl, sl, linT, linS, ainB, ainBL]⟩
def B18 (p q : Payload) : Tell := { Lp := fun k => match k with | 4 => L18a p q | 9 => L18b p q | _ => L18c p q, lv := fun k => match k with | 4 => ([5, 3, 2], [0, 1]) | 9 => ([6, 3, 2], [0, 1]) | _ => ([7, 3, 2], [0, 1]) }
def T18 (p q : Payload) : Tell :=
  Tell.mk (fun x x_1 => false) (fun x x_1 => Orc.no)
  (fun k =>
  match k with
  | (4 : Nat) => L18a p q
  | (9 : Nat) => L18b p q
  | x => L18c p q)
  (fun x => (0 : Nat))
  (fun k =>
  match k with
  | (4 : Nat) => ([(5 : Nat), (3 : Nat), (2 : Nat)], [(0 : Nat), (1 : Nat)])
  | (9 : Nat) => ([(6 : Nat), (3 : Nat), (2 : Nat)], [(0 : Nat), (1 : Nat)])
  | x => ([(7 : Nat), (3 : Nat), (2 : Nat)], [(0 : Nat), (1 : Nat)]))
  (fun x x_1 x_2 => Orc.no) fun x k =>
  match k with
  | (4 : Nat) => L18a p q
  | (9 : Nat) => L18b p q
  | x => L18c p q
theorem t18 (p q : Payload) : levF prog Proofs.Try.f18 [encL p, encL q] (T18 p q) =
  Tree.br (!decide ((↑(List.length (List.map encO p.origins)) : Int) = (↑(List.length (List.map encO q.origins)) : Int))) (Tree.done Exit.ret (lret (IVal.v (Value.bool false))))
  (Tree.br (!decide ((↑(List.length (List.map encT p.paths)) : Int) = (↑(List.length (List.map encT q.paths)) : Int))) (Tree.done Exit.ret (lret (IVal.v (Value.bool false))))
  (Tree.br (!decide ((↑(List.length (List.map encK p.keys)) : Int) = (↑(List.length (List.map encK q.keys)) : Int))) (Tree.done Exit.ret (lret (IVal.v (Value.bool false))))
  (Tree.loop (4 : Nat)
  (LState.mk [((5 : Nat), AVal.imm (IVal.v (Value.int IntKind.i64 (0 : Int)))), ((3 : Nat), AVal.ptr (1 : Nat) (0 : Nat)), ((2 : Nat), AVal.ptr (0 : Nat) (0 : Nat))]
  [((0 : Nat), Entry.box (28 : Nat) (AVal.imm (encL p))), ((1 : Nat), Entry.box (28 : Nat) (AVal.imm (encL q)))] (88 : Nat) (29 : Nat) [])
  (Tree.br (anyI (P18a p q) (0 : Nat) (List.length p.origins)) (Tree.done Exit.ret (R18a p q (firstI (P18a p q) (0 : Nat) (List.length p.origins)))) (Tree.done (Exit.exit (0 : Nat)) (E18a p q)))
  (Tree.br (anyI (P18a p q) (0 : Nat) (List.length p.origins)) (Tree.done Exit.ret (lret (IVal.v (Value.bool false))))
  (Tree.loop (9 : Nat)
  (LState.mk [((6 : Nat), AVal.imm (IVal.v (Value.int IntKind.i64 (0 : Int)))), ((3 : Nat), AVal.ptr (1 : Nat) (0 : Nat)), ((2 : Nat), AVal.ptr (0 : Nat) (0 : Nat))]
  [((0 : Nat), Entry.box (28 : Nat) (AVal.imm (encL p))), ((1 : Nat), Entry.box (28 : Nat) (AVal.imm (encL q)))] (88 : Nat) (3 : Nat) [])
  (Tree.br (anyI (P18b p q) (0 : Nat) (List.length p.paths)) (Tree.done Exit.ret (R18b p q (firstI (P18b p q) (0 : Nat) (List.length p.paths)))) (Tree.done (Exit.exit (2 : Nat)) (E18b p q)))
  (Tree.br (anyI (P18b p q) (0 : Nat) (List.length p.paths)) (Tree.done Exit.ret (lret (IVal.v (Value.bool false))))
  (Tree.loop (14 : Nat)
  (LState.mk [((7 : Nat), AVal.imm (IVal.v (Value.int IntKind.i64 (0 : Int)))), ((3 : Nat), AVal.ptr (1 : Nat) (0 : Nat)), ((2 : Nat), AVal.ptr (0 : Nat) (0 : Nat))]
  [((0 : Nat), Entry.box (28 : Nat) (AVal.imm (encL p))), ((1 : Nat), Entry.box (28 : Nat) (AVal.imm (encL q)))] (88 : Nat) (3 : Nat) [])
  (Tree.br (anyI (P18c p q) (0 : Nat) (List.length p.keys)) (Tree.done Exit.ret (R18c p q (firstI (P18c p q) (0 : Nat) (List.length p.keys)))) (Tree.done (Exit.exit (4 : Nat)) (E18c p q)))
  (Tree.br (anyI (P18c p q) (0 : Nat) (List.length p.keys)) (Tree.done Exit.ret (lret (IVal.v (Value.bool false)))) (Tree.done Exit.ret (lret (IVal.v (Value.bool true)))))))))))) := by kernel_rfl
theorem c18 (p q : Payload) (hp : p.ok) : ASpec prog 18 [encL p, encL q] (bo (decide (p = q))) := by
  have h1 := hp.o; have h2 := hp.t; have h3 := hp.k
  have hab : decide (p = q) = (sameL neO default p.origins q.origins && (sameL (fun a b => !decide (a = b)) default p.paths q.paths && sameL neK default p.keys q.keys)) := by
    rw [Bool.eq_iff_iff, Bool.and_eq_true, Bool.and_eq_true, sameL_iff neO_iff, sameL_iff (fun a b => by simp), sameL_iff neK_iff]
    cases p; cases q; simp
  rw [hab]
  have d1 : diffAt neO default p.origins q.origins = P18a p q := rfl
  have d2 : diffAt (fun a b => !decide (a = b)) default p.paths q.paths = P18b p q := rfl
  have d3 : diffAt neK default p.keys q.keys = P18c p q := rfl
  refine ASpec.treeW Proofs.Try.f18 (T18 p q) (by kernel_rfl) (by kernel_rfl) (t18 p q) ?_
  refine ⟨fun h1 => ⟨_, rfl, ?_⟩, fun h1 => ⟨fun h2 => ⟨_, rfl, ?_⟩, fun h2 => ⟨fun h3 => ⟨_, rfl, ?_⟩, fun h3 => ⟨?_, ⟨fun h4 => ⟨_, rfl, ?_⟩, fun h4 => ⟨?_, ⟨fun h5 => ⟨_, rfl, ?_⟩, fun h5 => ⟨?_, ⟨fun h6 => ⟨_, rfl, ?_⟩, fun h6 => ⟨_, rfl, ?_⟩⟩⟩⟩⟩⟩⟩⟩⟩⟩
  · have : ¬ p.origins.length = q.origins.length := by simp at h1; omega
    exact ile_bo (by simp [sameL, this])
  · have : ¬ p.paths.length = q.paths.length := by simp at h2; omega
    exact ile_bo (by simp [sameL, this])
  · have : ¬ p.keys.length = q.keys.length := by simp at h3; omega
    exact ile_bo (by simp [sameL, this])
  · exact l18a p q (by omega) (by simp at h1; omega) _ (by simp [I18a, i64, LSub, tsub, ssub, tl, sl, linT, linS, ainB, ainBL])
  · exact ile_bo (by simp [sameL, d1, h4])
  · exact l18b p q hp.p (by omega) (by simp at h2; omega) _ (by simp [I18b, i64, LSub, tsub, ssub, tl, sl, linT, linS, ainB, ainBL])
  · exact ile_bo (by simp [sameL, d2, h5])
  · exact l18c p q (by omega) (by simp at h3; omega) _ (by simp [I18c, i64, LSub, tsub, ssub, tl, sl, linT, linS, ainB, ainBL])
  · exact ile_bo (by simp [sameL, d3, h6])
  · have e1 : p.origins.length = q.origins.length := by simp at h1; omega
    have e2 : p.paths.length = q.paths.length := by simp at h2; omega
    have e3 : p.keys.length = q.keys.length := by simp at h3; omega
    have a1 : anyI (P18a p q) 0 q.origins.length = false := by rw [← e1]; exact h4
    have a2 : anyI (P18b p q) 0 q.paths.length = false := by rw [← e2]; exact h5
    have a3 : anyI (P18c p q) 0 q.keys.length = false := by rw [← e3]; exact h6
    exact ile_bo (by simp [sameL, d1, d2, d3, a1, a2, a3, e1, e2, e3])
end Gp
namespace Gp
/-! the reference's copies -/
theorem ileL_map {α : Type} {e e' : α → IVal} (h : ∀ x, ILe (e x) (e' x)) : ∀ l : List α, ILeL (l.map e) (l.map e')
  | [] => .refl _
  | x :: l => .cons (h x) (ileL_map h l)
theorem ile_sl {f : Bool} {k : Nat} {l l' : List IVal} (h : ILeL l l') : ILe (.sl true f k l) (.sl false f k l') := .sl (fun h => by cases h) (fun h => h) h
def encTF (a : Attest) : IVal := .agg [u32 a.cust, slF 1 u32 a.provs]
theorem encTF_le (a : Attest) : ILe (encTF a) (encT a) := .agg (.cons (.refl _) (.cons (.sl (fun h => by cases h) (fun h => h) (.refl _)) (.refl _)))
def B20 (p : Payload) (c : AVal) : Entry := .box 28 (.agg [.imm (slF 6 encO p.origins), c, .imm (slF 18 encK p.keys)])
def I20 (p : Payload) (i : Nat) : LState := { t := [(4, .imm (i64 i)), (3, .ptr 11 0), (2, .ptr 1 0), (1, .ptr 0 0)], s := [(0, .box 28 (.imm (encL p))), (1, Z29), (11, B20 p (.own 50 i)), (50, .row 77 2 ((p.paths.take i).map encTF))], m := 42, n := 60 }
def E20 (p : Payload) : LState := { t := [(3, .ptr 11 0), (2, .ptr 1 0)], s := [(1, Z29), (11, B20 p (.own 50 p.paths.length)), (50, .row 77 2 (p.paths.map encTF))], m := 42, n := 60 }
def fin20 : Exit → Fin
  | .normal => ⟨[(50, 59), (83, 50)], [4, 3, 2, 1], [0, 1, 11, 50]⟩
  | _ => ⟨[], [3, 2], [1, 11, 50]⟩
def T20r (p : Payload) (i : Nat) : Tell :=
  Tell.mk
  (fun r i =>
  (Tell.mk (fun x x_1 => false) (fun x x_1 => Orc.no) (fun x => Tree.fail (1000003 : Nat) (0 : Nat)) (fun x => (0 : Nat)) (fun x => ([], [])) (fun x x_1 x_2 => Orc.no) fun x x_1 => Tree.fail (1000003 : Nat) (0 : Nat)).fz r i ||
  fget [((5 : Nat), (15 : Nat)), ((5 : Nat), (8 : Nat))] r i)
  (fun x x_1 => Orc.no) (fun x => Tree.fail (1000003 : Nat) (0 : Nat)) (fun x => (0 : Nat)) (fun x => ([], []))
  (oget [((65 : Nat), (5 : Nat), (5 : Nat), Orc.elem (encT (List.getD p.paths i default))), ((65 : Nat), (5 : Nat), (12 : Nat), Orc.elem (encT (List.getD p.paths i default)))]) fun x x_1 => Tree.fail (1000003 : Nat) (0 : Nat)
theorem t20r (p : Payload) (i : Nat) : levL prog Proofs.Try.f20 3 (I20 p i) (T20r p i) fin20 =
  Tree.br (decide ((↑i : Int) < (↑(List.length (List.map encT p.paths)) : Int)))
  (Tree.need ((0 : Int) ≤ (↑i : Int) ∧ (List.map encT p.paths)[i]? = some (encT (List.getD p.paths i default)))
  (Tree.need ((0 : Int) ≤ (↑i : Int) ∧ (List.map encT p.paths)[i]? = some (encT (List.getD p.paths i default)))
  (Tree.need (true = true ∧ cellsOk (List.map u32 (List.getD p.paths i default).provs) = true ∧ (0 : Nat) + List.length (List.map u32 (List.getD p.paths i default).provs) ≤ (1000000 : Nat))
  (Tree.need (List.length (List.map encTF (List.take i p.paths)) = i ∧ cellsOk (List.map encTF (List.take i p.paths)) = true ∧ true = true ∧ i + (1 : Nat) ≤ (1000000 : Nat))
  (Tree.done Exit.normal
  (LState.mk
  [((4 : Nat), AVal.imm (IVal.v (Value.int IntKind.i64 (IntKind.wrap IntKind.i64 ((↑i : Int) + (1 : Int)))))), ((3 : Nat), AVal.ptr (11 : Nat) (0 : Nat)), ((2 : Nat), AVal.ptr (1 : Nat) (0 : Nat)),
  ((1 : Nat), AVal.ptr (0 : Nat) (0 : Nat))]
  [((0 : Nat), Entry.box (28 : Nat) (AVal.imm (encL p))),
  ((1 : Nat), Entry.box (28 : Nat) (AVal.imm (IVal.agg [IVal.v (Value.slice none (0 : Nat) (0 : Nat)), IVal.v (Value.slice none (0 : Nat) (0 : Nat)), IVal.v (Value.slice none (0 : Nat) (0 : Nat))]))),
  ((11 : Nat), Entry.box (28 : Nat) (AVal.agg [AVal.imm (slF (6 : Nat) encO p.origins), AVal.own (50 : Nat) (i + (1 : Nat)), AVal.imm (slF (18 : Nat) encK p.keys)])),
  ((50 : Nat),
  Entry.row (77 : Nat) (2 : Nat) (List.map encTF (List.take i p.paths) ++ [IVal.agg [u32 (List.getD p.paths i default).cust, IVal.sl true false (1 : Nat) ([] ++ List.map u32 (List.getD p.paths i default).provs)]]))]
  (42 : Nat) (89 : Nat) []))))))
  (Tree.done (Exit.exit (0 : Nat))
  (LState.mk [((3 : Nat), AVal.ptr (11 : Nat) (0 : Nat)), ((2 : Nat), AVal.ptr (1 : Nat) (0 : Nat))]
  [((1 : Nat), Z29), ((11 : Nat), B20 p (AVal.own (50 : Nat) i)), ((50 : Nat), Entry.row (77 : Nat) (2 : Nat) (List.map encTF (List.take i p.paths)))] (42 : Nat) (65 : Nat) [])) := by kernel_rfl
def B20t (p : Payload) : Tell := { Lp := fun _ => .done (.exit 0) (E20 p), lv := fun _ => ([4, 3, 2, 1], [0, 1, 11]) }
def T20 (p : Payload) : Tell :=
  Tell.mk (fun r i => (B20t p).fz r i || fget [((1 : Nat), (7 : Nat)), ((1 : Nat), (3 : Nat)), ((1 : Nat), (0 : Nat)), ((1 : Nat), (4 : Nat))] r i) (fun x x_1 => Orc.no) (fun x => Tree.done (Exit.exit (0 : Nat)) (E20 p)) (fun x => (0 : Nat))
  (fun x => ([(4 : Nat), (3 : Nat), (2 : Nat), (1 : Nat)], [(0 : Nat), (1 : Nat), (11 : Nat)])) (fun x x_1 x_2 => Orc.no) fun x x_1 => Tree.done (Exit.exit (0 : Nat)) (E20 p)
theorem t20 (p : Payload) : levF prog Proofs.Try.f20 [encL p] (T20 p) =
  Tree.need (true = true ∧ cellsOk (List.map encO p.origins) = true ∧ (0 : Nat) + List.length (List.map encO p.origins) ≤ (1000000 : Nat))
  (Tree.need (true = true ∧ cellsOk (List.map encK p.keys) = true ∧ (0 : Nat) + List.length (List.map encK p.keys) ≤ (1000000 : Nat))
  (Tree.loop (3 : Nat)
  (LState.mk [((4 : Nat), AVal.imm (IVal.v (Value.int IntKind.i64 (0 : Int)))), ((3 : Nat), AVal.ptr (11 : Nat) (0 : Nat)), ((2 : Nat), AVal.ptr (1 : Nat) (0 : Nat)), ((1 : Nat), AVal.ptr (0 : Nat) (0 : Nat))]
  [((0 : Nat), Entry.box (28 : Nat) (AVal.imm (encL p))),
  ((1 : Nat), Entry.box (28 : Nat) (AVal.imm (IVal.agg [IVal.v (Value.slice none (0 : Nat) (0 : Nat)), IVal.v (Value.slice none (0 : Nat) (0 : Nat)), IVal.v (Value.slice none (0 : Nat) (0 : Nat))]))),
  ((11 : Nat),
  Entry.box (28 : Nat)
  (AVal.agg [AVal.imm (IVal.sl true false (6 : Nat) ([] ++ List.map encO p.origins)), AVal.imm (IVal.v (Value.slice none (0 : Nat) (0 : Nat))), AVal.imm (IVal.sl true false (18 : Nat) ([] ++ List.map encK p.keys))]))]
  (42 : Nat) (14 : Nat) [])
  (Tree.done (Exit.exit (0 : Nat)) (E20 p))
  (Tree.need (eqs [(List.length p.paths, List.length (List.map encTF p.paths))]) (Tree.done Exit.ret (lret (IVal.agg [slF (6 : Nat) encO p.origins, IVal.sl true false (2 : Nat) (List.map encTF p.paths), slF (18 : Nat) encK p.keys])))))) := by kernel_rfl
theorem take_succF (p : Payload) (i : Nat) (h : i < p.paths.length) : (p.paths.take i).map encTF ++ [encTF (p.paths.getD i default)] = (p.paths.take (i + 1)).map encTF := by
  rw [List.take_add_one, List.map_append]
  simp [List.getD_eq_getElem?_getD, List.getElem?_eq_getElem h]
theorem l20 (p : Payload) (hp : p.ok) (σ : LState) (h : LSub σ (I20 p 0)) : LoopOk prog [] (bodyOf Proofs.Try.f20) 3 σ (.done (.exit 0) (E20 p)) := by
  have hT := hp.t
  refine LoopOk.count p.paths.length 0 (I20 p) (E20 p) (T20r p) fin20 (by kernel_rfl) h fun i hi => ?_
  rw [t20r]
  refine ⟨fun h1 => ⟨elem_need ?_, fun _ => ⟨elem_need ?_, fun _ => ⟨?_, fun _ => ⟨?_, fun _ => ?_⟩⟩⟩⟩, fun h1 => ?_⟩
  · (refine ⟨by omega, ?_, ?_⟩ <;> (simp only [List.length_map, decide_eq_true_eq, decide_eq_false_iff_not, Int.toNat_natCast] at * <;> omega))
  · (refine ⟨by omega, ?_, ?_⟩ <;> (simp only [List.length_map, decide_eq_true_eq, decide_eq_false_iff_not, Int.toNat_natCast] at * <;> omega))
  · have := hp.p _ (getD_mem p.paths i (by (simp only [List.length_map, decide_eq_true_eq, decide_eq_false_iff_not, Int.toNat_natCast] at * <;> omega))); unfold okT at this
    exact ⟨rfl, cellsOk_map u32 (fun _ => rfl) _, by simpa using this⟩
  · have : i < p.paths.length := by (simp only [List.length_map, decide_eq_true_eq, decide_eq_false_iff_not, Int.toNat_natCast] at * <;> omega)
    exact ⟨by simp; omega, cellsOk_map encTF (fun _ => rfl) _, rfl, by omega⟩
  · have hlt : i < p.paths.length := by (simp only [List.length_map, decide_eq_true_eq, decide_eq_false_iff_not, Int.toNat_natCast] at * <;> omega)
    refine ⟨hlt, ⟨?_, rfl, rfl, rfl, trivial⟩, ⟨rfl, rfl, rfl, ?_, trivial⟩, rfl, rfl, rfl⟩
    · exact congrArg (fun n => AVal.imm (i64 n)) (i64_small hlt (by omega))
    · exact congrArg (fun l => some (Entry.row 77 2 l)) (take_succF p i hlt)
  · have : i = p.paths.length := by (simp only [List.length_map, decide_eq_true_eq, decide_eq_false_iff_not, Int.toNat_natCast] at * <;> omega)
    subst this
    refine ⟨rfl, by omega, ?_⟩
    simp [E20, B20, Z29, LSub, tsub, ssub, tl, sl, linT, linS, ainB, ainBL]
theorem c20 (p : Payload) (hp : p.ok) : ASpec prog 20 [encL p] (encL p) := by
  have h1 := hp.o; have h2 := hp.k
  refine ASpec.treeW Proofs.Try.f20 (T20 p) (by kernel_rfl) (by kernel_rfl) (t20 p) ?_
  refine ⟨?_, fun _ => ⟨?_, fun _ => ⟨?_, ⟨?_, fun _ => ⟨_, rfl, ?_⟩⟩⟩⟩⟩
  · exact ⟨rfl, cellsOk_map encO (fun _ => rfl) _, by simp; omega⟩
  · exact ⟨rfl, cellsOk_map encK (fun _ => rfl) _, by simp; omega⟩
  · refine .nam (τ := I20 p 0) (.cell 11 1 50 77 2 (show 14 ≤ 50 by decide) (.sub ?_)) (l20 p hp _ ⟨⟨rfl, rfl, rfl, rfl, trivial⟩, ⟨rfl, rfl, rfl, rfl, trivial⟩, rfl, rfl, rfl⟩)
    exact ⟨⟨rfl, rfl, rfl, rfl, trivial⟩, ⟨rfl, rfl, rfl, rfl, trivial⟩, rfl, rfl, rfl⟩
  · exact ⟨by simp, trivial⟩
  · exact .agg (.cons (ile_sl (.refl _)) (.cons (ile_sl (ileL_map encTF_le _)) (.cons (ile_sl (.refl _)) (.refl _))))
def T45 (p : Payload) (v : Int) : Tell :=
  Tell.mk (fun x x_1 => false) (fun x x_1 => Orc.no) (fun x => Tree.fail (1000003 : Nat) (0 : Nat)) (fun x => (0 : Nat)) (fun x => ([], [])) (oget [((2 : Nat), (1 : Nat), (1 : Nat), Orc.call [encL p] (encL p))]) fun x x_1 =>
  Tree.fail (1000003 : Nat) (0 : Nat)
theorem t45 (p : Payload) (v : Int) : levF prog Proofs.Try.f45 [encL p, u8 v] (T45 p v) =
  Tree.need (ILeL [encL p] [encL p] ∧ ASpec prog (20 : Nat) [encL p] (encL p))
  (Tree.br (decide (v < (1 : Int)))
  (Tree.br (decide (v < (2 : Int))) (Tree.done Exit.ret (lret (IVal.agg [slE (6 : Nat) encO p.origins, IVal.v (Value.slice none (0 : Nat) (0 : Nat)), IVal.v (Value.slice none (0 : Nat) (0 : Nat))])))
  (Tree.done Exit.ret (lret (IVal.agg [slE (6 : Nat) encO p.origins, slE (2 : Nat) encT p.paths, IVal.v (Value.slice none (0 : Nat) (0 : Nat))]))))
  (Tree.br (decide (v < (2 : Int))) (Tree.done Exit.ret (lret (IVal.agg [slE (6 : Nat) encO p.origins, IVal.v (Value.slice none (0 : Nat) (0 : Nat)), slE (18 : Nat) encK p.keys])))
  (Tree.done Exit.ret (lret (IVal.agg [slE (6 : Nat) encO p.origins, slE (2 : Nat) encT p.paths, slE (18 : Nat) encK p.keys]))))) := by kernel_rfl
theorem c45 (p : Payload) (v : Int) (hp : p.ok) : ASpec prog 45 [encL p, u8 v] (encL (shortP p v)) := by
  refine ASpec.treeW Proofs.Try.f45 (T45 p v) (by kernel_rfl) (by kernel_rfl) (t45 p v) ?_
  refine ⟨⟨ILeL.refl _, c20 _ ?_⟩, fun _ => ⟨fun h1 => ⟨fun h2 => ⟨_, rfl, ?_⟩, fun h2 => ⟨_, rfl, ?_⟩⟩, fun h1 => ⟨fun h2 => ⟨_, rfl, ?_⟩, fun h2 => ⟨_, rfl, ?_⟩⟩⟩⟩
  · exact hp
  · simp at h1 h2
    simp only [encL, shortP, if_pos h1, if_pos h2]; exact encL_le (.nil _ _ _) (.nil _ _ _)
  · simp at h1 h2; omega
  · simp at h1 h2
    simp only [encL, shortP, if_neg (show ¬ v < 1 by omega), if_pos h2]; exact encL_le (.nil _ _ _) (.refl _)
  · simp at h1 h2
    simp only [encL, shortP, if_neg (show ¬ v < 1 by omega), if_neg (show ¬ v < 2 by omega)]; exact .refl _
def T5 (r : Router) : Tell :=
  Tell.mk (fun x x_1 => false) (fun x x_1 => Orc.no) (fun x => Tree.fail (1000003 : Nat) (0 : Nat)) (fun x => (0 : Nat)) (fun x => ([], []))
  (oget [((5 : Nat), (2 : Nat), (2 : Nat), Orc.call [encL r.data] (encL r.data)), ((5 : Nat), (2 : Nat), (5 : Nat), Orc.call [encL r.build] (encL r.build))]) fun x x_1 => Tree.fail (1000003 : Nat) (0 : Nat)
theorem t5 (r : Router) : levF prog Proofs.Try.f5 [encR r] (T5 r) =
  Tree.need (ILeL [IVal.agg [slE (6 : Nat) encO r.data.origins, slE (2 : Nat) encT r.data.paths, slE (18 : Nat) encK r.data.keys]] [encL r.data] ∧ ASpec prog (20 : Nat) [encL r.data] (encL r.data))
  (Tree.need (ILeL [IVal.agg [slE (6 : Nat) encO r.build.origins, slE (2 : Nat) encT r.build.paths, slE (18 : Nat) encK r.build.keys]] [encL r.build] ∧ ASpec prog (20 : Nat) [encL r.build] (encL r.build))
  (Tree.done Exit.ret
  (lret
  (IVal.agg
  [u8 r.version, u8 r.state, bo r.has, u16 r.session, u32 r.serial, slE (6 : Nat) encO r.data.origins, slE (2 : Nat) encT r.data.paths, slE (18 : Nat) encK r.data.keys, u32 r.timers.refresh, u32 r.timers.retry, u32 r.timers.expire,
  i64 r.good, i64 r.next, bo r.full, u16 r.heard, slE (6 : Nat) encO r.build.origins, slE (2 : Nat) encT r.build.paths, slE (18 : Nat) encK r.build.keys])))) := by kernel_rfl
theorem c5 (r : Router) (hr : r.ok) : ASpec prog 5 [encR r] (encR r) := by
  refine ASpec.treeW Proofs.Try.f5 (T5 r) (by kernel_rfl) (by kernel_rfl) (t5 r) ?_
  refine ⟨⟨ILeL.refl _, c20 _ ?_⟩, fun _ => ⟨⟨ILeL.refl _, c20 _ ?_⟩, fun _ => ⟨_, rfl, ?_⟩⟩⟩
  · exact hr.d
  · exact hr.b
  · exact .refl _
def T28 (r : Router) (u : Int) : Tell :=
  Tell.mk (fun x x_1 => false) (fun x x_1 => Orc.no) (fun x => Tree.fail (1000003 : Nat) (0 : Nat)) (fun x => (0 : Nat)) (fun x => ([], [])) (oget [((2 : Nat), (1 : Nat), (1 : Nat), Orc.call [encR r] (encR r))]) fun x x_1 =>
  Tree.fail (1000003 : Nat) (0 : Nat)
theorem t28 (r : Router) (u : Int) : levF prog Proofs.Try.f28 [encR r, i64 u] (T28 r u) =
  Tree.need (ILeL [encR r] [encR r] ∧ ASpec prog (5 : Nat) [encR r] (encR r))
  (Tree.done Exit.ret
  (lret
  (IVal.agg
  [u8 r.version, IVal.v (Value.int IntKind.u8 (0 : Int)), bo r.has, u16 r.session, u32 r.serial, slE (6 : Nat) encO r.data.origins, slE (2 : Nat) encT r.data.paths, slE (18 : Nat) encK r.data.keys, u32 r.timers.refresh,
  u32 r.timers.retry, u32 r.timers.expire, i64 r.good, i64 u, IVal.v (Value.bool false), IVal.v (Value.int IntKind.u16 (0 : Int)), IVal.v (Value.slice none (0 : Nat) (0 : Nat)), IVal.v (Value.slice none (0 : Nat) (0 : Nat)),
  IVal.v (Value.slice none (0 : Nat) (0 : Nat))]))) := by kernel_rfl
theorem c28 (r : Router) (u : Int) (hr : r.ok) : ASpec prog 28 [encR r, i64 u] (encR (restR r u)) := by
  refine ASpec.treeW Proofs.Try.f28 (T28 r u) (by kernel_rfl) (by kernel_rfl) (t28 r u) ?_
  refine ⟨⟨ILeL.refl _, c5 _ ?_⟩, fun _ => ⟨_, rfl, ?_⟩⟩
  · exact hr
  · refine .agg (.cons (.refl _) (.cons (.refl _) (.cons (.refl _) (.cons (.refl _) (.cons (.refl _) (.cons (.refl _) (.cons (.refl _) (.cons (.refl _) (.cons (.refl _) (.cons (.refl _) (.cons (.refl _) (.cons (.refl _) (.cons (.refl _) (.cons (.refl _) (.cons (.refl _) ?_)))))))))))))))
    exact .cons (.nil _ _ _) (.cons (.nil _ _ _) (.cons (.nil _ _ _) (.refl _)))
end Gp
namespace Gp
/-! limits -/
def greatB (n l : Int) : Bool := (decide (30 < n) && decide (n ≤ l)) || decide (l + 10 < n)
def T37 (n l : Int) : Tell :=
  Tell.mk (fun x x_1 => false) (fun x x_1 => Orc.no) (fun x => Tree.fail (1000003 : Nat) (0 : Nat)) (fun x => (0 : Nat)) (fun x => ([], [])) (fun x x_1 x_2 => Orc.no) fun x x_1 => Tree.fail (1000003 : Nat) (0 : Nat)
theorem t37 (n l : Int) : levF prog Proofs.Try.f37 [i64 n, i64 l] (T37 n l) =
  Tree.br (decide ((30 : Int) < n)) (Tree.br (decide (n ≤ l)) (Tree.done Exit.ret (lret (IVal.v (Value.bool true)))) (Tree.done Exit.ret (lret (IVal.v (Value.bool (decide (IntKind.wrap IntKind.i64 (l + (10 : Int)) < n)))))))
  (Tree.done Exit.ret (lret (IVal.v (Value.bool (decide (IntKind.wrap IntKind.i64 (l + (10 : Int)) < n)))))) := by kernel_rfl
theorem c37 (n l : Int) (h0 : 0 ≤ l) (hl : l ≤ 100000) : ASpec prog 37 [i64 n, i64 l] (bo (greatB n l)) := by
  have e : IntKind.i64.wrap (l + 10) = l + 10 := IntWalk.i64_in _ (by omega)
  refine ASpec.treeW Proofs.Try.f37 (T37 n l) (by kernel_rfl) (by kernel_rfl) (t37 n l) ?_
  refine ⟨fun h1 => ⟨fun h2 => ⟨_, rfl, ?_⟩, fun h2 => ⟨_, rfl, ?_⟩⟩, fun h1 => ⟨_, rfl, ?_⟩⟩
  all_goals (refine ile_bo ?_; (try simp only [e]); (simp only [decide_eq_true_eq, decide_eq_false_iff_not] at *); simp [greatB, *])
theorem i64_big {n l : Nat} (h : n < l) (hl : l ≤ 2 ^ 63 - 1) : IntKind.i64.wrap ((n : Int) + 1) = ((n + 1 : Nat) : Int) := by
  rw [IntWalk.i64_in _ (by omega)]; omega
def P19' (p : Payload) (i : Nat) : Bool := decide (60 < (((p.paths.getD i default).provs.length : Nat) : Int))
def P19 (p : Payload) (i : Nat) : Bool := P19' p i
def I19 (p : Payload) (i : Nat) : LState := { t := [(3, .imm (i64 i)), (1, .ptr 0 0)], s := [(0, .box 28 (.imm (encL p)))], m := 35, n := 1 }
def R19 (p : Payload) (i : Nat) : LState := { t := [(2, .imm (bo true))], s := [], m := 35, n := 1 }
def E19 (p : Payload) : LState := { t := [], s := [], m := 35, n := 1 }
def fin19 : Exit → Fin
  | .normal => ⟨[], [3, 1], [0]⟩
  | .ret => ⟨[], [2], []⟩
  | _ => ⟨[], [], []⟩
def L19 (p : Payload) : Tree := Lfirst (P19 p) p.paths.length 0 (R19 p) (E19 p)
def T19r (p : Payload) (i : Nat) : Tell :=
  Tell.mk (fun x x_1 => false) (fun x x_1 => Orc.no) (fun x => Tree.fail (1000003 : Nat) (0 : Nat)) (fun x => (0 : Nat)) (fun x => ([], [])) (oget [((6 : Nat), (6 : Nat), (3 : Nat), Orc.elem (encT (List.getD p.paths i default)))])
  fun x x_1 => Tree.fail (1000003 : Nat) (0 : Nat)
theorem t19r (p : Payload) (i : Nat) : levL prog Proofs.Try.f19 4 (I19 p i) (T19r p i) fin19 =
  Tree.br (decide ((↑i : Int) < (↑(List.length (List.map encT p.paths)) : Int)))
  (Tree.need ((0 : Int) ≤ (↑i : Int) ∧ (List.map encT p.paths)[i]? = some (encT (List.getD p.paths i default)))
  (Tree.br (decide ((60 : Int) < (↑(List.length (List.map u32 (List.getD p.paths i default).provs)) : Int))) (Tree.done Exit.ret (LState.mk [((2 : Nat), AVal.imm (IVal.v (Value.bool true)))] [] (35 : Nat) (15 : Nat) []))
  (Tree.done Exit.normal
  (LState.mk [((3 : Nat), AVal.imm (IVal.v (Value.int IntKind.i64 (IntKind.wrap IntKind.i64 ((↑i : Int) + (1 : Int)))))), ((1 : Nat), AVal.ptr (0 : Nat) (0 : Nat))] [((0 : Nat), Entry.box (28 : Nat) (AVal.imm (encL p)))] (35 : Nat)
  (17 : Nat) []))))
  (Tree.done (Exit.exit (0 : Nat)) (LState.mk [] [] (35 : Nat) (6 : Nat) [])) := by kernel_rfl
def B19 (p : Payload) : Tell := { Lp := fun _ => L19 p, lv := fun _ => ([3, 1], [0]) }
def T19 (p : Payload) : Tell :=
  Tell.mk (fun x x_1 => false) (fun x x_1 => Orc.no) (fun x => L19 p) (fun x => (0 : Nat)) (fun x => ([(3 : Nat), (1 : Nat)], [(0 : Nat)]))
  (oget
  [((2 : Nat), (1 : Nat), (3 : Nat), Orc.call [i64 (↑(List.length (List.map encO p.origins)) : Int), i64 (1000 : Int)] (bo (greatB (↑(List.length (List.map encO p.origins)) : Int) (1000 : Int)))),
  ((2 : Nat), (1 : Nat), (8 : Nat), Orc.call [i64 (↑(List.length (List.map encT p.paths)) : Int), i64 (300 : Int)] (bo (greatB (↑(List.length (List.map encT p.paths)) : Int) (300 : Int)))),
  ((2 : Nat), (1 : Nat), (14 : Nat), Orc.call [i64 (↑(List.length (List.map encK p.keys)) : Int), i64 (100 : Int)] (bo (greatB (↑(List.length (List.map encK p.keys)) : Int) (100 : Int))))])
  fun x x_1 => L19 p
theorem t19 (p : Payload) : levF prog Proofs.Try.f19 [encL p] (T19 p) =
  Tree.need
  (ILeL [IVal.v (Value.int IntKind.i64 (↑(List.length (List.map encO p.origins)) : Int)), IVal.v (Value.int IntKind.i64 (1000 : Int))] [i64 (↑(List.length (List.map encO p.origins)) : Int), i64 (1000 : Int)] ∧
  ASpec prog (37 : Nat) [i64 (↑(List.length (List.map encO p.origins)) : Int), i64 (1000 : Int)] (bo (greatB (↑(List.length (List.map encO p.origins)) : Int) (1000 : Int))))
  (Tree.br (greatB (↑(List.length (List.map encO p.origins)) : Int) (1000 : Int)) (Tree.done Exit.ret (lret (IVal.v (Value.bool true))))
  (Tree.need
  (ILeL [IVal.v (Value.int IntKind.i64 (↑(List.length (List.map encT p.paths)) : Int)), IVal.v (Value.int IntKind.i64 (300 : Int))] [i64 (↑(List.length (List.map encT p.paths)) : Int), i64 (300 : Int)] ∧
  ASpec prog (37 : Nat) [i64 (↑(List.length (List.map encT p.paths)) : Int), i64 (300 : Int)] (bo (greatB (↑(List.length (List.map encT p.paths)) : Int) (300 : Int))))
  (Tree.br (greatB (↑(List.length (List.map encT p.paths)) : Int) (300 : Int)) (Tree.done Exit.ret (lret (IVal.v (Value.bool true))))
  (Tree.need
  (ILeL [IVal.v (Value.int IntKind.i64 (↑(List.length (List.map encK p.keys)) : Int)), IVal.v (Value.int IntKind.i64 (100 : Int))] [i64 (↑(List.length (List.map encK p.keys)) : Int), i64 (100 : Int)] ∧
  ASpec prog (37 : Nat) [i64 (↑(List.length (List.map encK p.keys)) : Int), i64 (100 : Int)] (bo (greatB (↑(List.length (List.map encK p.keys)) : Int) (100 : Int))))
  (Tree.br (greatB (↑(List.length (List.map encK p.keys)) : Int) (100 : Int)) (Tree.done Exit.ret (lret (IVal.v (Value.bool true))))
  (Tree.loop (4 : Nat) (LState.mk [((3 : Nat), AVal.imm (IVal.v (Value.int IntKind.i64 (0 : Int)))), ((1 : Nat), AVal.ptr (0 : Nat) (0 : Nat))] [((0 : Nat), Entry.box (28 : Nat) (AVal.imm (encL p)))] (35 : Nat) (19 : Nat) [])
  (Tree.br (anyI (P19 p) (0 : Nat) (List.length p.paths)) (Tree.done Exit.ret (R19 p (firstI (P19 p) (0 : Nat) (List.length p.paths)))) (Tree.done (Exit.exit (0 : Nat)) (E19 p)))
  (Tree.br (anyI (P19 p) (0 : Nat) (List.length p.paths)) (Tree.done Exit.ret (lret (IVal.v (Value.bool true)))) (Tree.done Exit.ret (lret (IVal.v (Value.bool false))))))))))) := by kernel_rfl
theorem l19 (p : Payload) (hl : p.paths.length ≤ 2 ^ 63 - 1) (σ : LState) (h : LSub σ (I19 p 0)) : LoopOk prog [] (bodyOf Proofs.Try.f19) 4 σ (L19 p) := by
  refine LoopOk.first (P19 p) p.paths.length 0 (I19 p) (R19 p) (E19 p) (T19r p) fin19 (by kernel_rfl) h fun i hi hz => ?_
  rw [t19r]
  refine ⟨fun h1 => ⟨elem_need ?_, fun _ => ⟨fun h2 => ?_, fun h2 => ?_⟩⟩, fun h1 => ?_⟩
  · (refine ⟨by omega, ?_, ?_⟩ <;> (simp only [List.length_map, decide_eq_true_eq, decide_eq_false_iff_not, Int.toNat_natCast] at * <;> omega))
  · exact ⟨by (simp only [List.length_map, decide_eq_true_eq, decide_eq_false_iff_not, Int.toNat_natCast] at * <;> omega), by simpa [P19, P19'] using h2, by simp [R19, bo, LSub, tsub, ssub, tl, sl, linT, linS, ainB, ainBL]⟩
  · exact ⟨by (simp only [List.length_map, decide_eq_true_eq, decide_eq_false_iff_not, Int.toNat_natCast] at * <;> omega), by simpa [P19, P19'] using h2, by simp [I19, i64, i64_big (n := i) (by (simp only [List.length_map, decide_eq_true_eq, decide_eq_false_iff_not, Int.toNat_natCast] at * <;> omega)) hl, LSub, tsub, ssub, tl, sl, linT, linS, ainB, ainBL]⟩
  · exact ⟨rfl, by (simp only [List.length_map, decide_eq_true_eq, decide_eq_false_iff_not, Int.toNat_natCast] at * <;> omega), by simp [E19, LSub, tsub, ssub, tl, sl, linT, linS, ainB, ainBL]⟩
def greatP (p : Payload) : Bool := greatB p.origins.length 1000 || greatB p.paths.length 300 || greatB p.keys.length 100 || anyI (P19 p) 0 p.paths.length
theorem c19 (p : Payload) (hl : p.paths.length ≤ 2 ^ 63 - 1) : ASpec prog 19 [encL p] (bo (greatP p)) := by
  refine ASpec.treeW Proofs.Try.f19 (T19 p) (by kernel_rfl) (by kernel_rfl) (t19 p) ?_
  refine ⟨⟨ILeL.refl _, c37 _ _ ?_ ?_⟩, fun _ => ⟨fun h1 => ⟨_, rfl, ?_⟩, fun h1 => ⟨⟨ILeL.refl _, c37 _ _ ?_ ?_⟩, fun _ => ⟨fun h2 => ⟨_, rfl, ?_⟩, fun h2 => ⟨⟨ILeL.refl _, c37 _ _ ?_ ?_⟩, fun _ => ⟨fun h3 => ⟨_, rfl, ?_⟩, fun h3 => ⟨?_, ⟨fun h4 => ⟨_, rfl, ?_⟩, fun h4 => ⟨_, rfl, ?_⟩⟩⟩⟩⟩⟩⟩⟩⟩
  all_goals try decide
  all_goals try exact l19 p hl _ (by simp [I19, i64, LSub, tsub, ssub, tl, sl, linT, linS, ainB, ainBL])
  all_goals (simp only [List.length_map] at *; exact ile_bo (by simp [greatP, *]))
def greatR (r : Router) : Bool := greatP r.data || greatP r.build
def T4 (r : Router) : Tell :=
  Tell.mk (fun x x_1 => false) (fun x x_1 => Orc.no) (fun x => Tree.fail (1000003 : Nat) (0 : Nat)) (fun x => (0 : Nat)) (fun x => ([], []))
  (oget [((2 : Nat), (1 : Nat), (2 : Nat), Orc.call [encL r.data] (bo (greatP r.data))), ((2 : Nat), (1 : Nat), (6 : Nat), Orc.call [encL r.build] (bo (greatP r.build)))]) fun x x_1 => Tree.fail (1000003 : Nat) (0 : Nat)
theorem t4 (r : Router) : levF prog Proofs.Try.f4 [encR r] (T4 r) =
  Tree.need (ILeL [IVal.agg [slE (6 : Nat) encO r.data.origins, slE (2 : Nat) encT r.data.paths, slE (18 : Nat) encK r.data.keys]] [encL r.data] ∧ ASpec prog (19 : Nat) [encL r.data] (bo (greatP r.data)))
  (Tree.br (greatP r.data) (Tree.done Exit.ret (lret (IVal.v (Value.bool true))))
  (Tree.need (ILeL [IVal.agg [slE (6 : Nat) encO r.build.origins, slE (2 : Nat) encT r.build.paths, slE (18 : Nat) encK r.build.keys]] [encL r.build] ∧ ASpec prog (19 : Nat) [encL r.build] (bo (greatP r.build)))
  (Tree.done Exit.ret (lret (IVal.v (Value.bool (greatP r.build))))))) := by kernel_rfl
theorem c4 (r : Router) (h1 : r.data.paths.length ≤ 2 ^ 63 - 1) (h2 : r.build.paths.length ≤ 2 ^ 63 - 1) : ASpec prog 4 [encR r] (bo (greatR r)) := by
  refine ASpec.treeW Proofs.Try.f4 (T4 r) (by kernel_rfl) (by kernel_rfl) (t4 r) ?_
  refine ⟨⟨ILeL.refl _, c19 _ ?_⟩, fun _ => ⟨fun h1 => ⟨_, rfl, ?_⟩, fun h1 => ⟨⟨ILeL.refl _, c19 _ ?_⟩, fun _ => ⟨_, rfl, ?_⟩⟩⟩⟩
  all_goals try assumption
  all_goals exact ile_bo (by simp [greatR, *])
def T7 (v : Int) (t : Timers) : Tell :=
  Tell.mk (fun x x_1 => false) (fun x x_1 => Orc.no) (fun x => Tree.fail (1000003 : Nat) (0 : Nat)) (fun x => (0 : Nat)) (fun x => ([], [])) (oget [((3 : Nat), (1 : Nat), (4 : Nat), Orc.call [encM t] (bo (timedB t)))]) fun x x_1 =>
  Tree.fail (1000003 : Nat) (0 : Nat)
theorem t7 (v : Int) (t : Timers) : levF prog Proofs.Try.f7 [u8 v, encM t] (T7 v t) =
  Tree.br (decide ((2 : Int) < v))
  (Tree.done Exit.ret
  (lret
  (IVal.tup
  [IVal.agg
  [IVal.v (Value.int IntKind.u8 (0 : Int)), IVal.v (Value.int IntKind.u8 (0 : Int)), IVal.v (Value.bool false), IVal.v (Value.int IntKind.u16 (0 : Int)), IVal.v (Value.int IntKind.u32 (0 : Int)),
  IVal.v (Value.slice none (0 : Nat) (0 : Nat)), IVal.v (Value.slice none (0 : Nat) (0 : Nat)), IVal.v (Value.slice none (0 : Nat) (0 : Nat)), IVal.v (Value.int IntKind.u32 (0 : Int)), IVal.v (Value.int IntKind.u32 (0 : Int)),
  IVal.v (Value.int IntKind.u32 (0 : Int)), IVal.v (Value.int IntKind.i64 (0 : Int)), IVal.v (Value.int IntKind.i64 (0 : Int)), IVal.v (Value.bool false), IVal.v (Value.int IntKind.u16 (0 : Int)),
  IVal.v (Value.slice none (0 : Nat) (0 : Nat)), IVal.v (Value.slice none (0 : Nat) (0 : Nat)), IVal.v (Value.slice none (0 : Nat) (0 : Nat))],
  IVal.v (Value.int IntKind.i64 (2 : Int))])))
  (Tree.need (ILeL [encM t] [encM t] ∧ ASpec prog (22 : Nat) [encM t] (bo (timedB t)))
  (Tree.br (!timedB t)
  (Tree.done Exit.ret
  (lret
  (IVal.tup
  [IVal.agg
  [IVal.v (Value.int IntKind.u8 (0 : Int)), IVal.v (Value.int IntKind.u8 (0 : Int)), IVal.v (Value.bool false), IVal.v (Value.int IntKind.u16 (0 : Int)), IVal.v (Value.int IntKind.u32 (0 : Int)),
  IVal.v (Value.slice none (0 : Nat) (0 : Nat)), IVal.v (Value.slice none (0 : Nat) (0 : Nat)), IVal.v (Value.slice none (0 : Nat) (0 : Nat)), IVal.v (Value.int IntKind.u32 (0 : Int)),
  IVal.v (Value.int IntKind.u32 (0 : Int)), IVal.v (Value.int IntKind.u32 (0 : Int)), IVal.v (Value.int IntKind.i64 (0 : Int)), IVal.v (Value.int IntKind.i64 (0 : Int)), IVal.v (Value.bool false),
  IVal.v (Value.int IntKind.u16 (0 : Int)), IVal.v (Value.slice none (0 : Nat) (0 : Nat)), IVal.v (Value.slice none (0 : Nat) (0 : Nat)), IVal.v (Value.slice none (0 : Nat) (0 : Nat))],
  IVal.v (Value.int IntKind.i64 (2 : Int))])))
  (Tree.done Exit.ret
  (lret
  (IVal.tup
  [IVal.agg
  [u8 v, IVal.v (Value.int IntKind.u8 (0 : Int)), IVal.v (Value.bool false), IVal.v (Value.int IntKind.u16 (0 : Int)), IVal.v (Value.int IntKind.u32 (0 : Int)), IVal.v (Value.slice none (0 : Nat) (0 : Nat)),
  IVal.v (Value.slice none (0 : Nat) (0 : Nat)), IVal.v (Value.slice none (0 : Nat) (0 : Nat)), u32 t.refresh, u32 t.retry, u32 t.expire, IVal.v (Value.int IntKind.i64 (0 : Int)), IVal.v (Value.int IntKind.i64 (0 : Int)),
  IVal.v (Value.bool false), IVal.v (Value.int IntKind.u16 (0 : Int)), IVal.v (Value.slice none (0 : Nat) (0 : Nat)), IVal.v (Value.slice none (0 : Nat) (0 : Nat)), IVal.v (Value.slice none (0 : Nat) (0 : Nat))],
  IVal.v (Value.int IntKind.i64 (0 : Int))]))))) := by kernel_rfl
theorem c7 (v : Int) (t : Timers) : ASpec prog 7 [u8 v, encM t] (.tup [encR (newR v t), i64 (newE v t)]) := by
  have no : ¬ (v ≤ 2 ∧ timedB t = true) → newR v t = zeroR ∧ newE v t = 2 := fun h => ⟨by unfold newR; rw [if_neg h], by unfold newE; rw [if_neg h]⟩
  refine ASpec.treeW Proofs.Try.f7 (T7 v t) (by kernel_rfl) (by kernel_rfl) (t7 v t) ?_
  refine ⟨fun h1 => ⟨_, rfl, ?_⟩, fun h1 => ⟨⟨ILeL.refl _, c22 _⟩, fun _ => ⟨fun h2 => ⟨_, rfl, ?_⟩, fun h2 => ⟨_, rfl, ?_⟩⟩⟩⟩
  · obtain ⟨e1, e2⟩ := no (fun hc => by simp at h1; omega)
    rw [e1, e2]; exact .tup (.cons (rnil_le _ _ _ _ _ _ _ _ _ _ _ _) (.refl _))
  · obtain ⟨e1, e2⟩ := no (fun hc => by simp [hc.2] at h2)
    rw [e1, e2]; exact .tup (.cons (rnil_le _ _ _ _ _ _ _ _ _ _ _ _) (.refl _))
  · have hv : v ≤ 2 := by simpa using h1
    have ht : timedB t = true := by simpa using h2
    rw [show newR v t = { zeroR with version := v, timers := t } from by unfold newR; rw [if_pos ⟨hv, ht⟩], show newE v t = 0 from by unfold newE; rw [if_pos ⟨hv, ht⟩]]
    exact .tup (.cons (rnil_le _ _ _ _ _ _ _ _ _ _ _ _) (.refl _))
end Gp
