/- Part 2 of the walk and of the plain law of DiffBoth. -/
import Derived.Test.YtcccdohpepnfjaaW1

set_option maxRecDepth 100000
set_option maxHeartbeats 0
set_option linter.unusedVariables false
set_option linter.unusedSimpArgs false
open Go Go.Abs
namespace Gp
def manyP (p : Payload) : Bool := decide (∃ a ∈ p.paths, 50 < a.provs.length)
def ckL (p : Payload) : Int :=
  if 1000 < p.origins.length ∨ 300 < p.paths.length ∨ 100 < p.keys.length ∨ manyP p = true then 4
  else if (risingB cmpO goodO default p.origins && risingB cmpT goodT default p.paths && risingB cmpK goodK default p.keys) = true then 0 else 8
def T13 (p : Payload) : Tell := { O := fun r i => match r, i with
  | 3, 2 => .call [slE 2 encT p.paths, fnV 33] (bo (manyP p)) | 5, 2 => .call [slE 6 encO p.origins, fnV 35, fnV 36] (bo (risingB cmpO goodO default p.origins)) | 5, 7 => .call [slE 2 encT p.paths, fnV 38, fnV 39] (bo (risingB cmpT goodT default p.paths))
  | 5, 13 => .call [slE 18 encK p.keys, fnV 41, fnV 42] (bo (risingB cmpK goodK default p.keys)) | _, _ => .no }
theorem t13 (p : Payload) : levF prog Proofs.Try.f13 [encL p] (T13 p) =
  Tree.br (decide ((1000 : Int) < (↑(List.length (List.map encO p.origins)) : Int))) (Tree.done Exit.ret (lret (IVal.v (Value.int IntKind.i64 (4 : Int)))))
  (Tree.br (decide ((300 : Int) < (↑(List.length (List.map encT p.paths)) : Int))) (Tree.done Exit.ret (lret (IVal.v (Value.int IntKind.i64 (4 : Int)))))
  (Tree.br (decide ((100 : Int) < (↑(List.length (List.map encK p.keys)) : Int))) (Tree.done Exit.ret (lret (IVal.v (Value.int IntKind.i64 (4 : Int)))))
  (Tree.need
  (ILeL [slE 2 encT p.paths, IVal.v (Value.func (Fn.func 33) (Array.mk []) (Array.mk []))] [slE 2 encT p.paths, fnV 33] ∧
  ASpec prog 32 [slE 2 encT p.paths, fnV 33] (bo (manyP p)))
  (Tree.br (manyP p) (Tree.done Exit.ret (lret (IVal.v (Value.int IntKind.i64 (4 : Int)))))
  (Tree.need
  (ILeL [slE 6 encO p.origins, IVal.v (Value.func (Fn.func 35) (Array.mk []) (Array.mk [])), IVal.v (Value.func (Fn.func 36) (Array.mk []) (Array.mk []))]
  [slE 6 encO p.origins, fnV 35, fnV 36] ∧
  ASpec prog 34 [slE 6 encO p.origins, fnV 35, fnV 36] (bo (risingB cmpO goodO default p.origins)))
  (Tree.br (!risingB cmpO goodO default p.origins) (Tree.done Exit.ret (lret (IVal.v (Value.int IntKind.i64 (8 : Int)))))
  (Tree.need
  (ILeL [slE 2 encT p.paths, IVal.v (Value.func (Fn.func 38) (Array.mk []) (Array.mk [])), IVal.v (Value.func (Fn.func 39) (Array.mk []) (Array.mk []))]
  [slE 2 encT p.paths, fnV 38, fnV 39] ∧
  ASpec prog 37 [slE 2 encT p.paths, fnV 38, fnV 39] (bo (risingB cmpT goodT default p.paths)))
  (Tree.br (!risingB cmpT goodT default p.paths) (Tree.done Exit.ret (lret (IVal.v (Value.int IntKind.i64 (8 : Int)))))
  (Tree.need
  (ILeL [slE 18 encK p.keys, IVal.v (Value.func (Fn.func 41) (Array.mk []) (Array.mk [])), IVal.v (Value.func (Fn.func 42) (Array.mk []) (Array.mk []))]
  [slE 18 encK p.keys, fnV 41, fnV 42] ∧
  ASpec prog 40 [slE 18 encK p.keys, fnV 41, fnV 42] (bo (risingB cmpK goodK default p.keys)))
  (Tree.br (!risingB cmpK goodK default p.keys) (Tree.done Exit.ret (lret (IVal.v (Value.int IntKind.i64 (8 : Int))))) (Tree.done Exit.ret (lret (IVal.v (Value.int IntKind.i64 (0 : Int))))))))))))))) := by kernel_rfl
theorem c13 (p : Payload) : ASpec prog 13 [encL p] (i64 (ckL p)) := by
  refine ASpec.tree Proofs.Try.f13 (T13 p) (by kernel_rfl) (by kernel_rfl) (t13 p) ?_
  have hf : ∀ b, ckL p = b → lret (.v (.int .i64 b)) = lret (i64 (ckL p)) := by intro b h; rw [h]; rfl
  refine ⟨fun h => hf _ ?_, fun h1 => ⟨fun h => hf _ ?_, fun h2 => ⟨fun h => hf _ ?_, fun h3 => ?_⟩⟩⟩
  · simp at h; unfold ckL; rw [if_pos (.inl (by omega))]
  · simp at h; unfold ckL; rw [if_pos (.inr (.inl (by omega)))]
  · simp at h; unfold ckL; rw [if_pos (.inr (.inr (.inl (by omega))))]
  · simp at h1 h2 h3
    refine ⟨⟨ILeL.refl _, c32 _ (by omega)⟩, fun _ => ⟨fun h => hf _ ?_, fun h4 => ?_⟩⟩
    · unfold ckL; rw [if_pos (.inr (.inr (.inr h)))]
    · have hn : ¬ (1000 < p.origins.length ∨ 300 < p.paths.length ∨ 100 < p.keys.length ∨ manyP p = true) := by
        rw [h4]; rintro (h | h | h | h)
        · omega
        · omega
        · omega
        · cases h
      refine ⟨⟨ILeL.refl _, c34 _ (by omega)⟩, fun _ => ⟨fun h5 => hf _ ?_, fun h5 => ⟨⟨ILeL.refl _, c37 _ (by omega)⟩, fun _ => ⟨fun h6 => hf _ ?_, fun h6 => ⟨⟨ILeL.refl _, c40 _ (by omega)⟩, fun _ => ⟨fun h7 => hf _ ?_, fun h7 => hf _ ?_⟩⟩⟩⟩⟩⟩
      · unfold ckL; rw [if_neg hn]; simp at h5; simp [h5]
      · unfold ckL; rw [if_neg hn]; simp at h6; simp [h6]
      · unfold ckL; rw [if_neg hn]; simp at h7; simp [h7]
      · unfold ckL; rw [if_neg hn]; simp at h5 h6 h7; simp [h5, h6, h7]
end Gp
namespace Gp
/-! the reference's small functions -/
theorem t70 (f : Int) : levF prog Proofs.Try.f70 [u8 f] {} =
  Tree.br (decide (f = (4 : Int))) (Tree.done Exit.ret (lret (IVal.v (Value.int IntKind.i64 (32 : Int)))))
  (Tree.br (decide (f = (6 : Int))) (Tree.done Exit.ret (lret (IVal.v (Value.int IntKind.i64 (128 : Int))))) (Tree.done Exit.ret (lret (IVal.v (Value.int IntKind.i64 (0 : Int)))))) := by kernel_rfl
theorem c70 (f : Int) : ASpec prog 70 [u8 f] (i64 (width f)) := by
  refine ASpec.tree Proofs.Try.f70 {} (by kernel_rfl) (by kernel_rfl) (t70 f) ?_
  simp only [Tree.sat, i64, width]; grind
def ckA' (f : Int) (a : Addr) : Bool := if f = 4 then decide (a.hi = 0) && decide (a.lo ≤ 4294967295) else decide (f = 6)
theorem t92 (f : Int) (a : Addr) : levF prog Proofs.Try.f92 [u8 f, encA a] {} =
  Tree.br (decide (f = (4 : Int))) (Tree.br (decide (a.hi = (0 : Int))) (Tree.done Exit.ret (lret (IVal.v (Value.bool (decide (a.lo ≤ (4294967295 : Int))))))) (Tree.done Exit.ret (lret (IVal.v (Value.bool false)))))
  (Tree.done Exit.ret (lret (IVal.v (Value.bool (decide (f = (6 : Int))))))) := by kernel_rfl
theorem ckA_eq (f : Int) (a : Addr) : ckA' f a = ckA f a := by
  unfold ckA' ckA; grind
theorem c92 (f : Int) (a : Addr) : ASpec prog 92 [u8 f, encA a] (bo (ckA f a)) := by
  rw [← ckA_eq]
  refine ASpec.tree Proofs.Try.f92 {} (by kernel_rfl) (by kernel_rfl) (t92 f a) ?_
  simp only [Tree.sat, bo, ckA']; grind
end Gp
namespace Gp
theorem ile_eq {d r : IVal} (h : d = r) : ILe d r := h ▸ ILe.refl _
theorem ile_i64 {a b : Int} (h : a = b) : ILe (.v (.int .i64 a)) (i64 b) := h ▸ ILe.refl _
theorem ile_bo {a b : Bool} (h : a = b) : ILe (.v (.bool a)) (bo b) := h ▸ ILe.refl _
/-! the reference's orders -/
def cmpA' (a b : Addr) : Int := if a = b then 0 else if a.hi < b.hi ∨ a.hi = b.hi ∧ a.lo < b.lo then -1 else 1
def T71 (a b : Addr) : Tell :=
  Tell.mk (fun x x_1 => false) (fun x x_1 => Orc.no) (fun x => Tree.fail 1000003 0) (fun x => 0) (fun x => ([], [])) (fun x x_1 x_2 => Orc.no) fun x x_1 => Tree.fail 1000003 0
theorem t71 (a b : Addr) : levF prog Proofs.Try.f71 [encA a, encA b] (T71 a b) =
  Tree.br (if BinOp.eql = BinOp.neq then !(decide (a.hi = b.hi) && (decide (a.lo = b.lo) && true)) else decide (a.hi = b.hi) && (decide (a.lo = b.lo) && true)) (Tree.done Exit.ret (lret (IVal.v (Value.int IntKind.i64 (0 : Int)))))
  (Tree.br (decide (a.hi < b.hi)) (Tree.done Exit.ret (lret (IVal.v (Value.int IntKind.i64 (-1 : Int)))))
  (Tree.br (decide (a.hi = b.hi)) (Tree.br (decide (a.lo < b.lo)) (Tree.done Exit.ret (lret (IVal.v (Value.int IntKind.i64 (-1 : Int))))) (Tree.done Exit.ret (lret (IVal.v (Value.int IntKind.i64 (1 : Int))))))
  (Tree.done Exit.ret (lret (IVal.v (Value.int IntKind.i64 (1 : Int))))))) := by kernel_rfl
theorem c71 (a b : Addr) : ASpec prog 71 [encA a, encA b] (i64 (cmpA' a b)) := by
  refine ASpec.treeW Proofs.Try.f71 (T71 a b) (by kernel_rfl) (by kernel_rfl) (t71 a b) ?_
  refine ⟨fun h1 => ⟨_, rfl, ?_⟩, fun h1 => ⟨fun h2 => ⟨_, rfl, ?_⟩, fun h2 => ⟨fun h3 => ⟨fun h4 => ⟨_, rfl, ?_⟩, fun h4 => ⟨_, rfl, ?_⟩⟩, fun h3 => ⟨_, rfl, ?_⟩⟩⟩⟩
  all_goals (refine ile_i64 ?_; simp [cmpA', Addr.ext_iff] at *; grind)
def T46 (a b : Attest) : Tell :=
  Tell.mk (fun x x_1 => false) (fun x x_1 => Orc.no) (fun x => Tree.fail 1000003 0) (fun x => 0) (fun x => ([], [])) (fun x x_1 x_2 => Orc.no) fun x x_1 => Tree.fail 1000003 0
theorem t46 (a b : Attest) : levF prog Proofs.Try.f46 [encT a, encT b] (T46 a b) =
  Tree.done Exit.ret (lret (IVal.v (Value.bool (decide (a.cust < b.cust))))) := by kernel_rfl
theorem c46 (a b : Attest) : ASpec prog 46 [encT a, encT b] (bo (decide (a.cust < b.cust))) := by
  refine ASpec.treeW Proofs.Try.f46 (T46 a b) (by kernel_rfl) (by kernel_rfl) (t46 a b) ?_
  refine ⟨_, rfl, ?_⟩
  exact ILe.refl _
def befO (a b : Origin) : Bool :=
  if a.asn ≠ b.asn then decide (a.asn < b.asn) else if a.pfx.fam ≠ b.pfx.fam then decide (a.pfx.fam < b.pfx.fam) else if a.pfx.addr ≠ b.pfx.addr then decide (cmpA' a.pfx.addr b.pfx.addr < 0)
  else if a.pfx.len ≠ b.pfx.len then decide (a.pfx.len < b.pfx.len) else decide (a.max < b.max)
def T44 (a b : Origin) : Tell :=
  Tell.mk (fun x x_1 => false) (fun x x_1 => Orc.no) (fun x => Tree.fail 1000003 0) (fun x => 0) (fun x => ([], []))
  (oget [(29, 7, 4, Orc.call [encA a.pfx.addr, encA b.pfx.addr] (i64 (cmpA' a.pfx.addr b.pfx.addr)))]) fun x x_1 => Tree.fail 1000003 0
theorem t44 (a b : Origin) : levF prog Proofs.Try.f44 [encO a, encO b] (T44 a b) =
  Tree.br (!decide (a.asn = b.asn)) (Tree.done Exit.ret (lret (IVal.v (Value.bool (decide (a.asn < b.asn))))))
  (Tree.br (!decide (a.pfx.fam = b.pfx.fam)) (Tree.done Exit.ret (lret (IVal.v (Value.bool (decide (a.pfx.fam < b.pfx.fam))))))
  (Tree.br (if BinOp.neq = BinOp.neq then !(decide (a.pfx.addr.hi = b.pfx.addr.hi) && (decide (a.pfx.addr.lo = b.pfx.addr.lo) && true)) else decide (a.pfx.addr.hi = b.pfx.addr.hi) && (decide (a.pfx.addr.lo = b.pfx.addr.lo) && true))
  (Tree.need
  (ILeL [IVal.agg [u64 a.pfx.addr.hi, u64 a.pfx.addr.lo], IVal.agg [u64 b.pfx.addr.hi, u64 b.pfx.addr.lo]] [encA a.pfx.addr, encA b.pfx.addr] ∧
  ASpec prog 71 [encA a.pfx.addr, encA b.pfx.addr] (i64 (cmpA' a.pfx.addr b.pfx.addr)))
  (Tree.done Exit.ret (lret (IVal.v (Value.bool (decide (cmpA' a.pfx.addr b.pfx.addr < (0 : Int))))))))
  (Tree.br (!decide (a.pfx.len = b.pfx.len)) (Tree.done Exit.ret (lret (IVal.v (Value.bool (decide (a.pfx.len < b.pfx.len)))))) (Tree.done Exit.ret (lret (IVal.v (Value.bool (decide (a.max < b.max))))))))) := by kernel_rfl
theorem c44 (a b : Origin) : ASpec prog 44 [encO a, encO b] (bo (befO a b)) := by
  refine ASpec.treeW Proofs.Try.f44 (T44 a b) (by kernel_rfl) (by kernel_rfl) (t44 a b) ?_
  refine ⟨fun h1 => ⟨_, rfl, ?_⟩, fun h1 => ⟨fun h2 => ⟨_, rfl, ?_⟩, fun h2 => ⟨fun h3 => ⟨⟨ILeL.refl _, c71 _ _⟩, fun _ => ⟨_, rfl, ?_⟩⟩, fun h3 => ⟨fun h4 => ⟨_, rfl, ?_⟩, fun h4 => ⟨_, rfl, ?_⟩⟩⟩⟩⟩
  all_goals (refine ile_bo ?_; simp [befO, Addr.ext_iff] at *; grind)
def lexB : List (Int × Int) → Bool → Bool
  | [], e => e
  | (x, y) :: l, e => if x ≠ y then decide (x < y) else lexB l e
def befK (a b : RKey) : Bool := lexB [(a.asn, b.asn), (a.root[0], b.root[0]), (a.root[1], b.root[1]), (a.root[2], b.root[2]), (a.root[3], b.root[3]), (a.root[4], b.root[4]), (a.root[5], b.root[5]), (a.root[6], b.root[6]), (a.root[7], b.root[7]), (a.root[8], b.root[8]), (a.root[9], b.root[9]), (a.root[10], b.root[10]), (a.root[11], b.root[11]), (a.root[12], b.root[12]), (a.root[13], b.root[13]), (a.root[14], b.root[14]), (a.root[15], b.root[15])] (decide (a.height < b.height))
theorem t47 (a b : RKey) : levF prog Proofs.Try.f47 [encK a, encK b] { un := fun _ => 17 } =
  Tree.br (!decide (a.asn = b.asn)) (Tree.done Exit.ret (lret (IVal.v (Value.bool (decide (a.asn < b.asn))))))
  (Tree.br true
  (Tree.br (!decide (a.root[0] = b.root[0])) (Tree.done Exit.ret (lret (IVal.v (Value.bool (decide (a.root[0] < b.root[0]))))))
  (Tree.br true
  (Tree.br (!decide (a.root[1] = b.root[1])) (Tree.done Exit.ret (lret (IVal.v (Value.bool (decide (a.root[1] < b.root[1]))))))
  (Tree.br true
  (Tree.br (!decide (a.root[2] = b.root[2])) (Tree.done Exit.ret (lret (IVal.v (Value.bool (decide (a.root[2] < b.root[2]))))))
  (Tree.br true
  (Tree.br (!decide (a.root[3] = b.root[3])) (Tree.done Exit.ret (lret (IVal.v (Value.bool (decide (a.root[3] < b.root[3]))))))
  (Tree.br true
  (Tree.br (!decide (a.root[4] = b.root[4])) (Tree.done Exit.ret (lret (IVal.v (Value.bool (decide (a.root[4] < b.root[4]))))))
  (Tree.br true
  (Tree.br (!decide (a.root[5] = b.root[5])) (Tree.done Exit.ret (lret (IVal.v (Value.bool (decide (a.root[5] < b.root[5]))))))
  (Tree.br true
  (Tree.br (!decide (a.root[6] = b.root[6])) (Tree.done Exit.ret (lret (IVal.v (Value.bool (decide (a.root[6] < b.root[6]))))))
  (Tree.br true
  (Tree.br (!decide (a.root[7] = b.root[7])) (Tree.done Exit.ret (lret (IVal.v (Value.bool (decide (a.root[7] < b.root[7]))))))
  (Tree.br true
  (Tree.br (!decide (a.root[8] = b.root[8])) (Tree.done Exit.ret (lret (IVal.v (Value.bool (decide (a.root[8] < b.root[8]))))))
  (Tree.br true
  (Tree.br (!decide (a.root[9] = b.root[9])) (Tree.done Exit.ret (lret (IVal.v (Value.bool (decide (a.root[9] < b.root[9]))))))
  (Tree.br true
  (Tree.br (!decide (a.root[10] = b.root[10])) (Tree.done Exit.ret (lret (IVal.v (Value.bool (decide (a.root[10] < b.root[10]))))))
  (Tree.br true
  (Tree.br (!decide (a.root[11] = b.root[11])) (Tree.done Exit.ret (lret (IVal.v (Value.bool (decide (a.root[11] < b.root[11]))))))
  (Tree.br true
  (Tree.br (!decide (a.root[12] = b.root[12])) (Tree.done Exit.ret (lret (IVal.v (Value.bool (decide (a.root[12] < b.root[12]))))))
  (Tree.br true
  (Tree.br (!decide (a.root[13] = b.root[13])) (Tree.done Exit.ret (lret (IVal.v (Value.bool (decide (a.root[13] < b.root[13]))))))
  (Tree.br true
  (Tree.br (!decide (a.root[14] = b.root[14])) (Tree.done Exit.ret (lret (IVal.v (Value.bool (decide (a.root[14] < b.root[14]))))))
  (Tree.br true
  (Tree.br (!decide (a.root[15] = b.root[15])) (Tree.done Exit.ret (lret (IVal.v (Value.bool (decide (a.root[15] < b.root[15]))))))
  (Tree.br false
  (Tree.stop
  (LState.mk
  [(22, AVal.ptr 0 1), (21, AVal.ptr 0 1), (20, AVal.imm (IVal.v (Value.int IntKind.i64 (16 : Int)))),
  (17, AVal.imm (IVal.v (Value.bool false))), (16, AVal.imm (IVal.v (Value.int IntKind.i64 (16 : Int)))),
  (5, AVal.imm (IVal.v (Value.int IntKind.i64 (16 : Int)))), (19, AVal.imm (IVal.v (Value.int IntKind.i64 (16 : Int)))),
  (18, AVal.imm (IVal.v (Value.int IntKind.i64 (15 : Int)))), (30, AVal.imm (IVal.v (Value.bool !decide (a.root[15] = b.root[15])))),
  (29, AVal.imm (u8 b.root[15])), (28, AVal.ptr 1 16), (27, AVal.ptr 1 1),
  (26, AVal.ptr 1 1), (25, AVal.imm (IVal.v (Value.int IntKind.i64 (15 : Int)))), (24, AVal.imm (u8 a.root[15])),
  (23, AVal.ptr 0 16), (10, AVal.imm (IVal.v (Value.bool !decide (a.asn = b.asn)))), (9, AVal.imm (u32 b.asn)),
  (8, AVal.ptr 1 0), (7, AVal.imm (u32 a.asn)), (6, AVal.ptr 0 0),
  (4, AVal.imm (IVal.v (Value.bool false))), (3, AVal.ptr 1 0), (2, AVal.ptr 0 0),
  (0, AVal.imm (encK a)), (1, AVal.imm (encK b))]
  [(1, Entry.box 53 (AVal.imm (encK b))), (0, Entry.box 53 (AVal.imm (encK a)))] 49 267 [(4, false)])
  6 3 (Op.indexAddr 49 (Operand.tmp 22) (Operand.tmp 20)))
  (Tree.done Exit.ret (lret (IVal.v (Value.bool (decide (a.height < b.height))))))))
  (Tree.done Exit.ret (lret (IVal.v (Value.bool (decide (a.height < b.height))))))))
  (Tree.done Exit.ret (lret (IVal.v (Value.bool (decide (a.height < b.height))))))))
  (Tree.done Exit.ret (lret (IVal.v (Value.bool (decide (a.height < b.height))))))))
  (Tree.done Exit.ret (lret (IVal.v (Value.bool (decide (a.height < b.height))))))))
  (Tree.done Exit.ret (lret (IVal.v (Value.bool (decide (a.height < b.height))))))))
  (Tree.done Exit.ret (lret (IVal.v (Value.bool (decide (a.height < b.height))))))))
  (Tree.done Exit.ret (lret (IVal.v (Value.bool (decide (a.height < b.height))))))))
  (Tree.done Exit.ret (lret (IVal.v (Value.bool (decide (a.height < b.height))))))))
  (Tree.done Exit.ret (lret (IVal.v (Value.bool (decide (a.height < b.height))))))))
  (Tree.done Exit.ret (lret (IVal.v (Value.bool (decide (a.height < b.height))))))))
  (Tree.done Exit.ret (lret (IVal.v (Value.bool (decide (a.height < b.height))))))))
  (Tree.done Exit.ret (lret (IVal.v (Value.bool (decide (a.height < b.height))))))))
  (Tree.done Exit.ret (lret (IVal.v (Value.bool (decide (a.height < b.height))))))))
  (Tree.done Exit.ret (lret (IVal.v (Value.bool (decide (a.height < b.height))))))))
  (Tree.done Exit.ret (lret (IVal.v (Value.bool (decide (a.height < b.height))))))))
  (Tree.done Exit.ret (lret (IVal.v (Value.bool (decide (a.height < b.height))))))) := by kernel_rfl
theorem c47 (a b : RKey) : ASpec prog 47 [encK a, encK b] (bo (befK a b)) := by
  refine ASpec.treeW Proofs.Try.f47 { un := fun _ => 17 } (by kernel_rfl) (by kernel_rfl) (t47 a b) ?_
  refine ⟨fun h1 => ⟨_, rfl, ?_⟩, fun h1 => ⟨fun _ => ⟨fun h2 => ⟨_, rfl, ?_⟩, fun h2 => ⟨fun _ => ⟨fun h3 => ⟨_, rfl, ?_⟩, fun h3 => ⟨fun _ => ⟨fun h4 => ⟨_, rfl, ?_⟩, fun h4 => ⟨fun _ => ⟨fun h5 => ⟨_, rfl, ?_⟩, fun h5 => ⟨fun _ => ⟨fun h6 => ⟨_, rfl, ?_⟩, fun h6 => ⟨fun _ => ⟨fun h7 => ⟨_, rfl, ?_⟩, fun h7 => ⟨fun _ => ⟨fun h8 => ⟨_, rfl, ?_⟩, fun h8 => ⟨fun _ => ⟨fun h9 => ⟨_, rfl, ?_⟩, fun h9 => ⟨fun _ => ⟨fun h10 => ⟨_, rfl, ?_⟩, fun h10 => ⟨fun _ => ⟨fun h11 => ⟨_, rfl, ?_⟩, fun h11 => ⟨fun _ => ⟨fun h12 => ⟨_, rfl, ?_⟩, fun h12 => ⟨fun _ => ⟨fun h13 => ⟨_, rfl, ?_⟩, fun h13 => ⟨fun _ => ⟨fun h14 => ⟨_, rfl, ?_⟩, fun h14 => ⟨fun _ => ⟨fun h15 => ⟨_, rfl, ?_⟩, fun h15 => ⟨fun _ => ⟨fun h16 => ⟨_, rfl, ?_⟩, fun h16 => ⟨fun _ => ⟨fun h17 => ⟨_, rfl, ?_⟩, fun h17 => ⟨fun h => (by cases h), fun _ => ⟨_, rfl, ?_⟩⟩⟩, fun h => (by cases h)⟩⟩, fun h => (by cases h)⟩⟩, fun h => (by cases h)⟩⟩, fun h => (by cases h)⟩⟩, fun h => (by cases h)⟩⟩, fun h => (by cases h)⟩⟩, fun h => (by cases h)⟩⟩, fun h => (by cases h)⟩⟩, fun h => (by cases h)⟩⟩, fun h => (by cases h)⟩⟩, fun h => (by cases h)⟩⟩, fun h => (by cases h)⟩⟩, fun h => (by cases h)⟩⟩, fun h => (by cases h)⟩⟩, fun h => (by cases h)⟩⟩, fun h => (by cases h)⟩⟩
  all_goals (refine ile_bo ?_; simp only [Bool.not_eq_true', Bool.not_eq_false', decide_eq_true_eq, decide_eq_false_iff_not] at *; simp only [befK, lexB, ne_eq, *, not_true_eq_false, not_false_eq_true, if_true, if_false])
end Gp
namespace Gp
/-! lists of numbers -/
def P52 (a b : Attest) (i : Nat) : Bool := neI (a.provs.getD i 0) (b.provs.getD i 0)
def I52 (a b : Attest) (i : Nat) : LState := { t := [(5, .imm (i64 i)), (3, .ptr 1 0), (2, .ptr 0 0)], s := [(0, .box 47 (.imm (encT a))), (1, .box 47 (.imm (encT b)))], m := 38, n := 2 }
def R52 (a b : Attest) (i : Nat) : LState := { t := [(4, .imm (bo false))], s := [], m := 38, n := 2 }
def E52 (a b : Attest) : LState := { t := [], s := [], m := 38, n := 2 }
def fin52 : Exit → Fin
  | .normal => ⟨[], [5, 3, 2], [0, 1]⟩
  | .ret => ⟨[], [4], []⟩
  | _ => ⟨[], [], []⟩
def L52 (a b : Attest) : Tree := Lfirst (P52 a b) a.provs.length 0 (R52 a b) (E52 a b)
def T52r (a b : Attest) (i : Nat) : Tell :=
  Tell.mk (fun x x_1 => false) (fun x x_1 => Orc.no) (fun x => Tree.fail 1000003 0) (fun x => 0) (fun x => ([], []))
  (oget [(7, 6, 3, Orc.elem (u32 (List.getD a.provs i default))), (7, 6, 8, Orc.elem (u32 (List.getD b.provs i default)))]) fun x x_1 => Tree.fail 1000003 0
theorem t52r (a b : Attest) (i : Nat) : levL prog Proofs.Try.f52 4 (I52 a b i) (T52r a b i) fin52 =
  Tree.br (decide ((↑i : Int) < (↑(List.length (List.map u32 a.provs)) : Int)))
  (Tree.need ((0 : Int) ≤ (↑i : Int) ∧ (List.map u32 a.provs)[i]? = some (u32 (List.getD a.provs i (0 : Int))))
  (Tree.need ((0 : Int) ≤ (↑i : Int) ∧ (List.map u32 b.provs)[i]? = some (u32 (List.getD b.provs i (0 : Int))))
  (Tree.br (!decide (List.getD a.provs i (0 : Int) = List.getD b.provs i (0 : Int))) (Tree.done Exit.ret (LState.mk [(4, AVal.imm (IVal.v (Value.bool false)))] [] 38 19 []))
  (Tree.done Exit.normal
  (LState.mk [(5, AVal.imm (IVal.v (Value.int IntKind.i64 (IntKind.wrap IntKind.i64 ((↑i : Int) + (1 : Int)))))), (3, AVal.ptr 1 0), (2, AVal.ptr 0 0)]
  [(0, Entry.box 47 (AVal.imm (encT a))), (1, Entry.box 47 (AVal.imm (encT b)))] 38 21 [])))))
  (Tree.done (Exit.exit 0) (LState.mk [] [] 38 7 [])) := by kernel_rfl
def B52 (a b : Attest) : Tell := { Lp := fun _ => L52 a b, lv := fun _ => ([5, 3, 2], [0, 1]) }
def T52 (a b : Attest) : Tell :=
  Tell.mk (fun x x_1 => false) (fun x x_1 => Orc.no) (fun x => L52 a b) (fun x => 0) (fun x => ([5, 3, 2], [0, 1])) (fun x x_1 x_2 => Orc.no) fun x x_1 => L52 a b
theorem t52 (a b : Attest) : levF prog Proofs.Try.f52 [encT a, encT b] (T52 a b) =
  Tree.br (!decide (a.cust = b.cust)) (Tree.done Exit.ret (lret (IVal.v (Value.bool false))))
  (Tree.br (!decide ((↑(List.length (List.map u32 a.provs)) : Int) = (↑(List.length (List.map u32 b.provs)) : Int))) (Tree.done Exit.ret (lret (IVal.v (Value.bool false))))
  (Tree.loop 4
  (LState.mk [(5, AVal.imm (IVal.v (Value.int IntKind.i64 (0 : Int)))), (3, AVal.ptr 1 0), (2, AVal.ptr 0 0)]
  [(0, Entry.box 47 (AVal.imm (encT a))), (1, Entry.box 47 (AVal.imm (encT b)))] 38 18 [])
  (Tree.br (anyI (P52 a b) 0 (List.length a.provs)) (Tree.done Exit.ret (R52 a b (firstI (P52 a b) 0 (List.length a.provs)))) (Tree.done (Exit.exit 0) (E52 a b)))
  (Tree.br (anyI (P52 a b) 0 (List.length a.provs)) (Tree.done Exit.ret (lret (IVal.v (Value.bool false)))) (Tree.done Exit.ret (lret (IVal.v (Value.bool true))))))) := by kernel_rfl
theorem l52 (a b : Attest) (hl : a.provs.length ≤ 2 ^ 62) (hlr : a.provs.length = b.provs.length) (σ : LState) (h : LSub σ (I52 a b 0)) : LoopOk prog [] (bodyOf Proofs.Try.f52) 4 σ (L52 a b) := by
  refine LoopOk.first (P52 a b) a.provs.length 0 (I52 a b) (R52 a b) (E52 a b) (T52r a b) fin52 (by kernel_rfl) h fun i hi hz => ?_
  rw [t52r]
  refine ⟨fun h1 => ⟨elem_need ?_, fun _ => ⟨elem_need ?_, fun _ => ⟨fun h2 => ?_, fun h2 => ?_⟩⟩⟩, fun h1 => ?_⟩
  · (refine ⟨by omega, ?_, ?_⟩ <;> (simp only [List.length_map, decide_eq_true_eq, decide_eq_false_iff_not, Int.toNat_natCast] at * <;> omega))
  · (refine ⟨by omega, ?_, ?_⟩ <;> (simp only [List.length_map, decide_eq_true_eq, decide_eq_false_iff_not, Int.toNat_natCast] at * <;> omega))
  · exact ⟨by (simp only [List.length_map, decide_eq_true_eq, decide_eq_false_iff_not, Int.toNat_natCast] at * <;> omega), h2, by simp [R52, bo, LSub, tsub, ssub, tl, sl, linT, linS, ainB, ainBL]⟩
  · exact ⟨by (simp only [List.length_map, decide_eq_true_eq, decide_eq_false_iff_not, Int.toNat_natCast] at * <;> omega), h2, by simp [I52, i64, i64_small (n := i) (by (simp only [List.length_map, decide_eq_true_eq, decide_eq_false_iff_not, Int.toNat_natCast] at * <;> omega)) hl, LSub, tsub, ssub, tl, sl, linT, linS, ainB, ainBL]⟩
  · exact ⟨rfl, by (simp only [List.length_map, decide_eq_true_eq, decide_eq_false_iff_not, Int.toNat_natCast] at * <;> omega), by simp [E52, LSub, tsub, ssub, tl, sl, linT, linS, ainB, ainBL]⟩
theorem c52 (a b : Attest) (hl : a.provs.length ≤ 2 ^ 62) : ASpec prog 52 [encT a, encT b] (bo (decide (a = b))) := by
  have he : sameL neI 0 a.provs b.provs = decide (a.provs = b.provs) := by rw [Bool.eq_iff_iff, sameL_iff (fun a b => by simp [neI])]; simp
  have hab : decide (a = b) = (decide (a.cust = b.cust) && decide (a.provs = b.provs)) := by rw [Bool.eq_iff_iff]; cases a; cases b; simp
  rw [hab, ← he]
  refine ASpec.treeW Proofs.Try.f52 (T52 a b) (by kernel_rfl) (by kernel_rfl) (t52 a b) ?_
  refine ⟨fun h1 => ⟨_, rfl, ?_⟩, fun h1 => ⟨fun h2 => ⟨_, rfl, ?_⟩, fun h2 => ⟨?_, ⟨fun h3 => ⟨_, rfl, ?_⟩, fun h3 => ⟨_, rfl, ?_⟩⟩⟩⟩⟩
  · have : ¬ a.cust = b.cust := by simpa using h1
    exact ile_bo (by simp [this])
  · have : ¬ a.provs.length = b.provs.length := by simp at h2; omega
    exact ile_bo (by simp [sameL, this])
  · exact l52 a b hl (by simp at h2; omega) _ (by simp [I52, i64, LSub, tsub, ssub, tl, sl, linT, linS, ainB, ainBL])
  · refine ile_bo ?_
    simp only [sameL, show diffAt neI 0 a.provs b.provs = P52 a b from rfl, h3]; simp
  · have h2 : a.provs.length = b.provs.length := by simp at h2; omega
    have h1 : a.cust = b.cust := by simpa using h1
    refine ile_bo ?_
    simp only [sameL, show diffAt neI 0 a.provs b.provs = P52 a b from rfl, h3]; simp [h1, h2]
def diffB {α : Type} (ne : α → α → Bool) (d : α) (l r : List α) (i : Nat) : Bool := ne (l.getD i d) (r.getD i d)
def P16a (p q : Payload) (i : Nat) : Bool := neO (p.origins.getD i default) (q.origins.getD i default)
def I16a (p q : Payload) (i : Nat) : LState := { t := [(5, .imm (i64 i)), (3, .ptr 1 0), (2, .ptr 0 0)], s := [(0, .box 26 (.imm (encL p))), (1, .box 26 (.imm (encL q)))], m := 88, n := 2 }
def R16a (p q : Payload) (i : Nat) : LState := { t := [(4, .imm (bo false))], s := [], m := 88, n := 2 }
def E16a (p q : Payload) : LState := { t := [(3, .ptr 1 0), (2, .ptr 0 0)], s := [(0, .box 26 (.imm (encL p))), (1, .box 26 (.imm (encL q)))], m := 88, n := 2 }
def fin16a : Exit → Fin
  | .normal => ⟨[], [5, 3, 2], [0, 1]⟩
  | .ret => ⟨[], [4], []⟩
  | _ => ⟨[], [3, 2], [0, 1]⟩
def L16a (p q : Payload) : Tree := Lfirst (P16a p q) p.origins.length 0 (R16a p q) (E16a p q)
def T16ar (p q : Payload) (i : Nat) : Tell :=
  Tell.mk (fun x x_1 => false) (fun x x_1 => Orc.no) (fun x => Tree.fail 1000003 0) (fun x => 0) (fun x => ([], []))
  (oget [(7, 6, 3, Orc.elem (encO (List.getD p.origins i default))), (7, 6, 8, Orc.elem (encO (List.getD q.origins i default)))]) fun x x_1 => Tree.fail 1000003 0
theorem t16ar (p q : Payload) (i : Nat) : levL prog Proofs.Try.f16 4 (I16a p q i) (T16ar p q i) fin16a =
  Tree.br (decide ((↑i : Int) < (↑(List.length (List.map encO p.origins)) : Int)))
  (Tree.need ((0 : Int) ≤ (↑i : Int) ∧ (List.map encO p.origins)[i]? = some (encO (List.getD p.origins i default)))
  (Tree.need ((0 : Int) ≤ (↑i : Int) ∧ (List.map encO q.origins)[i]? = some (encO (List.getD q.origins i default)))
  (Tree.br
  (if BinOp.neq = BinOp.neq then
  !(decide ((List.getD p.origins i default).asn = (List.getD q.origins i default).asn) &&
  (decide ((List.getD p.origins i default).pfx.fam = (List.getD q.origins i default).pfx.fam) &&
  (decide ((List.getD p.origins i default).pfx.addr.hi = (List.getD q.origins i default).pfx.addr.hi) &&
  (decide ((List.getD p.origins i default).pfx.addr.lo = (List.getD q.origins i default).pfx.addr.lo) &&
  (decide ((List.getD p.origins i default).pfx.len = (List.getD q.origins i default).pfx.len) && (decide ((List.getD p.origins i default).max = (List.getD q.origins i default).max) && true))))))
  else
  decide ((List.getD p.origins i default).asn = (List.getD q.origins i default).asn) &&
  (decide ((List.getD p.origins i default).pfx.fam = (List.getD q.origins i default).pfx.fam) &&
  (decide ((List.getD p.origins i default).pfx.addr.hi = (List.getD q.origins i default).pfx.addr.hi) &&
  (decide ((List.getD p.origins i default).pfx.addr.lo = (List.getD q.origins i default).pfx.addr.lo) &&
  (decide ((List.getD p.origins i default).pfx.len = (List.getD q.origins i default).pfx.len) && (decide ((List.getD p.origins i default).max = (List.getD q.origins i default).max) && true))))))
  (Tree.done Exit.ret (LState.mk [(4, AVal.imm (IVal.v (Value.bool false)))] [] 88 19 []))
  (Tree.done Exit.normal
  (LState.mk [(5, AVal.imm (IVal.v (Value.int IntKind.i64 (IntKind.wrap IntKind.i64 ((↑i : Int) + (1 : Int)))))), (3, AVal.ptr 1 0), (2, AVal.ptr 0 0)]
  [(0, Entry.box 26 (AVal.imm (encL p))), (1, Entry.box 26 (AVal.imm (encL q)))] 88 21 [])))))
  (Tree.done (Exit.exit 0)
  (LState.mk [(3, AVal.ptr 1 0), (2, AVal.ptr 0 0)] [(0, Entry.box 26 (AVal.imm (encL p))), (1, Entry.box 26 (AVal.imm (encL q)))] 88 7 [])) := by kernel_rfl
theorem l16a (p q : Payload) (hl : p.origins.length ≤ 2 ^ 62) (hlr : p.origins.length = q.origins.length) (σ : LState) (h : LSub σ (I16a p q 0)) : LoopOk prog [] (bodyOf Proofs.Try.f16) 4 σ (L16a p q) := by
  refine LoopOk.first (P16a p q) p.origins.length 0 (I16a p q) (R16a p q) (E16a p q) (T16ar p q) fin16a (by kernel_rfl) h fun i hi hz => ?_
  rw [t16ar]
  refine ⟨fun h1 => ⟨elem_need ?_, fun _ => ⟨elem_need ?_, fun _ => ⟨fun h2 => ?_, fun h2 => ?_⟩⟩⟩, fun h1 => ?_⟩
  · (refine ⟨by omega, ?_, ?_⟩ <;> (simp only [List.length_map, decide_eq_true_eq, decide_eq_false_iff_not, Int.toNat_natCast] at * <;> omega))
  · (refine ⟨by omega, ?_, ?_⟩ <;> (simp only [List.length_map, decide_eq_true_eq, decide_eq_false_iff_not, Int.toNat_natCast] at * <;> omega))
  · exact ⟨by (simp only [List.length_map, decide_eq_true_eq, decide_eq_false_iff_not, Int.toNat_natCast] at * <;> omega), h2, by simp [R16a, bo, LSub, tsub, ssub, tl, sl, linT, linS, ainB, ainBL]⟩
  · exact ⟨by (simp only [List.length_map, decide_eq_true_eq, decide_eq_false_iff_not, Int.toNat_natCast] at * <;> omega), h2, by simp [I16a, i64, i64_small (n := i) (by (simp only [List.length_map, decide_eq_true_eq, decide_eq_false_iff_not, Int.toNat_natCast] at * <;> omega)) hl, LSub, tsub, ssub, tl, sl, linT, linS, ainB, ainBL]⟩
  · exact ⟨rfl, by (simp only [List.length_map, decide_eq_true_eq, decide_eq_false_iff_not, Int.toNat_natCast] at * <;> omega), by simp [E16a, LSub, tsub, ssub, tl, sl, linT, linS, ainB, ainBL]⟩
def P16b (p q : Payload) (i : Nat) : Bool := !decide (p.paths.getD i default = q.paths.getD i default)
def I16b (p q : Payload) (i : Nat) : LState := { t := [(6, .imm (i64 i)), (3, .ptr 1 0), (2, .ptr 0 0)], s := [(0, .box 26 (.imm (encL p))), (1, .box 26 (.imm (encL q)))], m := 88, n := 2 }
def R16b (p q : Payload) (i : Nat) : LState := { t := [(4, .imm (bo false))], s := [], m := 88, n := 2 }
def E16b (p q : Payload) : LState := { t := [(3, .ptr 1 0), (2, .ptr 0 0)], s := [(0, .box 26 (.imm (encL p))), (1, .box 26 (.imm (encL q)))], m := 88, n := 2 }
def fin16b : Exit → Fin
  | .normal => ⟨[], [6, 3, 2], [0, 1]⟩
  | .ret => ⟨[], [4], []⟩
  | _ => ⟨[], [3, 2], [0, 1]⟩
def L16b (p q : Payload) : Tree := Lfirst (P16b p q) p.paths.length 2 (R16b p q) (E16b p q)
def T16br (p q : Payload) (i : Nat) : Tell :=
  Tell.mk (fun x x_1 => false) (fun x x_1 => Orc.no) (fun x => Tree.fail 1000003 0) (fun x => 0) (fun x => ([], []))
  (oget
  [(7, 11, 3, Orc.elem (encT (List.getD p.paths i default))), (7, 11, 8, Orc.elem (encT (List.getD q.paths i default))),
  (7, 11, 10, Orc.call [encT (List.getD p.paths i default), encT (List.getD q.paths i default)] (bo (decide (List.getD p.paths i default = List.getD q.paths i default))))])
  fun x x_1 => Tree.fail 1000003 0
theorem t16br (p q : Payload) (i : Nat) : levL prog Proofs.Try.f16 9 (I16b p q i) (T16br p q i) fin16b =
  Tree.br (decide ((↑i : Int) < (↑(List.length (List.map encT p.paths)) : Int)))
  (Tree.need ((0 : Int) ≤ (↑i : Int) ∧ (List.map encT p.paths)[i]? = some (encT (List.getD p.paths i default)))
  (Tree.need ((0 : Int) ≤ (↑i : Int) ∧ (List.map encT q.paths)[i]? = some (encT (List.getD q.paths i default)))
  (Tree.need
  (ILeL [encT (List.getD p.paths i default), encT (List.getD q.paths i default)] [encT (List.getD p.paths i default), encT (List.getD q.paths i default)] ∧
  ASpec prog 52 [encT (List.getD p.paths i default), encT (List.getD q.paths i default)] (bo (decide (List.getD p.paths i default = List.getD q.paths i default))))
  (Tree.br (!decide (List.getD p.paths i default = List.getD q.paths i default)) (Tree.done Exit.ret (LState.mk [(4, AVal.imm (IVal.v (Value.bool false)))] [] 88 20 []))
  (Tree.done Exit.normal
  (LState.mk [(6, AVal.imm (IVal.v (Value.int IntKind.i64 (IntKind.wrap IntKind.i64 ((↑i : Int) + (1 : Int)))))), (3, AVal.ptr 1 0), (2, AVal.ptr 0 0)]
  [(0, Entry.box 26 (AVal.imm (encL p))), (1, Entry.box 26 (AVal.imm (encL q)))] 88 22 []))))))
  (Tree.done (Exit.exit 2)
  (LState.mk [(3, AVal.ptr 1 0), (2, AVal.ptr 0 0)] [(0, Entry.box 26 (AVal.imm (encL p))), (1, Entry.box 26 (AVal.imm (encL q)))] 88 7 [])) := by kernel_rfl
theorem l16b (p q : Payload) (hT : ∀ a ∈ p.paths, okT a) (hl : p.paths.length ≤ 2 ^ 62) (hlr : p.paths.length = q.paths.length) (σ : LState) (h : LSub σ (I16b p q 0)) : LoopOk prog [] (bodyOf Proofs.Try.f16) 9 σ (L16b p q) := by
  refine LoopOk.first (P16b p q) p.paths.length 2 (I16b p q) (R16b p q) (E16b p q) (T16br p q) fin16b (by kernel_rfl) h fun i hi hz => ?_
  rw [t16br]
  refine ⟨fun h1 => ⟨elem_need ?_, fun _ => ⟨elem_need ?_, fun _ => ⟨⟨ILeL.refl _, c52 _ _ ?_⟩, fun _ => ⟨fun h2 => ?_, fun h2 => ?_⟩⟩⟩⟩, fun h1 => ?_⟩
  · (refine ⟨by omega, ?_, ?_⟩ <;> (simp only [List.length_map, decide_eq_true_eq, decide_eq_false_iff_not, Int.toNat_natCast] at * <;> omega))
  · (refine ⟨by omega, ?_, ?_⟩ <;> (simp only [List.length_map, decide_eq_true_eq, decide_eq_false_iff_not, Int.toNat_natCast] at * <;> omega))
  · have := hT _ (getD_mem p.paths i (by (simp only [List.length_map, decide_eq_true_eq, decide_eq_false_iff_not, Int.toNat_natCast] at * <;> omega))); unfold okT at this; omega
  · exact ⟨by (simp only [List.length_map, decide_eq_true_eq, decide_eq_false_iff_not, Int.toNat_natCast] at * <;> omega), h2, by simp [R16b, bo, LSub, tsub, ssub, tl, sl, linT, linS, ainB, ainBL]⟩
  · exact ⟨by (simp only [List.length_map, decide_eq_true_eq, decide_eq_false_iff_not, Int.toNat_natCast] at * <;> omega), h2, by simp [I16b, i64, i64_small (n := i) (by (simp only [List.length_map, decide_eq_true_eq, decide_eq_false_iff_not, Int.toNat_natCast] at * <;> omega)) hl, LSub, tsub, ssub, tl, sl, linT, linS, ainB, ainBL]⟩
  · exact ⟨rfl, by (simp only [List.length_map, decide_eq_true_eq, decide_eq_false_iff_not, Int.toNat_natCast] at * <;> omega), by simp [E16b, LSub, tsub, ssub, tl, sl, linT, linS, ainB, ainBL]⟩
def P16c (p q : Payload) (i : Nat) : Bool := neK (p.keys.getD i default) (q.keys.getD i default)
def I16c (p q : Payload) (i : Nat) : LState := { t := [(7, .imm (i64 i)), (3, .ptr 1 0), (2, .ptr 0 0)], s := [(0, .box 26 (.imm (encL p))), (1, .box 26 (.imm (encL q)))], m := 88, n := 2 }
def R16c (p q : Payload) (i : Nat) : LState := { t := [(4, .imm (bo false))], s := [], m := 88, n := 2 }
def E16c (p q : Payload) : LState := { t := [(3, .ptr 1 0), (2, .ptr 0 0)], s := [(0, .box 26 (.imm (encL p))), (1, .box 26 (.imm (encL q)))], m := 88, n := 2 }
def fin16c : Exit → Fin
  | .normal => ⟨[], [7, 3, 2], [0, 1]⟩
  | .ret => ⟨[], [4], []⟩
  | _ => ⟨[], [3, 2], [0, 1]⟩
def L16c (p q : Payload) : Tree := Lfirst (P16c p q) p.keys.length 4 (R16c p q) (E16c p q)
def T16cr (p q : Payload) (i : Nat) : Tell :=
  Tell.mk (fun x x_1 => false) (fun x x_1 => Orc.no) (fun x => Tree.fail 1000003 0) (fun x => 0) (fun x => ([], []))
  (oget [(7, 16, 3, Orc.elem (encK (List.getD p.keys i default))), (7, 16, 8, Orc.elem (encK (List.getD q.keys i default)))]) fun x x_1 => Tree.fail 1000003 0
theorem t16cr (p q : Payload) (i : Nat) : levL prog Proofs.Try.f16 14 (I16c p q i) (T16cr p q i) fin16c =
  Tree.br (decide ((↑i : Int) < (↑(List.length (List.map encK p.keys)) : Int)))
  (Tree.need ((0 : Int) ≤ (↑i : Int) ∧ (List.map encK p.keys)[i]? = some (encK (List.getD p.keys i default)))
  (Tree.need ((0 : Int) ≤ (↑i : Int) ∧ (List.map encK q.keys)[i]? = some (encK (List.getD q.keys i default)))
  (Tree.br
  (if BinOp.neq = BinOp.neq then
  !(decide ((List.getD p.keys i default).asn = (List.getD q.keys i default).asn) &&
  (decide ((List.getD p.keys i default).root[0] = (List.getD q.keys i default).root[0]) &&
  (decide ((List.getD p.keys i default).root[1] = (List.getD q.keys i default).root[1]) &&
  (decide ((List.getD p.keys i default).root[2] = (List.getD q.keys i default).root[2]) &&
  (decide ((List.getD p.keys i default).root[3] = (List.getD q.keys i default).root[3]) &&
  (decide ((List.getD p.keys i default).root[4] = (List.getD q.keys i default).root[4]) &&
  (decide ((List.getD p.keys i default).root[5] = (List.getD q.keys i default).root[5]) &&
  (decide ((List.getD p.keys i default).root[6] = (List.getD q.keys i default).root[6]) &&
  (decide ((List.getD p.keys i default).root[7] = (List.getD q.keys i default).root[7]) &&
  (decide ((List.getD p.keys i default).root[8] = (List.getD q.keys i default).root[8]) &&
  (decide ((List.getD p.keys i default).root[9] = (List.getD q.keys i default).root[9]) &&
  (decide ((List.getD p.keys i default).root[10] = (List.getD q.keys i default).root[10]) &&
  (decide ((List.getD p.keys i default).root[11] = (List.getD q.keys i default).root[11]) &&
  (decide ((List.getD p.keys i default).root[12] = (List.getD q.keys i default).root[12]) &&
  (decide ((List.getD p.keys i default).root[13] = (List.getD q.keys i default).root[13]) &&
  (decide ((List.getD p.keys i default).root[14] = (List.getD q.keys i default).root[14]) &&
  (decide ((List.getD p.keys i default).root[15] = (List.getD q.keys i default).root[15]) &&
  (decide ((List.getD p.keys i default).height = (List.getD q.keys i default).height) && true))))))))))))))))))
  else
  decide ((List.getD p.keys i default).asn = (List.getD q.keys i default).asn) &&
  (decide ((List.getD p.keys i default).root[0] = (List.getD q.keys i default).root[0]) &&
  (decide ((List.getD p.keys i default).root[1] = (List.getD q.keys i default).root[1]) &&
  (decide ((List.getD p.keys i default).root[2] = (List.getD q.keys i default).root[2]) &&
  (decide ((List.getD p.keys i default).root[3] = (List.getD q.keys i default).root[3]) &&
  (decide ((List.getD p.keys i default).root[4] = (List.getD q.keys i default).root[4]) &&
  (decide ((List.getD p.keys i default).root[5] = (List.getD q.keys i default).root[5]) &&
  (decide ((List.getD p.keys i default).root[6] = (List.getD q.keys i default).root[6]) &&
  (decide ((List.getD p.keys i default).root[7] = (List.getD q.keys i default).root[7]) &&
  (decide ((List.getD p.keys i default).root[8] = (List.getD q.keys i default).root[8]) &&
  (decide ((List.getD p.keys i default).root[9] = (List.getD q.keys i default).root[9]) &&
  (decide ((List.getD p.keys i default).root[10] = (List.getD q.keys i default).root[10]) &&
  (decide ((List.getD p.keys i default).root[11] = (List.getD q.keys i default).root[11]) &&
  (decide ((List.getD p.keys i default).root[12] = (List.getD q.keys i default).root[12]) &&
  (decide ((List.getD p.keys i default).root[13] = (List.getD q.keys i default).root[13]) &&
  (decide ((List.getD p.keys i default).root[14] = (List.getD q.keys i default).root[14]) &&
  (decide ((List.getD p.keys i default).root[15] = (List.getD q.keys i default).root[15]) &&
  (decide ((List.getD p.keys i default).height = (List.getD q.keys i default).height) && true))))))))))))))))))
  (Tree.done Exit.ret (LState.mk [(4, AVal.imm (IVal.v (Value.bool false)))] [] 88 19 []))
  (Tree.done Exit.normal
  (LState.mk [(7, AVal.imm (IVal.v (Value.int IntKind.i64 (IntKind.wrap IntKind.i64 ((↑i : Int) + (1 : Int)))))), (3, AVal.ptr 1 0), (2, AVal.ptr 0 0)]
  [(0, Entry.box 26 (AVal.imm (encL p))), (1, Entry.box 26 (AVal.imm (encL q)))] 88 21 [])))))
  (Tree.done (Exit.exit 4)
  (LState.mk [(3, AVal.ptr 1 0), (2, AVal.ptr 0 0)] [(0, Entry.box 26 (AVal.imm (encL p))), (1, Entry.box 26 (AVal.imm (encL q)))] 88 7 [])) := by kernel_rfl
theorem l16c (p q : Payload) (hl : p.keys.length ≤ 2 ^ 62) (hlr : p.keys.length = q.keys.length) (σ : LState) (h : LSub σ (I16c p q 0)) : LoopOk prog [] (bodyOf Proofs.Try.f16) 14 σ (L16c p q) := by
  refine LoopOk.first (P16c p q) p.keys.length 4 (I16c p q) (R16c p q) (E16c p q) (T16cr p q) fin16c (by kernel_rfl) h fun i hi hz => ?_
  rw [t16cr]
  refine ⟨fun h1 => ⟨elem_need ?_, fun _ => ⟨elem_need ?_, fun _ => ⟨fun h2 => ?_, fun h2 => ?_⟩⟩⟩, fun h1 => ?_⟩
  · (refine ⟨by omega, ?_, ?_⟩ <;> (simp only [List.length_map, decide_eq_true_eq, decide_eq_false_iff_not, Int.toNat_natCast] at * <;> omega))
  · (refine ⟨by omega, ?_, ?_⟩ <;> (simp only [List.length_map, decide_eq_true_eq, decide_eq_false_iff_not, Int.toNat_natCast] at * <;> omega))
  · exact ⟨by (simp only [List.length_map, decide_eq_true_eq, decide_eq_false_iff_not, Int.toNat_natCast] at * <;> omega), h2, by simp [R16c, bo, LSub, tsub, ssub, tl, sl, linT, linS, ainB, ainBL]⟩
  · exact ⟨by (simp only [List.length_map, decide_eq_true_eq, decide_eq_false_iff_not, Int.toNat_natCast] at * <;> omega), h2, by simp [I16c, i64, i64_small (n := i) (by (simp only [List.length_map, decide_eq_true_eq, decide_eq_false_iff_not, Int.toNat_natCast] at * <;> omega)) hl, LSub, tsub, ssub, tl, sl, linT, linS, ainB, ainBL]⟩
  · exact ⟨rfl, by (simp only [List.length_map, decide_eq_true_eq, decide_eq_false_iff_not, Int.toNat_natCast] at * <;> omega), by simp [E16c, LSub, tsub, ssub, tl, sl, linT, linS, ainB, ainBL]⟩
def B16 (p q : Payload) : Tell := { Lp := fun k => match k with | 4 => L16a p q | 9 => L16b p q | _ => L16c p q, lv := fun k => match k with | 4 => ([5, 3, 2], [0, 1]) | 9 => ([6, 3, 2], [0, 1]) | _ => ([7, 3, 2], [0, 1]) }
def T16 (p q : Payload) : Tell :=
  Tell.mk (fun x x_1 => false) (fun x x_1 => Orc.no)
  (fun k =>
  match k with
  | 4 => L16a p q
  | 9 => L16b p q
  | x => L16c p q)
  (fun x => 0)
  (fun k =>
  match k with
  | 4 => ([5, 3, 2], [0, 1])
  | 9 => ([6, 3, 2], [0, 1])
  | x => ([7, 3, 2], [0, 1]))
  (fun x x_1 x_2 => Orc.no) fun x k =>
  match k with
  | 4 => L16a p q
  | 9 => L16b p q
  | x => L16c p q
theorem t16 (p q : Payload) : levF prog Proofs.Try.f16 [encL p, encL q] (T16 p q) =
  Tree.br (!decide ((↑(List.length (List.map encO p.origins)) : Int) = (↑(List.length (List.map encO q.origins)) : Int))) (Tree.done Exit.ret (lret (IVal.v (Value.bool false))))
  (Tree.br (!decide ((↑(List.length (List.map encT p.paths)) : Int) = (↑(List.length (List.map encT q.paths)) : Int))) (Tree.done Exit.ret (lret (IVal.v (Value.bool false))))
  (Tree.br (!decide ((↑(List.length (List.map encK p.keys)) : Int) = (↑(List.length (List.map encK q.keys)) : Int))) (Tree.done Exit.ret (lret (IVal.v (Value.bool false))))
  (Tree.loop 4
  (LState.mk [(5, AVal.imm (IVal.v (Value.int IntKind.i64 (0 : Int)))), (3, AVal.ptr 1 0), (2, AVal.ptr 0 0)]
  [(0, Entry.box 26 (AVal.imm (encL p))), (1, Entry.box 26 (AVal.imm (encL q)))] 88 29 [])
  (Tree.br (anyI (P16a p q) 0 (List.length p.origins)) (Tree.done Exit.ret (R16a p q (firstI (P16a p q) 0 (List.length p.origins)))) (Tree.done (Exit.exit 0) (E16a p q)))
  (Tree.br (anyI (P16a p q) 0 (List.length p.origins)) (Tree.done Exit.ret (lret (IVal.v (Value.bool false))))
  (Tree.loop 9
  (LState.mk [(6, AVal.imm (IVal.v (Value.int IntKind.i64 (0 : Int)))), (3, AVal.ptr 1 0), (2, AVal.ptr 0 0)]
  [(0, Entry.box 26 (AVal.imm (encL p))), (1, Entry.box 26 (AVal.imm (encL q)))] 88 3 [])
  (Tree.br (anyI (P16b p q) 0 (List.length p.paths)) (Tree.done Exit.ret (R16b p q (firstI (P16b p q) 0 (List.length p.paths)))) (Tree.done (Exit.exit 2) (E16b p q)))
  (Tree.br (anyI (P16b p q) 0 (List.length p.paths)) (Tree.done Exit.ret (lret (IVal.v (Value.bool false))))
  (Tree.loop 14
  (LState.mk [(7, AVal.imm (IVal.v (Value.int IntKind.i64 (0 : Int)))), (3, AVal.ptr 1 0), (2, AVal.ptr 0 0)]
  [(0, Entry.box 26 (AVal.imm (encL p))), (1, Entry.box 26 (AVal.imm (encL q)))] 88 3 [])
  (Tree.br (anyI (P16c p q) 0 (List.length p.keys)) (Tree.done Exit.ret (R16c p q (firstI (P16c p q) 0 (List.length p.keys)))) (Tree.done (Exit.exit 4) (E16c p q)))
  (Tree.br (anyI (P16c p q) 0 (List.length p.keys)) (Tree.done Exit.ret (lret (IVal.v (Value.bool false)))) (Tree.done Exit.ret (lret (IVal.v (Value.bool true)))))))))))) := by kernel_rfl
theorem c16 (p q : Payload) (hp : p.ok) : ASpec prog 16 [encL p, encL q] (bo (decide (p = q))) := by
  have h1 := hp.o; have h2 := hp.t; have h3 := hp.k
  have hab : decide (p = q) = (sameL neO default p.origins q.origins && (sameL (fun a b => !decide (a = b)) default p.paths q.paths && sameL neK default p.keys q.keys)) := by
    rw [Bool.eq_iff_iff, Bool.and_eq_true, Bool.and_eq_true, sameL_iff neO_iff, sameL_iff (fun a b => by simp), sameL_iff neK_iff]
    cases p; cases q; simp
  rw [hab]
  have d1 : diffAt neO default p.origins q.origins = P16a p q := rfl
  have d2 : diffAt (fun a b => !decide (a = b)) default p.paths q.paths = P16b p q := rfl
  have d9003 : diffAt neK default p.keys q.keys = P16c p q := rfl
  refine ASpec.treeW Proofs.Try.f16 (T16 p q) (by kernel_rfl) (by kernel_rfl) (t16 p q) ?_
  refine ⟨fun h1 => ⟨_, rfl, ?_⟩, fun h1 => ⟨fun h2 => ⟨_, rfl, ?_⟩, fun h2 => ⟨fun h3 => ⟨_, rfl, ?_⟩, fun h3 => ⟨?_, ⟨fun h4 => ⟨_, rfl, ?_⟩, fun h4 => ⟨?_, ⟨fun h5 => ⟨_, rfl, ?_⟩, fun h5 => ⟨?_, ⟨fun h6 => ⟨_, rfl, ?_⟩, fun h6 => ⟨_, rfl, ?_⟩⟩⟩⟩⟩⟩⟩⟩⟩⟩
  · have : ¬ p.origins.length = q.origins.length := by simp at h1; omega
    exact ile_bo (by simp [sameL, this])
  · have : ¬ p.paths.length = q.paths.length := by simp at h2; omega
    exact ile_bo (by simp [sameL, this])
  · have : ¬ p.keys.length = q.keys.length := by simp at h3; omega
    exact ile_bo (by simp [sameL, this])
  · exact l16a p q (by omega) (by simp at h1; omega) _ (by simp [I16a, i64, LSub, tsub, ssub, tl, sl, linT, linS, ainB, ainBL])
  · exact ile_bo (by simp [sameL, d1, h4])
  · exact l16b p q hp.p (by omega) (by simp at h2; omega) _ (by simp [I16b, i64, LSub, tsub, ssub, tl, sl, linT, linS, ainB, ainBL])
  · exact ile_bo (by simp [sameL, d2, h5])
  · exact l16c p q (by omega) (by simp at h3; omega) _ (by simp [I16c, i64, LSub, tsub, ssub, tl, sl, linT, linS, ainB, ainBL])
  · exact ile_bo (by simp [sameL, d9003, h6])
  · have e1 : p.origins.length = q.origins.length := by simp at h1; omega
    have e2 : p.paths.length = q.paths.length := by simp at h2; omega
    have e3 : p.keys.length = q.keys.length := by simp at h3; omega
    have a1 : anyI (P16a p q) 0 q.origins.length = false := by rw [← e1]; exact h4
    have a2 : anyI (P16b p q) 0 q.paths.length = false := by rw [← e2]; exact h5
    have a3 : anyI (P16c p q) 0 q.keys.length = false := by rw [← e3]; exact h6
    exact ile_bo (by simp [sameL, d1, d2, d9003, a1, a2, a3, e1, e2, e3])
end Gp
namespace Gp
/-! the reference's copies -/
theorem ileL_map {α : Type} {e e' : α → IVal} (h : ∀ x, ILe (e x) (e' x)) : ∀ l : List α, ILeL (l.map e) (l.map e')
  | [] => .refl _
  | x :: l => .cons (h x) (ileL_map h l)
theorem ile_sl {f : Bool} {k : Nat} {l l' : List IVal} (h : ILeL l l') : ILe (.sl true f k l) (.sl false f k l') := .sl (fun h => by cases h) (fun h => h) h
def encTF (a : Attest) : IVal := .agg [u32 a.cust, slF 1 u32 a.provs]
theorem encTF_le (a : Attest) : ILe (encTF a) (encT a) := .agg (.cons (.refl _) (.cons (.sl (fun h => by cases h) (fun h => h) (.refl _)) (.refl _)))
def B9 (p : Payload) (c : AVal) : Entry := .box 26 (.agg [.imm (slF 6 encO p.origins), c, .imm (slF 18 encK p.keys)])
def I9 (p : Payload) (i : Nat) : LState := { t := [(4, .imm (i64 i)), (3, .ptr 11 0), (2, .ptr 1 0), (1, .ptr 0 0)], s := [(0, .box 26 (.imm (encL p))), (1, Z10), (11, B9 p (.own 50 i)), (50, .row 47 2 ((p.paths.take i).map encTF))], m := 42, n := 60 }
def E9 (p : Payload) : LState := { t := [(3, .ptr 11 0), (2, .ptr 1 0)], s := [(1, Z10), (11, B9 p (.own 50 p.paths.length)), (50, .row 47 2 (p.paths.map encTF))], m := 42, n := 60 }
def fin9 : Exit → Fin
  | .normal => ⟨[(50, 59), (83, 50)], [4, 3, 2, 1], [0, 1, 11, 50]⟩
  | _ => ⟨[], [3, 2], [1, 11, 50]⟩
def T9r (p : Payload) (i : Nat) : Tell :=
  Tell.mk
  (fun r i =>
  (Tell.mk (fun x x_1 => false) (fun x x_1 => Orc.no) (fun x => Tree.fail 1000003 0) (fun x => 0) (fun x => ([], [])) (fun x x_1 x_2 => Orc.no) fun x x_1 => Tree.fail 1000003 0).fz r i ||
  fget [(5, 15), (5, 8)] r i)
  (fun x x_1 => Orc.no) (fun x => Tree.fail 1000003 0) (fun x => 0) (fun x => ([], []))
  (oget [(65, 5, 5, Orc.elem (encT (List.getD p.paths i default))), (65, 5, 12, Orc.elem (encT (List.getD p.paths i default)))]) fun x x_1 => Tree.fail 1000003 0
theorem t9r (p : Payload) (i : Nat) : levL prog Proofs.Try.f9 3 (I9 p i) (T9r p i) fin9 =
  Tree.br (decide ((↑i : Int) < (↑(List.length (List.map encT p.paths)) : Int)))
  (Tree.need ((0 : Int) ≤ (↑i : Int) ∧ (List.map encT p.paths)[i]? = some (encT (List.getD p.paths i default)))
  (Tree.need ((0 : Int) ≤ (↑i : Int) ∧ (List.map encT p.paths)[i]? = some (encT (List.getD p.paths i default)))
  (Tree.need (true = true ∧ cellsOk (List.map u32 (List.getD p.paths i default).provs) = true ∧ 0 + List.length (List.map u32 (List.getD p.paths i default).provs) ≤ 1000000)
  (Tree.need (List.length (List.map encTF (List.take i p.paths)) = i ∧ cellsOk (List.map encTF (List.take i p.paths)) = true ∧ true = true ∧ i + 1 ≤ 1000000)
  (Tree.done Exit.normal
  (LState.mk
  [(4, AVal.imm (IVal.v (Value.int IntKind.i64 (IntKind.wrap IntKind.i64 ((↑i : Int) + (1 : Int)))))), (3, AVal.ptr 11 0), (2, AVal.ptr 1 0),
  (1, AVal.ptr 0 0)]
  [(0, Entry.box 26 (AVal.imm (encL p))),
  (1, Entry.box 26 (AVal.imm (IVal.agg [IVal.v (Value.slice none 0 0), IVal.v (Value.slice none 0 0), IVal.v (Value.slice none 0 0)]))),
  (11, Entry.box 26 (AVal.agg [AVal.imm (slF 6 encO p.origins), AVal.own 50 (i + 1), AVal.imm (slF 18 encK p.keys)])),
  (50,
  Entry.row 47 2 (List.map encTF (List.take i p.paths) ++ [IVal.agg [u32 (List.getD p.paths i default).cust, IVal.sl true false 1 ([] ++ List.map u32 (List.getD p.paths i default).provs)]]))]
  42 89 []))))))
  (Tree.done (Exit.exit 0)
  (LState.mk [(3, AVal.ptr 11 0), (2, AVal.ptr 1 0)]
  [(1, Z10), (11, B9 p (AVal.own 50 i)), (50, Entry.row 47 2 (List.map encTF (List.take i p.paths)))] 42 65 [])) := by kernel_rfl
def B9t (p : Payload) : Tell := { Lp := fun _ => .done (.exit 0) (E9 p), lv := fun _ => ([4, 3, 2, 1], [0, 1, 11]) }
def T9 (p : Payload) : Tell :=
  Tell.mk (fun r i => (B9t p).fz r i || fget [(1, 7), (1, 3), (1, 0), (1, 4)] r i) (fun x x_1 => Orc.no) (fun x => Tree.done (Exit.exit 0) (E9 p)) (fun x => 0)
  (fun x => ([4, 3, 2, 1], [0, 1, 11])) (fun x x_1 x_2 => Orc.no) fun x x_1 => Tree.done (Exit.exit 0) (E9 p)
theorem t9 (p : Payload) : levF prog Proofs.Try.f9 [encL p] (T9 p) =
  Tree.need (true = true ∧ cellsOk (List.map encO p.origins) = true ∧ 0 + List.length (List.map encO p.origins) ≤ 1000000)
  (Tree.need (true = true ∧ cellsOk (List.map encK p.keys) = true ∧ 0 + List.length (List.map encK p.keys) ≤ 1000000)
  (Tree.loop 3
  (LState.mk [(4, AVal.imm (IVal.v (Value.int IntKind.i64 (0 : Int)))), (3, AVal.ptr 11 0), (2, AVal.ptr 1 0), (1, AVal.ptr 0 0)]
  [(0, Entry.box 26 (AVal.imm (encL p))),
  (1, Entry.box 26 (AVal.imm (IVal.agg [IVal.v (Value.slice none 0 0), IVal.v (Value.slice none 0 0), IVal.v (Value.slice none 0 0)]))),
  (11,
  Entry.box 26
  (AVal.agg [AVal.imm (IVal.sl true false 6 ([] ++ List.map encO p.origins)), AVal.imm (IVal.v (Value.slice none 0 0)), AVal.imm (IVal.sl true false 18 ([] ++ List.map encK p.keys))]))]
  42 14 [])
  (Tree.done (Exit.exit 0) (E9 p))
  (Tree.need (eqs [(List.length p.paths, List.length (List.map encTF p.paths))]) (Tree.done Exit.ret (lret (IVal.agg [slF 6 encO p.origins, IVal.sl true false 2 (List.map encTF p.paths), slF 18 encK p.keys])))))) := by kernel_rfl
theorem take_succF (p : Payload) (i : Nat) (h : i < p.paths.length) : (p.paths.take i).map encTF ++ [encTF (p.paths.getD i default)] = (p.paths.take (i + 1)).map encTF := by
  rw [List.take_add_one, List.map_append]
  simp [List.getD_eq_getElem?_getD, List.getElem?_eq_getElem h]
theorem l9 (p : Payload) (hp : p.ok) (σ : LState) (h : LSub σ (I9 p 0)) : LoopOk prog [] (bodyOf Proofs.Try.f9) 3 σ (.done (.exit 0) (E9 p)) := by
  have hT := hp.t
  refine LoopOk.count p.paths.length 0 (I9 p) (E9 p) (T9r p) fin9 (by kernel_rfl) h fun i hi => ?_
  rw [t9r]
  refine ⟨fun h1 => ⟨elem_need ?_, fun _ => ⟨elem_need ?_, fun _ => ⟨?_, fun _ => ⟨?_, fun _ => ?_⟩⟩⟩⟩, fun h1 => ?_⟩
  · (refine ⟨by omega, ?_, ?_⟩ <;> (simp only [List.length_map, decide_eq_true_eq, decide_eq_false_iff_not, Int.toNat_natCast] at * <;> omega))
  · (refine ⟨by omega, ?_, ?_⟩ <;> (simp only [List.length_map, decide_eq_true_eq, decide_eq_false_iff_not, Int.toNat_natCast] at * <;> omega))
  · have := hp.p _ (getD_mem p.paths i (by (simp only [List.length_map, decide_eq_true_eq, decide_eq_false_iff_not, Int.toNat_natCast] at * <;> omega))); unfold okT at this
    exact ⟨rfl, cellsOk_map u32 (fun _ => rfl) _, by simpa using this⟩
  · have : i < p.paths.length := by (simp only [List.length_map, decide_eq_true_eq, decide_eq_false_iff_not, Int.toNat_natCast] at * <;> omega)
    exact ⟨by simp; omega, cellsOk_map encTF (fun _ => rfl) _, rfl, by omega⟩
  · have hlt : i < p.paths.length := by (simp only [List.length_map, decide_eq_true_eq, decide_eq_false_iff_not, Int.toNat_natCast] at * <;> omega)
    refine ⟨hlt, ⟨?_, rfl, rfl, rfl, trivial⟩, ⟨rfl, rfl, rfl, ?_, trivial⟩, rfl, rfl, rfl⟩
    · exact congrArg (fun n => AVal.imm (i64 n)) (i64_small hlt (by omega))
    · exact congrArg (fun l => some (Entry.row 47 2 l)) (take_succF p i hlt)
  · have : i = p.paths.length := by (simp only [List.length_map, decide_eq_true_eq, decide_eq_false_iff_not, Int.toNat_natCast] at * <;> omega)
    subst this
    refine ⟨rfl, by omega, ?_⟩
    simp [E9, B9, Z10, LSub, tsub, ssub, tl, sl, linT, linS, ainB, ainBL]
theorem c9 (p : Payload) (hp : p.ok) : ASpec prog 9 [encL p] (encL p) := by
  have h1 := hp.o; have h2 := hp.k
  refine ASpec.treeW Proofs.Try.f9 (T9 p) (by kernel_rfl) (by kernel_rfl) (t9 p) ?_
  refine ⟨?_, fun _ => ⟨?_, fun _ => ⟨?_, ⟨?_, fun _ => ⟨_, rfl, ?_⟩⟩⟩⟩⟩
  · exact ⟨rfl, cellsOk_map encO (fun _ => rfl) _, by simp; omega⟩
  · exact ⟨rfl, cellsOk_map encK (fun _ => rfl) _, by simp; omega⟩
  · refine .nam (τ := I9 p 0) (.cell 11 1 50 47 2 (show 14 ≤ 50 by decide) (.sub ?_)) (l9 p hp _ ⟨⟨rfl, rfl, rfl, rfl, trivial⟩, ⟨rfl, rfl, rfl, rfl, trivial⟩, rfl, rfl, rfl⟩)
    exact ⟨⟨rfl, rfl, rfl, rfl, trivial⟩, ⟨rfl, rfl, rfl, rfl, trivial⟩, rfl, rfl, rfl⟩
  · exact ⟨by simp, trivial⟩
  · exact .agg (.cons (ile_sl (.refl _)) (.cons (ile_sl (ileL_map encTF_le _)) (.cons (ile_sl (.refl _)) (.refl _))))
end Gp
namespace Gp
/-! limits -/
def greatB (n l : Int) : Bool := (decide (30 < n) && decide (n ≤ l)) || decide (l + 10 < n)
def T28 (n l : Int) : Tell :=
  Tell.mk (fun x x_1 => false) (fun x x_1 => Orc.no) (fun x => Tree.fail 1000003 0) (fun x => 0) (fun x => ([], [])) (fun x x_1 x_2 => Orc.no) fun x x_1 => Tree.fail 1000003 0
theorem t28 (n l : Int) : levF prog Proofs.Try.f28 [i64 n, i64 l] (T28 n l) =
  Tree.br (decide ((30 : Int) < n)) (Tree.br (decide (n ≤ l)) (Tree.done Exit.ret (lret (IVal.v (Value.bool true)))) (Tree.done Exit.ret (lret (IVal.v (Value.bool (decide (IntKind.wrap IntKind.i64 (l + (10 : Int)) < n)))))))
  (Tree.done Exit.ret (lret (IVal.v (Value.bool (decide (IntKind.wrap IntKind.i64 (l + (10 : Int)) < n)))))) := by kernel_rfl
theorem c28 (n l : Int) (h0 : 0 ≤ l) (hl : l ≤ 100000) : ASpec prog 28 [i64 n, i64 l] (bo (greatB n l)) := by
  have e : IntKind.i64.wrap (l + 10) = l + 10 := IntWalk.i64_in _ (by omega)
  refine ASpec.treeW Proofs.Try.f28 (T28 n l) (by kernel_rfl) (by kernel_rfl) (t28 n l) ?_
  refine ⟨fun h1 => ⟨fun h2 => ⟨_, rfl, ?_⟩, fun h2 => ⟨_, rfl, ?_⟩⟩, fun h1 => ⟨_, rfl, ?_⟩⟩
  all_goals (refine ile_bo ?_; (try simp only [e]); (simp only [decide_eq_true_eq, decide_eq_false_iff_not] at *); simp [greatB, *])
theorem i64_big {n l : Nat} (h : n < l) (hl : l ≤ 2 ^ 63 - 1) : IntKind.i64.wrap ((n : Int) + 1) = ((n + 1 : Nat) : Int) := by
  rw [IntWalk.i64_in _ (by omega)]; omega
def P8' (p : Payload) (i : Nat) : Bool := decide (60 < (((p.paths.getD i default).provs.length : Nat) : Int))
def P8 (p : Payload) (i : Nat) : Bool := P8' p i
def I8 (p : Payload) (i : Nat) : LState := { t := [(3, .imm (i64 i)), (1, .ptr 0 0)], s := [(0, .box 26 (.imm (encL p)))], m := 35, n := 1 }
def R8 (p : Payload) (i : Nat) : LState := { t := [(2, .imm (bo true))], s := [], m := 35, n := 1 }
def E8 (p : Payload) : LState := { t := [], s := [], m := 35, n := 1 }
def fin8 : Exit → Fin
  | .normal => ⟨[], [3, 1], [0]⟩
  | .ret => ⟨[], [2], []⟩
  | _ => ⟨[], [], []⟩
def L8 (p : Payload) : Tree := Lfirst (P8 p) p.paths.length 0 (R8 p) (E8 p)
def T8r (p : Payload) (i : Nat) : Tell :=
  Tell.mk (fun x x_1 => false) (fun x x_1 => Orc.no) (fun x => Tree.fail 1000003 0) (fun x => 0) (fun x => ([], [])) (oget [(6, 6, 3, Orc.elem (encT (List.getD p.paths i default)))])
  fun x x_1 => Tree.fail 1000003 0
theorem t8r (p : Payload) (i : Nat) : levL prog Proofs.Try.f8 4 (I8 p i) (T8r p i) fin8 =
  Tree.br (decide ((↑i : Int) < (↑(List.length (List.map encT p.paths)) : Int)))
  (Tree.need ((0 : Int) ≤ (↑i : Int) ∧ (List.map encT p.paths)[i]? = some (encT (List.getD p.paths i default)))
  (Tree.br (decide ((60 : Int) < (↑(List.length (List.map u32 (List.getD p.paths i default).provs)) : Int))) (Tree.done Exit.ret (LState.mk [(2, AVal.imm (IVal.v (Value.bool true)))] [] 35 15 []))
  (Tree.done Exit.normal
  (LState.mk [(3, AVal.imm (IVal.v (Value.int IntKind.i64 (IntKind.wrap IntKind.i64 ((↑i : Int) + (1 : Int)))))), (1, AVal.ptr 0 0)] [(0, Entry.box 26 (AVal.imm (encL p)))] 35
  17 []))))
  (Tree.done (Exit.exit 0) (LState.mk [] [] 35 6 [])) := by kernel_rfl
def B8 (p : Payload) : Tell := { Lp := fun _ => L8 p, lv := fun _ => ([3, 1], [0]) }
def T8 (p : Payload) : Tell :=
  Tell.mk (fun x x_1 => false) (fun x x_1 => Orc.no) (fun x => L8 p) (fun x => 0) (fun x => ([3, 1], [0]))
  (oget
  [(2, 1, 3, Orc.call [i64 (↑(List.length (List.map encO p.origins)) : Int), i64 (1000 : Int)] (bo (greatB (↑(List.length (List.map encO p.origins)) : Int) (1000 : Int)))),
  (2, 1, 8, Orc.call [i64 (↑(List.length (List.map encT p.paths)) : Int), i64 (300 : Int)] (bo (greatB (↑(List.length (List.map encT p.paths)) : Int) (300 : Int)))),
  (2, 1, 14, Orc.call [i64 (↑(List.length (List.map encK p.keys)) : Int), i64 (100 : Int)] (bo (greatB (↑(List.length (List.map encK p.keys)) : Int) (100 : Int))))])
  fun x x_1 => L8 p
theorem t8 (p : Payload) : levF prog Proofs.Try.f8 [encL p] (T8 p) =
  Tree.need
  (ILeL [IVal.v (Value.int IntKind.i64 (↑(List.length (List.map encO p.origins)) : Int)), IVal.v (Value.int IntKind.i64 (1000 : Int))] [i64 (↑(List.length (List.map encO p.origins)) : Int), i64 (1000 : Int)] ∧
  ASpec prog 28 [i64 (↑(List.length (List.map encO p.origins)) : Int), i64 (1000 : Int)] (bo (greatB (↑(List.length (List.map encO p.origins)) : Int) (1000 : Int))))
  (Tree.br (greatB (↑(List.length (List.map encO p.origins)) : Int) (1000 : Int)) (Tree.done Exit.ret (lret (IVal.v (Value.bool true))))
  (Tree.need
  (ILeL [IVal.v (Value.int IntKind.i64 (↑(List.length (List.map encT p.paths)) : Int)), IVal.v (Value.int IntKind.i64 (300 : Int))] [i64 (↑(List.length (List.map encT p.paths)) : Int), i64 (300 : Int)] ∧
  ASpec prog 28 [i64 (↑(List.length (List.map encT p.paths)) : Int), i64 (300 : Int)] (bo (greatB (↑(List.length (List.map encT p.paths)) : Int) (300 : Int))))
  (Tree.br (greatB (↑(List.length (List.map encT p.paths)) : Int) (300 : Int)) (Tree.done Exit.ret (lret (IVal.v (Value.bool true))))
  (Tree.need
  (ILeL [IVal.v (Value.int IntKind.i64 (↑(List.length (List.map encK p.keys)) : Int)), IVal.v (Value.int IntKind.i64 (100 : Int))] [i64 (↑(List.length (List.map encK p.keys)) : Int), i64 (100 : Int)] ∧
  ASpec prog 28 [i64 (↑(List.length (List.map encK p.keys)) : Int), i64 (100 : Int)] (bo (greatB (↑(List.length (List.map encK p.keys)) : Int) (100 : Int))))
  (Tree.br (greatB (↑(List.length (List.map encK p.keys)) : Int) (100 : Int)) (Tree.done Exit.ret (lret (IVal.v (Value.bool true))))
  (Tree.loop 4 (LState.mk [(3, AVal.imm (IVal.v (Value.int IntKind.i64 (0 : Int)))), (1, AVal.ptr 0 0)] [(0, Entry.box 26 (AVal.imm (encL p)))] 35 19 [])
  (Tree.br (anyI (P8 p) 0 (List.length p.paths)) (Tree.done Exit.ret (R8 p (firstI (P8 p) 0 (List.length p.paths)))) (Tree.done (Exit.exit 0) (E8 p)))
  (Tree.br (anyI (P8 p) 0 (List.length p.paths)) (Tree.done Exit.ret (lret (IVal.v (Value.bool true)))) (Tree.done Exit.ret (lret (IVal.v (Value.bool false))))))))))) := by kernel_rfl
theorem l8 (p : Payload) (hl : p.paths.length ≤ 2 ^ 63 - 1) (σ : LState) (h : LSub σ (I8 p 0)) : LoopOk prog [] (bodyOf Proofs.Try.f8) 4 σ (L8 p) := by
  refine LoopOk.first (P8 p) p.paths.length 0 (I8 p) (R8 p) (E8 p) (T8r p) fin8 (by kernel_rfl) h fun i hi hz => ?_
  rw [t8r]
  refine ⟨fun h1 => ⟨elem_need ?_, fun _ => ⟨fun h2 => ?_, fun h2 => ?_⟩⟩, fun h1 => ?_⟩
  · (refine ⟨by omega, ?_, ?_⟩ <;> (simp only [List.length_map, decide_eq_true_eq, decide_eq_false_iff_not, Int.toNat_natCast] at * <;> omega))
  · exact ⟨by (simp only [List.length_map, decide_eq_true_eq, decide_eq_false_iff_not, Int.toNat_natCast] at * <;> omega), by simpa [P8, P8'] using h2, by simp [R8, bo, LSub, tsub, ssub, tl, sl, linT, linS, ainB, ainBL]⟩
  · exact ⟨by (simp only [List.length_map, decide_eq_true_eq, decide_eq_false_iff_not, Int.toNat_natCast] at * <;> omega), by simpa [P8, P8'] using h2, by simp [I8, i64, i64_big (n := i) (by (simp only [List.length_map, decide_eq_true_eq, decide_eq_false_iff_not, Int.toNat_natCast] at * <;> omega)) hl, LSub, tsub, ssub, tl, sl, linT, linS, ainB, ainBL]⟩
  · exact ⟨rfl, by (simp only [List.length_map, decide_eq_true_eq, decide_eq_false_iff_not, Int.toNat_natCast] at * <;> omega), by simp [E8, LSub, tsub, ssub, tl, sl, linT, linS, ainB, ainBL]⟩
def greatP (p : Payload) : Bool := greatB p.origins.length 1000 || greatB p.paths.length 300 || greatB p.keys.length 100 || anyI (P8 p) 0 p.paths.length
theorem c8 (p : Payload) (hl : p.paths.length ≤ 2 ^ 63 - 1) : ASpec prog 8 [encL p] (bo (greatP p)) := by
  refine ASpec.treeW Proofs.Try.f8 (T8 p) (by kernel_rfl) (by kernel_rfl) (t8 p) ?_
  refine ⟨⟨ILeL.refl _, c28 _ _ ?_ ?_⟩, fun _ => ⟨fun h1 => ⟨_, rfl, ?_⟩, fun h1 => ⟨⟨ILeL.refl _, c28 _ _ ?_ ?_⟩, fun _ => ⟨fun h2 => ⟨_, rfl, ?_⟩, fun h2 => ⟨⟨ILeL.refl _, c28 _ _ ?_ ?_⟩, fun _ => ⟨fun h3 => ⟨_, rfl, ?_⟩, fun h3 => ⟨?_, ⟨fun h4 => ⟨_, rfl, ?_⟩, fun h4 => ⟨_, rfl, ?_⟩⟩⟩⟩⟩⟩⟩⟩⟩
  all_goals try decide
  all_goals try exact l8 p hl _ (by simp [I8, i64, LSub, tsub, ssub, tl, sl, linT, linS, ainB, ainBL])
  all_goals (simp only [List.length_map] at *; exact ile_bo (by simp [greatP, *]))
end Gp
