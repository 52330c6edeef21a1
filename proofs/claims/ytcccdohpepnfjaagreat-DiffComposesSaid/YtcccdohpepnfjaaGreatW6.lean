/- Part 6 of the walk and of the plain law of DiffComposes. -/
import Derived.Test.YtcccdohpepnfjaaGreatW5
set_option maxRecDepth 100000
set_option maxHeartbeats 0
set_option linter.unusedVariables false
set_option linter.unusedSimpArgs false
open Go Go.Abs
namespace Gp
def manyP (p : Payload) : Bool := decide (∃ a ∈ p.paths, 50 < a.provs.length)
def ckL (p : Payload) : Int :=
  if 1000 < p.origins.length ∨ 300 < p.paths.length ∨ 100 < p.keys.length ∨ manyP p = true then 4
  else if (risingB cmpO goodO default p.origins && risingB cmpT goodT default p.paths && risingB cmpK goodK default p.keys) = true then 0 else 8
def T26 (p : Payload) : Tell := { O := fun r i => match r, i with
  | 3, 2 => .call [slE 2 encT p.paths, fnV 46] (bo (manyP p)) | 5, 2 => .call [slE 6 encO p.origins, fnV 48, fnV 49] (bo (risingB cmpO goodO default p.origins)) | 5, 7 => .call [slE 2 encT p.paths, fnV 51, fnV 52] (bo (risingB cmpT goodT default p.paths))
  | 5, 13 => .call [slE 18 encK p.keys, fnV 54, fnV 55] (bo (risingB cmpK goodK default p.keys)) | _, _ => .no }
theorem t26 (p : Payload) : levF prog Proofs.Tryz.f26 [encL p] (T26 p) =
  Tree.br (decide ((1000 : Int) < (↑(List.length (List.map encO p.origins)) : Int))) (Tree.done Exit.ret (lret (IVal.v (Value.int IntKind.i64 (4 : Int)))))
  (Tree.br (decide ((300 : Int) < (↑(List.length (List.map encT p.paths)) : Int))) (Tree.done Exit.ret (lret (IVal.v (Value.int IntKind.i64 (4 : Int)))))
  (Tree.br (decide ((100 : Int) < (↑(List.length (List.map encK p.keys)) : Int))) (Tree.done Exit.ret (lret (IVal.v (Value.int IntKind.i64 (4 : Int)))))
  (Tree.need
  (ILeL [slE 2 encT p.paths, IVal.v (Value.func (Fn.func 46) (Array.mk []) (Array.mk []))] [slE 2 encT p.paths, fnV 46] ∧
  ASpec prog 45 [slE 2 encT p.paths, fnV 46] (bo (manyP p)))
  (Tree.br (manyP p) (Tree.done Exit.ret (lret (IVal.v (Value.int IntKind.i64 (4 : Int)))))
  (Tree.need
  (ILeL [slE 6 encO p.origins, IVal.v (Value.func (Fn.func 48) (Array.mk []) (Array.mk [])), IVal.v (Value.func (Fn.func 49) (Array.mk []) (Array.mk []))]
  [slE 6 encO p.origins, fnV 48, fnV 49] ∧
  ASpec prog 47 [slE 6 encO p.origins, fnV 48, fnV 49] (bo (risingB cmpO goodO default p.origins)))
  (Tree.br (!risingB cmpO goodO default p.origins) (Tree.done Exit.ret (lret (IVal.v (Value.int IntKind.i64 (8 : Int)))))
  (Tree.need
  (ILeL [slE 2 encT p.paths, IVal.v (Value.func (Fn.func 51) (Array.mk []) (Array.mk [])), IVal.v (Value.func (Fn.func 52) (Array.mk []) (Array.mk []))]
  [slE 2 encT p.paths, fnV 51, fnV 52] ∧
  ASpec prog 50 [slE 2 encT p.paths, fnV 51, fnV 52] (bo (risingB cmpT goodT default p.paths)))
  (Tree.br (!risingB cmpT goodT default p.paths) (Tree.done Exit.ret (lret (IVal.v (Value.int IntKind.i64 (8 : Int)))))
  (Tree.need
  (ILeL [slE 18 encK p.keys, IVal.v (Value.func (Fn.func 54) (Array.mk []) (Array.mk [])), IVal.v (Value.func (Fn.func 55) (Array.mk []) (Array.mk []))]
  [slE 18 encK p.keys, fnV 54, fnV 55] ∧
  ASpec prog 53 [slE 18 encK p.keys, fnV 54, fnV 55] (bo (risingB cmpK goodK default p.keys)))
  (Tree.br (!risingB cmpK goodK default p.keys) (Tree.done Exit.ret (lret (IVal.v (Value.int IntKind.i64 (8 : Int))))) (Tree.done Exit.ret (lret (IVal.v (Value.int IntKind.i64 (0 : Int))))))))))))))) := by kernel_rfl
theorem c26 (p : Payload) : ASpec prog 26 [encL p] (i64 (ckL p)) := by
  refine ASpec.tree Proofs.Tryz.f26 (T26 p) (by kernel_rfl) (by kernel_rfl) (t26 p) ?_
  have hf : ∀ b, ckL p = b → lret (.v (.int .i64 b)) = lret (i64 (ckL p)) := by intro b h; rw [h]; rfl
  refine ⟨fun h => hf _ ?_, fun h1 => ⟨fun h => hf _ ?_, fun h2 => ⟨fun h => hf _ ?_, fun h3 => ?_⟩⟩⟩
  · simp at h; unfold ckL; rw [if_pos (.inl (by omega))]
  · simp at h; unfold ckL; rw [if_pos (.inr (.inl (by omega)))]
  · simp at h; unfold ckL; rw [if_pos (.inr (.inr (.inl (by omega))))]
  · simp at h1 h2 h3
    refine ⟨⟨ILeL.refl _, c45 _ (by omega)⟩, fun _ => ⟨fun h => hf _ ?_, fun h4 => ?_⟩⟩
    · unfold ckL; rw [if_pos (.inr (.inr (.inr h)))]
    · have hn : ¬ (1000 < p.origins.length ∨ 300 < p.paths.length ∨ 100 < p.keys.length ∨ manyP p = true) := by
        rw [h4]; rintro (h | h | h | h)
        · omega
        · omega
        · omega
        · cases h
      refine ⟨⟨ILeL.refl _, c47 _ (by omega)⟩, fun _ => ⟨fun h5 => hf _ ?_, fun h5 => ⟨⟨ILeL.refl _, c50 _ (by omega)⟩, fun _ => ⟨fun h6 => hf _ ?_, fun h6 => ⟨⟨ILeL.refl _, c53 _ (by omega)⟩, fun _ => ⟨fun h7 => hf _ ?_, fun h7 => hf _ ?_⟩⟩⟩⟩⟩⟩
      · unfold ckL; rw [if_neg hn]; simp at h5; simp [h5]
      · unfold ckL; rw [if_neg hn]; simp at h6; simp [h6]
      · unfold ckL; rw [if_neg hn]; simp at h7; simp [h7]
      · unfold ckL; rw [if_neg hn]; simp at h5 h6 h7; simp [h5, h6, h7]
end Gp
namespace Gp
theorem t73 (f : Int) : levF prog Proofs.Tryz.f73 [u8 f] {} =
  Tree.br (decide (f = (4 : Int))) (Tree.done Exit.ret (lret (IVal.v (Value.int IntKind.i64 (32 : Int)))))
  (Tree.br (decide (f = (6 : Int))) (Tree.done Exit.ret (lret (IVal.v (Value.int IntKind.i64 (128 : Int))))) (Tree.done Exit.ret (lret (IVal.v (Value.int IntKind.i64 (0 : Int)))))) := by kernel_rfl
theorem c73 (f : Int) : ASpec prog 73 [u8 f] (i64 (width f)) := by
  refine ASpec.tree Proofs.Tryz.f73 {} (by kernel_rfl) (by kernel_rfl) (t73 f) ?_
  simp only [Tree.sat, i64, width]; grind
def ckA' (f : Int) (a : Addr) : Bool := if f = 4 then decide (a.hi = 0) && decide (a.lo ≤ 4294967295) else decide (f = 6)
theorem t96 (f : Int) (a : Addr) : levF prog Proofs.Tryz.f96 [u8 f, encA a] {} =
  Tree.br (decide (f = (4 : Int))) (Tree.br (decide (a.hi = (0 : Int))) (Tree.done Exit.ret (lret (IVal.v (Value.bool (decide (a.lo ≤ (4294967295 : Int))))))) (Tree.done Exit.ret (lret (IVal.v (Value.bool false)))))
  (Tree.done Exit.ret (lret (IVal.v (Value.bool (decide (f = (6 : Int))))))) := by kernel_rfl
theorem ckA_eq (f : Int) (a : Addr) : ckA' f a = ckA f a := by
  unfold ckA' ckA; grind
theorem c96 (f : Int) (a : Addr) : ASpec prog 96 [u8 f, encA a] (bo (ckA f a)) := by
  rw [← ckA_eq]
  refine ASpec.tree Proofs.Tryz.f96 {} (by kernel_rfl) (by kernel_rfl) (t96 f a) ?_
  simp only [Tree.sat, bo, ckA']; grind
end Gp
namespace Gp
theorem ile_i64 {a b : Int} (h : a = b) : ILe (.v (.int .i64 a)) (i64 b) := h ▸ ILe.refl _
theorem ile_bo {a b : Bool} (h : a = b) : ILe (.v (.bool a)) (bo b) := h ▸ ILe.refl _
def cmpA' (a b : Addr) : Int := if a = b then 0 else if a.hi < b.hi ∨ a.hi = b.hi ∧ a.lo < b.lo then -1 else 1
def T74 (a b : Addr) : Tell :=
  Tell.mk (fun x x_1 => false) (fun x x_1 => Orc.no) (fun x => Tree.fail 1000003 0) (fun x => 0) (fun x => ([], [])) (fun x x_1 x_2 => Orc.no) fun x x_1 => Tree.fail 1000003 0
theorem t74 (a b : Addr) : levF prog Proofs.Tryz.f74 [encA a, encA b] (T74 a b) =
  Tree.br (if BinOp.eql = BinOp.neq then !(decide (a.hi = b.hi) && (decide (a.lo = b.lo) && true)) else decide (a.hi = b.hi) && (decide (a.lo = b.lo) && true)) (Tree.done Exit.ret (lret (IVal.v (Value.int IntKind.i64 (0 : Int)))))
  (Tree.br (decide (a.hi < b.hi)) (Tree.done Exit.ret (lret (IVal.v (Value.int IntKind.i64 (-1 : Int)))))
  (Tree.br (decide (a.hi = b.hi)) (Tree.br (decide (a.lo < b.lo)) (Tree.done Exit.ret (lret (IVal.v (Value.int IntKind.i64 (-1 : Int))))) (Tree.done Exit.ret (lret (IVal.v (Value.int IntKind.i64 (1 : Int))))))
  (Tree.done Exit.ret (lret (IVal.v (Value.int IntKind.i64 (1 : Int))))))) := by kernel_rfl
theorem c74 (a b : Addr) : ASpec prog 74 [encA a, encA b] (i64 (cmpA' a b)) := by
  refine ASpec.treeW Proofs.Tryz.f74 (T74 a b) (by kernel_rfl) (by kernel_rfl) (t74 a b) ?_
  refine ⟨fun h1 => ⟨_, rfl, ?_⟩, fun h1 => ⟨fun h2 => ⟨_, rfl, ?_⟩, fun h2 => ⟨fun h3 => ⟨fun h4 => ⟨_, rfl, ?_⟩, fun h4 => ⟨_, rfl, ?_⟩⟩, fun h3 => ⟨_, rfl, ?_⟩⟩⟩⟩
  all_goals (refine ile_i64 ?_; simp [cmpA', Addr.ext_iff] at *; grind)
def T43 (a b : Attest) : Tell :=
  Tell.mk (fun x x_1 => false) (fun x x_1 => Orc.no) (fun x => Tree.fail 1000003 0) (fun x => 0) (fun x => ([], [])) (fun x x_1 x_2 => Orc.no) fun x x_1 => Tree.fail 1000003 0
theorem t43 (a b : Attest) : levF prog Proofs.Tryz.f43 [encT a, encT b] (T43 a b) =
  Tree.done Exit.ret (lret (IVal.v (Value.bool (decide (a.cust < b.cust))))) := by kernel_rfl
theorem c43 (a b : Attest) : ASpec prog 43 [encT a, encT b] (bo (decide (a.cust < b.cust))) := by
  refine ASpec.treeW Proofs.Tryz.f43 (T43 a b) (by kernel_rfl) (by kernel_rfl) (t43 a b) ?_
  refine ⟨_, rfl, ?_⟩
  exact ILe.refl _
def befO (a b : Origin) : Bool :=
  if a.asn ≠ b.asn then decide (a.asn < b.asn) else if a.pfx.fam ≠ b.pfx.fam then decide (a.pfx.fam < b.pfx.fam) else if a.pfx.addr ≠ b.pfx.addr then decide (cmpA' a.pfx.addr b.pfx.addr < 0)
  else if a.pfx.len ≠ b.pfx.len then decide (a.pfx.len < b.pfx.len) else decide (a.max < b.max)
def T41 (a b : Origin) : Tell :=
  Tell.mk (fun x x_1 => false) (fun x x_1 => Orc.no) (fun x => Tree.fail 1000003 0) (fun x => 0) (fun x => ([], []))
  (oget [(29, 7, 4, Orc.call [encA a.pfx.addr, encA b.pfx.addr] (i64 (cmpA' a.pfx.addr b.pfx.addr)))]) fun x x_1 => Tree.fail 1000003 0
theorem t41 (a b : Origin) : levF prog Proofs.Tryz.f41 [encO a, encO b] (T41 a b) =
  Tree.br (!decide (a.asn = b.asn)) (Tree.done Exit.ret (lret (IVal.v (Value.bool (decide (a.asn < b.asn))))))
  (Tree.br (!decide (a.pfx.fam = b.pfx.fam)) (Tree.done Exit.ret (lret (IVal.v (Value.bool (decide (a.pfx.fam < b.pfx.fam))))))
  (Tree.br (if BinOp.neq = BinOp.neq then !(decide (a.pfx.addr.hi = b.pfx.addr.hi) && (decide (a.pfx.addr.lo = b.pfx.addr.lo) && true)) else decide (a.pfx.addr.hi = b.pfx.addr.hi) && (decide (a.pfx.addr.lo = b.pfx.addr.lo) && true))
  (Tree.need
  (ILeL [IVal.agg [u64 a.pfx.addr.hi, u64 a.pfx.addr.lo], IVal.agg [u64 b.pfx.addr.hi, u64 b.pfx.addr.lo]] [encA a.pfx.addr, encA b.pfx.addr] ∧
  ASpec prog 74 [encA a.pfx.addr, encA b.pfx.addr] (i64 (cmpA' a.pfx.addr b.pfx.addr)))
  (Tree.done Exit.ret (lret (IVal.v (Value.bool (decide (cmpA' a.pfx.addr b.pfx.addr < (0 : Int))))))))
  (Tree.br (!decide (a.pfx.len = b.pfx.len)) (Tree.done Exit.ret (lret (IVal.v (Value.bool (decide (a.pfx.len < b.pfx.len)))))) (Tree.done Exit.ret (lret (IVal.v (Value.bool (decide (a.max < b.max))))))))) := by kernel_rfl
theorem c41 (a b : Origin) : ASpec prog 41 [encO a, encO b] (bo (befO a b)) := by
  refine ASpec.treeW Proofs.Tryz.f41 (T41 a b) (by kernel_rfl) (by kernel_rfl) (t41 a b) ?_
  refine ⟨fun h1 => ⟨_, rfl, ?_⟩, fun h1 => ⟨fun h2 => ⟨_, rfl, ?_⟩, fun h2 => ⟨fun h3 => need_sat ⟨ILeL.refl _, c74 _ _⟩ ⟨_, rfl, ?_⟩, fun h3 => ⟨fun h4 => ⟨_, rfl, ?_⟩, fun h4 => ⟨_, rfl, ?_⟩⟩⟩⟩⟩
  all_goals (refine ile_bo ?_; simp [befO, Addr.ext_iff] at *; grind)
def lexB : List (Int × Int) → Bool → Bool
  | [], e => e
  | (x, y) :: l, e => if x ≠ y then decide (x < y) else lexB l e
def befK (a b : RKey) : Bool := lexB [(a.asn, b.asn), (a.root[0], b.root[0]), (a.root[1], b.root[1]), (a.root[2], b.root[2]), (a.root[3], b.root[3]), (a.root[4], b.root[4]), (a.root[5], b.root[5]), (a.root[6], b.root[6]), (a.root[7], b.root[7]), (a.root[8], b.root[8]), (a.root[9], b.root[9]), (a.root[10], b.root[10]), (a.root[11], b.root[11]), (a.root[12], b.root[12]), (a.root[13], b.root[13]), (a.root[14], b.root[14]), (a.root[15], b.root[15])] (decide (a.height < b.height))
theorem t44 (a b : RKey) : levF prog Proofs.Tryz.f44 [encK a, encK b] { un := fun _ => 17 } =
  Tree.br (!decide (a.asn = b.asn)) (Tree.done Exit.ret (lret (IVal.v (Value.bool (decide (a.asn < b.asn))))))
  (Tree.br true
  (Tree.br (!decide (a.root[0] = b.root[0])) (Tree.done Exit.ret (lret (IVal.v (Value.bool (decide (a.root[0] < b.root[0]))))))
  (Tree.br true
  (Tree.br (!decide (a.root[1] = b.root[1])) (Tree.done Exit.ret (lret (IVal.v (Value.bool (decide (a.root[1] < b.root[1]))))))
  (Tree.br true
  (Tree.br (!decide (a.root[2] = b.root[2])) (Tree.done Exit.ret (lret (IVal.v (Value.bool (decide (a.root[2] < b.root[2]))))))
  (Tree.br true
  (Tree.br (!decide (a.root[3] = b.root[3])) (Tree.done Exit.ret (lret (IVal.v (Value.bool (decide (a.root[3] < b.root[3]))))))
  (Tree.br true
  (Tree.br (!decide (a.root[4] = b.root[4])) (Tree.done Exit.ret (lret (IVal.v (Value.bool (decide (a.root[4] < b.root[4]))))))
  (Tree.br true
  (Tree.br (!decide (a.root[5] = b.root[5])) (Tree.done Exit.ret (lret (IVal.v (Value.bool (decide (a.root[5] < b.root[5]))))))
  (Tree.br true
  (Tree.br (!decide (a.root[6] = b.root[6])) (Tree.done Exit.ret (lret (IVal.v (Value.bool (decide (a.root[6] < b.root[6]))))))
  (Tree.br true
  (Tree.br (!decide (a.root[7] = b.root[7])) (Tree.done Exit.ret (lret (IVal.v (Value.bool (decide (a.root[7] < b.root[7]))))))
  (Tree.br true
  (Tree.br (!decide (a.root[8] = b.root[8])) (Tree.done Exit.ret (lret (IVal.v (Value.bool (decide (a.root[8] < b.root[8]))))))
  (Tree.br true
  (Tree.br (!decide (a.root[9] = b.root[9])) (Tree.done Exit.ret (lret (IVal.v (Value.bool (decide (a.root[9] < b.root[9]))))))
  (Tree.br true
  (Tree.br (!decide (a.root[10] = b.root[10])) (Tree.done Exit.ret (lret (IVal.v (Value.bool (decide (a.root[10] < b.root[10]))))))
  (Tree.br true
  (Tree.br (!decide (a.root[11] = b.root[11])) (Tree.done Exit.ret (lret (IVal.v (Value.bool (decide (a.root[11] < b.root[11]))))))
  (Tree.br true
  (Tree.br (!decide (a.root[12] = b.root[12])) (Tree.done Exit.ret (lret (IVal.v (Value.bool (decide (a.root[12] < b.root[12]))))))
  (Tree.br true
  (Tree.br (!decide (a.root[13] = b.root[13])) (Tree.done Exit.ret (lret (IVal.v (Value.bool (decide (a.root[13] < b.root[13]))))))
  (Tree.br true
  (Tree.br (!decide (a.root[14] = b.root[14])) (Tree.done Exit.ret (lret (IVal.v (Value.bool (decide (a.root[14] < b.root[14]))))))
  (Tree.br true
  (Tree.br (!decide (a.root[15] = b.root[15])) (Tree.done Exit.ret (lret (IVal.v (Value.bool (decide (a.root[15] < b.root[15]))))))
  (Tree.br false
  (Tree.stop
  (LState.mk
  [(22, AVal.ptr 0 1), (21, AVal.ptr 0 1), (20, AVal.imm (IVal.v (Value.int IntKind.i64 (16 : Int)))),
  (17, AVal.imm (IVal.v (Value.bool false))), (16, AVal.imm (IVal.v (Value.int IntKind.i64 (16 : Int)))),
  (5, AVal.imm (IVal.v (Value.int IntKind.i64 (16 : Int)))), (19, AVal.imm (IVal.v (Value.int IntKind.i64 (16 : Int)))),
  (18, AVal.imm (IVal.v (Value.int IntKind.i64 (15 : Int)))), (30, AVal.imm (IVal.v (Value.bool !decide (a.root[15] = b.root[15])))),
  (29, AVal.imm (u8 b.root[15])), (28, AVal.ptr 1 16), (27, AVal.ptr 1 1),
  (26, AVal.ptr 1 1), (25, AVal.imm (IVal.v (Value.int IntKind.i64 (15 : Int)))), (24, AVal.imm (u8 a.root[15])),
  (23, AVal.ptr 0 16), (10, AVal.imm (IVal.v (Value.bool !decide (a.asn = b.asn)))), (9, AVal.imm (u32 b.asn)),
  (8, AVal.ptr 1 0), (7, AVal.imm (u32 a.asn)), (6, AVal.ptr 0 0),
  (4, AVal.imm (IVal.v (Value.bool false))), (3, AVal.ptr 1 0), (2, AVal.ptr 0 0),
  (0, AVal.imm (encK a)), (1, AVal.imm (encK b))]
  [(1, Entry.box 75 (AVal.imm (encK b))), (0, Entry.box 75 (AVal.imm (encK a)))] 49 267 [(4, false)])
  6 3 (Op.indexAddr 71 (Operand.tmp 22) (Operand.tmp 20)))
  (Tree.done Exit.ret (lret (IVal.v (Value.bool (decide (a.height < b.height))))))))
  (Tree.done Exit.ret (lret (IVal.v (Value.bool (decide (a.height < b.height))))))))
  (Tree.done Exit.ret (lret (IVal.v (Value.bool (decide (a.height < b.height))))))))
  (Tree.done Exit.ret (lret (IVal.v (Value.bool (decide (a.height < b.height))))))))
  (Tree.done Exit.ret (lret (IVal.v (Value.bool (decide (a.height < b.height))))))))
  (Tree.done Exit.ret (lret (IVal.v (Value.bool (decide (a.height < b.height))))))))
  (Tree.done Exit.ret (lret (IVal.v (Value.bool (decide (a.height < b.height))))))))
  (Tree.done Exit.ret (lret (IVal.v (Value.bool (decide (a.height < b.height))))))))
  (Tree.done Exit.ret (lret (IVal.v (Value.bool (decide (a.height < b.height))))))))
  (Tree.done Exit.ret (lret (IVal.v (Value.bool (decide (a.height < b.height))))))))
  (Tree.done Exit.ret (lret (IVal.v (Value.bool (decide (a.height < b.height))))))))
  (Tree.done Exit.ret (lret (IVal.v (Value.bool (decide (a.height < b.height))))))))
  (Tree.done Exit.ret (lret (IVal.v (Value.bool (decide (a.height < b.height))))))))
  (Tree.done Exit.ret (lret (IVal.v (Value.bool (decide (a.height < b.height))))))))
  (Tree.done Exit.ret (lret (IVal.v (Value.bool (decide (a.height < b.height))))))))
  (Tree.done Exit.ret (lret (IVal.v (Value.bool (decide (a.height < b.height))))))))
  (Tree.done Exit.ret (lret (IVal.v (Value.bool (decide (a.height < b.height))))))) := by kernel_rfl
theorem c44 (a b : RKey) : ASpec prog 44 [encK a, encK b] (bo (befK a b)) := by
  refine ASpec.treeW Proofs.Tryz.f44 { un := fun _ => 17 } (by kernel_rfl) (by kernel_rfl) (t44 a b) ?_
  refine ⟨fun h1 => ⟨_, rfl, ?_⟩, fun h1 => ⟨fun _ => ⟨fun h2 => ⟨_, rfl, ?_⟩, fun h2 => ⟨fun _ => ⟨fun h3 => ⟨_, rfl, ?_⟩, fun h3 => ⟨fun _ => ⟨fun h4 => ⟨_, rfl, ?_⟩, fun h4 => ⟨fun _ => ⟨fun h5 => ⟨_, rfl, ?_⟩, fun h5 => ⟨fun _ => ⟨fun h6 => ⟨_, rfl, ?_⟩, fun h6 => ⟨fun _ => ⟨fun h7 => ⟨_, rfl, ?_⟩, fun h7 => ⟨fun _ => ⟨fun h8 => ⟨_, rfl, ?_⟩, fun h8 => ⟨fun _ => ⟨fun h9 => ⟨_, rfl, ?_⟩, fun h9 => ⟨fun _ => ⟨fun h10 => ⟨_, rfl, ?_⟩, fun h10 => ⟨fun _ => ⟨fun h11 => ⟨_, rfl, ?_⟩, fun h11 => ⟨fun _ => ⟨fun h12 => ⟨_, rfl, ?_⟩, fun h12 => ⟨fun _ => ⟨fun h13 => ⟨_, rfl, ?_⟩, fun h13 => ⟨fun _ => ⟨fun h14 => ⟨_, rfl, ?_⟩, fun h14 => ⟨fun _ => ⟨fun h15 => ⟨_, rfl, ?_⟩, fun h15 => ⟨fun _ => ⟨fun h16 => ⟨_, rfl, ?_⟩, fun h16 => ⟨fun _ => ⟨fun h17 => ⟨_, rfl, ?_⟩, fun h17 => ⟨fun h => (by cases h), fun _ => ⟨_, rfl, ?_⟩⟩⟩, fun h => (by cases h)⟩⟩, fun h => (by cases h)⟩⟩, fun h => (by cases h)⟩⟩, fun h => (by cases h)⟩⟩, fun h => (by cases h)⟩⟩, fun h => (by cases h)⟩⟩, fun h => (by cases h)⟩⟩, fun h => (by cases h)⟩⟩, fun h => (by cases h)⟩⟩, fun h => (by cases h)⟩⟩, fun h => (by cases h)⟩⟩, fun h => (by cases h)⟩⟩, fun h => (by cases h)⟩⟩, fun h => (by cases h)⟩⟩, fun h => (by cases h)⟩⟩, fun h => (by cases h)⟩⟩
  all_goals (refine ile_bo ?_; simp only [Bool.not_eq_true', Bool.not_eq_false', decide_eq_true_eq, decide_eq_false_iff_not] at *; simp only [befK, lexB, ne_eq, *, not_true_eq_false, not_false_eq_true, if_true, if_false])
end Gp
namespace Gp
def I114 (k : Nat) (i : Nat) : LState := { t := [(4, .imm (i64 i)), (3, .imm (u64 (2 ^ i))), (0, .imm (i64 k))], s := [], m := 14, n := 0 }
def E114 (k : Nat) : LState := { t := [(3, .imm (u64 (2 ^ k)))], s := [], m := 14, n := 0 }
def fin114 : Exit → Fin
  | .normal => ⟨[], [4, 3, 0], []⟩
  | .ret => ⟨[], [], []⟩
  | _ => ⟨[], [3], []⟩
def L114 (k : Nat) : Tree := .done (.exit 0) (E114 k)
def T114r (k : Nat) (i : Nat) : Tell :=
  Tell.mk (fun x x_1 => false) (fun x x_1 => Orc.no) (fun x => Tree.fail 1000003 0) (fun x => 0) (fun x => ([], [])) (fun x x_1 x_2 => Orc.no) fun x x_1 => Tree.fail 1000003 0
theorem t114r (k : Nat) (i : Nat) : levL prog Proofs.Tryz.f114 3 (I114 k i) (T114r k i) fin114 =
  Tree.br (decide ((↑i : Int) < (↑k : Int)))
  (Tree.done Exit.normal
  (LState.mk
  [(4, AVal.imm (IVal.v (Value.int IntKind.i64 (IntKind.wrap IntKind.i64 ((↑i : Int) + (1 : Int)))))), (3, AVal.imm (IVal.v (Value.int IntKind.u64 (IntKind.wrap IntKind.u64 ((2 : Int) ^ i + (2 : Int) ^ i))))),
  (0, AVal.imm (i64 (↑k : Int)))]
  [] 14 10 []))
  (Tree.done (Exit.exit 0) (LState.mk [(3, AVal.imm (u64 ((2 : Int) ^ i)))] [] 14 3 [])) := by kernel_rfl
def T114 (k : Nat) : Tell :=
  Tell.mk (fun x x_1 => false) (fun x x_1 => Orc.no) (fun x => L114 k) (fun x => 0) (fun x => ([4, 3, 0], [])) (fun x x_1 x_2 => Orc.no) fun x x_1 => L114 k
theorem t114 (k : Nat) : levF prog Proofs.Tryz.f114 [i64 k] (T114 k) =
  Tree.loop 3 (LState.mk [(4, AVal.imm (IVal.v (Value.int IntKind.i64 (0 : Int)))), (3, AVal.imm (IVal.v (Value.int IntKind.u64 (1 : Int)))), (0, AVal.imm (i64 (↑k : Int)))] [] 14 3 [])
  (Tree.done (Exit.exit 0) (E114 k)) (Tree.done Exit.ret (lret (IVal.v (Value.int IntKind.u64 ((2 : Int) ^ k))))) := by kernel_rfl
theorem l114 (k : Nat) (hk : k ≤ 63) (σ : LState) (h : LSub σ (I114 k 0)) : LoopOk prog [] (bodyOf Proofs.Tryz.f114) 3 σ (L114 k) := by
  refine LoopOk.count k 0 (I114 k) (E114 k) (T114r k) fin114 (by kernel_rfl) h fun i hi => ?_
  rw [t114r]
  refine ⟨fun h1 => ?_, fun h1 => ?_⟩
  · have hlt : i < k := by (simp only [List.length_map, decide_eq_true_eq, decide_eq_false_iff_not, Int.toNat_natCast] at * <;> omega)
    have e : IntKind.u64.wrap (2 ^ i + 2 ^ i) = 2 ^ (i + 1) := by
      have : (2 : Int) ^ (i + 1) ≤ 2 ^ 63 := by exact_mod_cast Nat.pow_le_pow_right (by decide) (by omega)
      rw [Int.pow_succ] at *
      rw [IntWalk.u64_in _ ⟨by have := Int.pow_pos (m := i) (show (0:Int) < 2 by decide); omega, by omega⟩]; omega
    exact ⟨hlt, by simp [I114, i64, u64, i64_small (n := i) hlt (by omega), e, LSub, tsub, ssub, tl, sl, linT, linS, ainB, ainBL]⟩
  · have : i = k := by (simp only [List.length_map, decide_eq_true_eq, decide_eq_false_iff_not, Int.toNat_natCast] at * <;> omega)
    exact ⟨rfl, by omega, by simp [E114, this, LSub, tsub, ssub, tl, sl, linT, linS, ainB, ainBL]⟩
theorem c114n (k : Nat) (hk : k ≤ 63) : ASpec prog 114 [i64 k] (u64 (2 ^ k)) := by
  refine ASpec.treeW Proofs.Tryz.f114 (T114 k) (by kernel_rfl) (by kernel_rfl) (t114 k) ?_
  refine ⟨?_, ⟨_, rfl, ?_⟩⟩
  · exact l114 k hk _ (by simp [I114, i64, u64, LSub, tsub, ssub, tl, sl, linT, linS, ainB, ainBL])
  · exact .refl _
theorem c114 (k : Int) (h0 : 0 ≤ k) (hk : k ≤ 63) : ASpec prog 114 [i64 k] (u64 (2 ^ k.toNat)) := by
  have := c114n k.toNat (by omega)
  rwa [show ((k.toNat : Nat) : Int) = k from by omega] at this
def bitV (x k : Int) : Int := IntKind.i64.wrap ((IntKind.u64.wrap (x.tdiv (2 ^ k.toNat))).tmod 2)
def bitF (f : Int) (a : Addr) (i : Nat) : Int := if 63 < width f - 1 - i then bitV a.hi (width f - 1 - i - 64) else bitV a.lo (width f - 1 - i)
def I97 (f : Int) (a : Addr) (i : Nat) : LState := { t := [(7, .imm (i64 i)), (6, .imm (i64 (width f))), (5, .own 50 i), (3, .ptr 0 0)], s := [(0, .box 64 (.imm (encA a))), (50, .row 3 1 ((List.range i).map fun j => i64 (bitF f a j)))], m := 39, n := 60 }
def E97 (f : Int) (a : Addr) : LState := { t := [(5, .own 50 (width f).toNat)], s := [(50, .row 3 1 ((List.range (width f).toNat).map fun j => i64 (bitF f a j)))], m := 39, n := 60 }
def fin97 : Exit → Nat → Fin
  | .normal, n => ⟨[(50, 59), (n - 5, 50)], [7, 6, 5, 3], [0, 50]⟩
  | _, _ => ⟨[], [5], [50]⟩
def T97r (f : Int) (a : Addr) (i : Nat) : Tell :=
  Tell.mk (fun x x_1 => false) (fun x x_1 => Orc.no) (fun x => Tree.fail 1000003 0) (fun x => 0) (fun x => ([], []))
  (oget
  [(79, 11, 3,
  Orc.call [i64 (IntKind.wrap IntKind.i64 (IntKind.wrap IntKind.i64 (IntKind.wrap IntKind.i64 (width f - (1 : Int)) - (↑i : Int)) - (64 : Int)))]
  (u64 ((2 : Int) ^ Int.toNat (IntKind.wrap IntKind.i64 (IntKind.wrap IntKind.i64 (IntKind.wrap IntKind.i64 (width f - (1 : Int)) - (↑i : Int)) - (64 : Int)))))),
  (73, 11, 3,
  Orc.call [i64 (IntKind.wrap IntKind.i64 (IntKind.wrap IntKind.i64 (width f - (1 : Int)) - (↑i : Int)))] (u64 ((2 : Int) ^ Int.toNat (IntKind.wrap IntKind.i64 (IntKind.wrap IntKind.i64 (width f - (1 : Int)) - (↑i : Int))))))])
  fun x x_1 => Tree.fail 1000003 0
theorem t97r (f : Int) (a : Addr) (i : Nat) : levLN prog Proofs.Tryz.f97 4 (I97 f a i) (T97r f a i) fin97 =
  Tree.br (decide ((↑i : Int) < width f))
  (Tree.br (decide ((63 : Int) < IntKind.wrap IntKind.i64 (IntKind.wrap IntKind.i64 (width f - (1 : Int)) - (↑i : Int))))
  (Tree.need
  (ILeL [IVal.v (Value.int IntKind.i64 (IntKind.wrap IntKind.i64 (IntKind.wrap IntKind.i64 (IntKind.wrap IntKind.i64 (width f - (1 : Int)) - (↑i : Int)) - (64 : Int))))]
  [i64 (IntKind.wrap IntKind.i64 (IntKind.wrap IntKind.i64 (IntKind.wrap IntKind.i64 (width f - (1 : Int)) - (↑i : Int)) - (64 : Int)))] ∧
  ASpec prog 114 [i64 (IntKind.wrap IntKind.i64 (IntKind.wrap IntKind.i64 (IntKind.wrap IntKind.i64 (width f - (1 : Int)) - (↑i : Int)) - (64 : Int)))]
  (u64 ((2 : Int) ^ Int.toNat (IntKind.wrap IntKind.i64 (IntKind.wrap IntKind.i64 (IntKind.wrap IntKind.i64 (width f - (1 : Int)) - (↑i : Int)) - (64 : Int))))))
  (Tree.need ((2 : Int) ^ Int.toNat (IntKind.wrap IntKind.i64 (IntKind.wrap IntKind.i64 (IntKind.wrap IntKind.i64 (width f - (1 : Int)) - (↑i : Int)) - (64 : Int))) ≠ (0 : Int))
  (Tree.need ((2 : Int) ≠ (0 : Int))
  (Tree.need (List.length (List.map (fun j => i64 (bitF f a j)) (List.range i)) = i ∧ cellsOk (List.map (fun j => i64 (bitF f a j)) (List.range i)) = true ∧ true = true ∧ i + 1 ≤ 1000000)
  (Tree.done Exit.normal
  (LState.mk
  [(7, AVal.imm (IVal.v (Value.int IntKind.i64 (IntKind.wrap IntKind.i64 ((↑i : Int) + (1 : Int)))))), (6, AVal.imm (i64 (width f))), (5, AVal.own 50 (i + 1)),
  (3, AVal.ptr 0 0)]
  [(0, Entry.box 64 (AVal.imm (encA a))),
  (50,
  Entry.row 3 1
  (List.map (fun j => i64 (bitF f a j)) (List.range i) ++
  [IVal.v
  (Value.int IntKind.i64
  (IntKind.wrap IntKind.i64
  (Int.tmod (IntKind.wrap IntKind.u64 (Int.tdiv a.hi ((2 : Int) ^ Int.toNat (IntKind.wrap IntKind.i64 (IntKind.wrap IntKind.i64 (IntKind.wrap IntKind.i64 (width f - (1 : Int)) - (↑i : Int)) - (64 : Int))))))
  (2 : Int))))]))]
  39 92 []))))))
  (Tree.need
  (ILeL [IVal.v (Value.int IntKind.i64 (IntKind.wrap IntKind.i64 (IntKind.wrap IntKind.i64 (width f - (1 : Int)) - (↑i : Int))))] [i64 (IntKind.wrap IntKind.i64 (IntKind.wrap IntKind.i64 (width f - (1 : Int)) - (↑i : Int)))] ∧
  ASpec prog 114 [i64 (IntKind.wrap IntKind.i64 (IntKind.wrap IntKind.i64 (width f - (1 : Int)) - (↑i : Int)))]
  (u64 ((2 : Int) ^ Int.toNat (IntKind.wrap IntKind.i64 (IntKind.wrap IntKind.i64 (width f - (1 : Int)) - (↑i : Int))))))
  (Tree.need ((2 : Int) ^ Int.toNat (IntKind.wrap IntKind.i64 (IntKind.wrap IntKind.i64 (width f - (1 : Int)) - (↑i : Int))) ≠ (0 : Int))
  (Tree.need ((2 : Int) ≠ (0 : Int))
  (Tree.need (List.length (List.map (fun j => i64 (bitF f a j)) (List.range i)) = i ∧ cellsOk (List.map (fun j => i64 (bitF f a j)) (List.range i)) = true ∧ true = true ∧ i + 1 ≤ 1000000)
  (Tree.done Exit.normal
  (LState.mk
  [(7, AVal.imm (IVal.v (Value.int IntKind.i64 (IntKind.wrap IntKind.i64 ((↑i : Int) + (1 : Int)))))), (6, AVal.imm (i64 (width f))), (5, AVal.own 50 (i + 1)),
  (3, AVal.ptr 0 0)]
  [(0, Entry.box 64 (AVal.imm (encA a))),
  (50,
  Entry.row 3 1
  (List.map (fun j => i64 (bitF f a j)) (List.range i) ++
  [IVal.v
  (Value.int IntKind.i64
  (IntKind.wrap IntKind.i64 (Int.tmod (IntKind.wrap IntKind.u64 (Int.tdiv a.lo ((2 : Int) ^ Int.toNat (IntKind.wrap IntKind.i64 (IntKind.wrap IntKind.i64 (width f - (1 : Int)) - (↑i : Int)))))) (2 : Int))))]))]
  39 86 [])))))))
  (Tree.done (Exit.exit 0) (LState.mk [(5, AVal.own 50 i)] [(50, Entry.row 3 1 (List.map (fun j => i64 (bitF f a j)) (List.range i)))] 39 63 [])) := by kernel_rfl
def T97 (f : Int) (a : Addr) : Tell :=
  Tell.mk (fun x x_1 => false) (fun x x_1 => Orc.no) (fun x => Tree.done (Exit.exit 0) (E97 f a)) (fun x => 0) (fun x => ([7, 6, 5, 3], [0]))
  (oget [(3, 2, 1, Orc.call [u8 f] (i64 (width f)))]) fun x x_1 => Tree.done (Exit.exit 0) (E97 f a)
theorem t97 (f : Int) (a : Addr) : levF prog Proofs.Tryz.f97 [u8 f, encA a] (T97 f a) =
  Tree.need (ILeL [u8 f] [u8 f] ∧ ASpec prog 73 [u8 f] (i64 (width f)))
  (Tree.loop 4
  (LState.mk [(7, AVal.imm (IVal.v (Value.int IntKind.i64 (0 : Int)))), (6, AVal.imm (i64 (width f))), (5, AVal.imm (IVal.v (Value.slice none 0 0))), (3, AVal.ptr 0 0)]
  [(0, Entry.box 64 (AVal.imm (encA a)))] 39 7 [])
  (Tree.done (Exit.exit 0) (E97 f a))
  (Tree.need (eqs [(Int.toNat (width f), List.length (List.map (fun j => i64 (bitF f a j)) (List.range (Int.toNat (width f)))))])
  (Tree.done Exit.ret (lret (IVal.sl true false 1 (List.map (fun j => i64 (bitF f a j)) (List.range (Int.toNat (width f))))))))) := by kernel_rfl
theorem width_cases (f : Int) : width f = 0 ∨ width f = 32 ∨ width f = 128 := by unfold width; split; exact .inr (.inl rfl); split; exact .inr (.inr rfl); exact .inl rfl
theorem range_succ_map {g : Nat → IVal} (i : Nat) : (List.range i).map g ++ [g i] = (List.range (i + 1)).map g := by rw [List.range_succ, List.map_append]; rfl
theorem l97 (f : Int) (a : Addr) (σ : LState) (h : LSub σ (I97 f a 0)) : LoopOk prog [] (bodyOf Proofs.Tryz.f97) 4 σ (.done (.exit 0) (E97 f a)) := by
  have hw := width_le f
  have hw0 := width_cases f
  refine LoopOk.countN (width f).toNat 0 (I97 f a) (E97 f a) (T97r f a) fin97 (by kernel_rfl) h fun i hi => ?_
  rw [t97r]
  have e1 : IntKind.i64.wrap (width f - 1) = width f - 1 := IntWalk.i64_in _ (by omega)
  have e2 : IntKind.i64.wrap (width f - 1 - (i : Int)) = width f - 1 - (i : Int) := IntWalk.i64_in _ (by omega)
  have e3 : IntKind.i64.wrap (width f - 1 - (i : Int) - 64) = width f - 1 - (i : Int) - 64 := IntWalk.i64_in _ (by omega)
  simp only [e1, e2, e3]
  have hp : ∀ k : Nat, (2 : Int) ^ k ≠ 0 := fun k => by have := Int.pow_pos (m := k) (show (0:Int) < 2 by decide); omega
  have row : ∀ v : Int, v = bitF f a i → some (Entry.row 3 1 ((List.range i).map (fun j => i64 (bitF f a j)) ++ [i64 v])) = some (Entry.row 3 1 ((List.range (i + 1)).map fun j => i64 (bitF f a j))) := by
    rintro v rfl; rw [← range_succ_map]
  refine ⟨fun h1 => ⟨fun h2 => ⟨⟨ILeL.refl _, c114 _ ?_ ?_⟩, fun _ => ⟨hp _, fun _ => ⟨by decide, fun _ => ⟨?_, fun _ => ?_⟩⟩⟩⟩, fun h2 => ⟨⟨ILeL.refl _, c114 _ ?_ ?_⟩, fun _ => ⟨hp _, fun _ => ⟨by decide, fun _ => ⟨?_, fun _ => ?_⟩⟩⟩⟩⟩, fun h1 => ?_⟩
  · (simp only [List.length_map, decide_eq_true_eq, decide_eq_false_iff_not, Int.toNat_natCast] at * <;> omega)
  · (simp only [List.length_map, decide_eq_true_eq, decide_eq_false_iff_not, Int.toNat_natCast] at * <;> omega)
  · exact ⟨by simp, cellsOk_map _ (fun _ => rfl) _, trivial, by omega⟩
  · have hlt : i < (width f).toNat := by (simp only [List.length_map, decide_eq_true_eq, decide_eq_false_iff_not, Int.toNat_natCast] at * <;> omega)
    refine ⟨hlt, ⟨?_, rfl, rfl, rfl, trivial⟩, ⟨rfl, row _ ?_, trivial⟩, rfl, rfl, rfl⟩
    · exact congrArg (fun n => AVal.imm (i64 n)) (i64_small hlt (by omega))
    · simp only [decide_eq_true_eq] at h2
      rw [bitF, if_pos h2]; rfl
  · (simp only [List.length_map, decide_eq_true_eq, decide_eq_false_iff_not, Int.toNat_natCast] at * <;> omega)
  · (simp only [List.length_map, decide_eq_true_eq, decide_eq_false_iff_not, Int.toNat_natCast] at * <;> omega)
  · exact ⟨by simp, cellsOk_map _ (fun _ => rfl) _, trivial, by omega⟩
  · have hlt : i < (width f).toNat := by (simp only [List.length_map, decide_eq_true_eq, decide_eq_false_iff_not, Int.toNat_natCast] at * <;> omega)
    refine ⟨hlt, ⟨?_, rfl, rfl, rfl, trivial⟩, ⟨rfl, row _ ?_, trivial⟩, rfl, rfl, rfl⟩
    · exact congrArg (fun n => AVal.imm (i64 n)) (i64_small hlt (by omega))
    · simp only [decide_eq_false_iff_not] at h2
      rw [bitF, if_neg h2]; rfl
  · have : i = (width f).toNat := by (simp only [List.length_map, decide_eq_true_eq, decide_eq_false_iff_not, Int.toNat_natCast] at * <;> omega)
    subst this
    exact ⟨rfl, by omega, ⟨rfl, trivial⟩, ⟨rfl, trivial⟩, rfl, rfl, rfl⟩
def bitsL (f : Int) (a : Addr) : List Int := (List.range (width f).toNat).map (bitF f a)
theorem c97 (f : Int) (a : Addr) : ASpec prog 97 [u8 f, encA a] (slE 1 i64 (bitsL f a)) := by
  refine ASpec.treeW Proofs.Tryz.f97 (T97 f a) (by kernel_rfl) (by kernel_rfl) (t97 f a) ?_
  refine need_sat ⟨ILeL.refl _, c73 _⟩ ⟨?_, need_sat ?_ ⟨_, rfl, ?_⟩⟩
  · refine .nam (τ := I97 f a 0) (.temp 5 50 3 1 (show 7 ≤ 50 by decide) (.sub ?_)) (l97 f a _ ?_)
    all_goals exact ⟨⟨rfl, rfl, rfl, rfl, trivial⟩, ⟨rfl, rfl, trivial⟩, rfl, rfl, rfl⟩
  · exact ⟨by simp, trivial⟩
  · rw [slE, bitsL, List.map_map]; exact .sl (fun h => by cases h) (fun h => h) (.refl _)
def P72 (p : Pfx) (i : Nat) : Bool := !decide ((bitsL p.fam p.addr).getD (p.len + (i : Int)).toNat 0 = 0)
def I72 (p : Pfx) (i : Nat) : LState := { t := [(5, .imm (i64 (p.len + (i : Int)))), (4, .imm (slE 1 i64 (bitsL p.fam p.addr))), (3, .imm (i64 (width p.fam)))], s := [], m := 45, n := 0 }
def R72 (p : Pfx) (i : Nat) : LState := { t := [(2, .imm (i64 8))], s := [], m := 45, n := 0 }
def E72 (p : Pfx) : LState := { t := [], s := [], m := 45, n := 0 }
def fin72 : Exit → Fin
  | .normal => ⟨[], [5, 4, 3], []⟩
  | .ret => ⟨[], [2], []⟩
  | _ => ⟨[], [], []⟩
def L72 (p : Pfx) : Tree := Lfirst (P72 p) ((width p.fam - p.len).toNat) 0 (R72 p) (E72 p)
def T72r (p : Pfx) (i : Nat) : Tell :=
  Tell.mk (fun x x_1 => false) (fun x x_1 => Orc.no) (fun x => Tree.fail 1000003 0) (fun x => 0) (fun x => ([], []))
  (oget [(3, 10, 2, Orc.elem (i64 (List.getD (bitsL p.fam p.addr) (Int.toNat (p.len + (↑i : Int))) default)))]) fun x x_1 => Tree.fail 1000003 0
theorem t72r (p : Pfx) (i : Nat) : levL prog Proofs.Tryz.f72 8 (I72 p i) (T72r p i) fin72 =
  Tree.br (decide (p.len + (↑i : Int) < width p.fam))
  (Tree.need ((0 : Int) ≤ p.len + (↑i : Int) ∧ (List.map i64 (bitsL p.fam p.addr))[Int.toNat (p.len + (↑i : Int))]? = some (i64 (List.getD (bitsL p.fam p.addr) (Int.toNat (p.len + (↑i : Int))) (0 : Int))))
  (Tree.br (!decide (List.getD (bitsL p.fam p.addr) (Int.toNat (p.len + (↑i : Int))) (0 : Int) = (0 : Int))) (Tree.done Exit.ret (LState.mk [(2, AVal.imm (IVal.v (Value.int IntKind.i64 (8 : Int))))] [] 45 9 []))
  (Tree.done Exit.normal
  (LState.mk
  [(5, AVal.imm (IVal.v (Value.int IntKind.i64 (IntKind.wrap IntKind.i64 (p.len + (↑i : Int) + (1 : Int)))))), (4, AVal.imm (slE 1 i64 (bitsL p.fam p.addr))), (3, AVal.imm (i64 (width p.fam)))] []
  45 11 []))))
  (Tree.done (Exit.exit 0) (LState.mk [] [] 45 3 [])) := by kernel_rfl
def T72 (p : Pfx) : Tell :=
  Tell.mk (fun x x_1 => false) (fun x x_1 => Orc.no) (fun x => L72 p) (fun x => 0) (fun x => ([5, 4, 3], []))
  (oget
  [(2, 1, 2, Orc.call [u8 p.fam] (i64 (width p.fam))), (8, 4, 4, Orc.call [u8 p.fam, encA p.addr] (bo (ckA p.fam p.addr))),
  (25, 6, 4, Orc.call [u8 p.fam, encA p.addr] (slE 1 i64 (bitsL p.fam p.addr)))])
  fun x x_1 => L72 p
theorem t72 (p : Pfx) : levF prog Proofs.Tryz.f72 [encP p] (T72 p) =
  Tree.need (ILeL [u8 p.fam] [u8 p.fam] ∧ ASpec prog 73 [u8 p.fam] (i64 (width p.fam)))
  (Tree.br (decide (width p.fam = (0 : Int))) (Tree.done Exit.ret (lret (IVal.v (Value.int IntKind.i64 (2 : Int)))))
  (Tree.need (ILeL [u8 p.fam, IVal.agg [u64 p.addr.hi, u64 p.addr.lo]] [u8 p.fam, encA p.addr] ∧ ASpec prog 96 [u8 p.fam, encA p.addr] (bo (ckA p.fam p.addr)))
  (Tree.br (!ckA p.fam p.addr) (Tree.done Exit.ret (lret (IVal.v (Value.int IntKind.i64 (8 : Int)))))
  (Tree.br (decide (p.len < (0 : Int))) (Tree.done Exit.ret (lret (IVal.v (Value.int IntKind.i64 (8 : Int)))))
  (Tree.br (decide (width p.fam < p.len)) (Tree.done Exit.ret (lret (IVal.v (Value.int IntKind.i64 (8 : Int)))))
  (Tree.need (ILeL [u8 p.fam, IVal.agg [u64 p.addr.hi, u64 p.addr.lo]] [u8 p.fam, encA p.addr] ∧ ASpec prog 97 [u8 p.fam, encA p.addr] (slE 1 i64 (bitsL p.fam p.addr)))
  (Tree.loop 8 (LState.mk [(5, AVal.imm (i64 p.len)), (4, AVal.imm (slE 1 i64 (bitsL p.fam p.addr))), (3, AVal.imm (i64 (width p.fam)))] [] 45 34 [])
  (Tree.br (anyI (P72 p) 0 (Int.toNat (width p.fam - p.len))) (Tree.done Exit.ret (R72 p (firstI (P72 p) 0 (Int.toNat (width p.fam - p.len))))) (Tree.done (Exit.exit 0) (E72 p)))
  (Tree.br (anyI (P72 p) 0 (Int.toNat (width p.fam - p.len))) (Tree.done Exit.ret (lret (IVal.v (Value.int IntKind.i64 (8 : Int))))) (Tree.done Exit.ret (lret (IVal.v (Value.int IntKind.i64 (0 : Int))))))))))))) := by kernel_rfl
theorem l72 (p : Pfx) (h0 : 0 ≤ p.len) (hw : p.len ≤ width p.fam) (σ : LState) (h : LSub σ (I72 p 0)) : LoopOk prog [] (bodyOf Proofs.Tryz.f72) 8 σ (L72 p) := by
  refine LoopOk.first (P72 p) ((width p.fam - p.len).toNat) 0 (I72 p) (R72 p) (E72 p) (T72r p) fin72 (by kernel_rfl) h fun i hi hz => ?_
  rw [t72r]
  refine ⟨fun h1 => need_sat (elem_need ?_) ⟨fun h2 => ?_, fun h2 => ?_⟩, fun h1 => ?_⟩
  · have := width_le p.fam
    have e : (bitsL p.fam p.addr).length = (width p.fam).toNat := by simp [bitsL]
    exact ⟨by omega, by rw [e]; (simp only [List.length_map, decide_eq_true_eq, decide_eq_false_iff_not, Int.toNat_natCast] at * <;> omega), rfl⟩
  · exact ⟨by (simp only [List.length_map, decide_eq_true_eq, decide_eq_false_iff_not, Int.toNat_natCast] at * <;> omega), h2, by simp [R72, i64, LSub, tsub, ssub, tl, sl, linT, linS, ainB, ainBL]⟩
  · have := width_le p.fam
    have e : IntKind.i64.wrap (p.len + (i : Int) + 1) = p.len + ((i + 1 : Nat) : Int) := by rw [IntWalk.i64_in _ (by (simp only [List.length_map, decide_eq_true_eq, decide_eq_false_iff_not, Int.toNat_natCast] at * <;> omega))]; omega
    refine ⟨by (simp only [List.length_map, decide_eq_true_eq, decide_eq_false_iff_not, Int.toNat_natCast] at * <;> omega), h2, ⟨?_, rfl, rfl, trivial⟩, trivial, rfl, rfl, rfl⟩
    exact congrArg (fun n => AVal.imm (i64 n)) e
  · exact ⟨rfl, by (simp only [List.length_map, decide_eq_true_eq, decide_eq_false_iff_not, Int.toNat_natCast] at * <;> omega), by simp [E72, LSub, tsub, ssub, tl, sl, linT, linS, ainB, ainBL]⟩
def ckP' (p : Pfx) : Int :=
  if width p.fam = 0 then 2 else if (ckA p.fam p.addr && decide (0 ≤ p.len) && decide (p.len ≤ width p.fam) && !anyI (P72 p) 0 (width p.fam - p.len).toNat) = true then 0 else 8
theorem c72 (p : Pfx) : ASpec prog 72 [encP p] (i64 (ckP' p)) := by
  refine ASpec.treeW Proofs.Tryz.f72 (T72 p) (by kernel_rfl) (by kernel_rfl) (t72 p) ?_
  refine need_sat ⟨ILeL.refl _, c73 _⟩ ⟨fun h1 => ⟨_, rfl, ?_⟩, fun h1 => need_sat ⟨ILeL.refl _, c96 _ _⟩ ⟨fun h2 => ⟨_, rfl, ?_⟩, fun h2 => ⟨fun h3 => ⟨_, rfl, ?_⟩, fun h3 => ⟨fun h4 => ⟨_, rfl, ?_⟩, fun h4 => need_sat ⟨ILeL.refl _, c97 _ _⟩ ⟨?_, ⟨fun h5 => ⟨_, rfl, ?_⟩, fun h5 => ⟨_, rfl, ?_⟩⟩⟩⟩⟩⟩⟩
  all_goals simp only [decide_eq_true_eq, decide_eq_false_iff_not, Bool.not_eq_true', Bool.not_eq_false'] at *
  · exact ile_i64 (by simp [ckP', *])
  · exact ile_i64 (by simp [ckP', *])
  · exact ile_i64 (by simp [ckP', *]; omega)
  · exact ile_i64 (by simp [ckP', *]; omega)
  · exact l72 p (by omega) (by omega) _ ⟨⟨by simp [tl, i64], rfl, rfl, trivial⟩, trivial, rfl, rfl, rfl⟩
  · exact ile_i64 (by simp [ckP', *])
  · exact ile_i64 (by
      have g3 : 0 ≤ p.len := by omega
      have g4 : p.len ≤ width p.fam := by omega
      simp [ckP', *])
end Gp
namespace Gp
def P33 (a b : Attest) (i : Nat) : Bool := neI (a.provs.getD i 0) (b.provs.getD i 0)
def I33 (a b : Attest) (i : Nat) : LState := { t := [(5, .imm (i64 i)), (3, .ptr 1 0), (2, .ptr 0 0)], s := [(0, .box 57 (.imm (encT a))), (1, .box 57 (.imm (encT b)))], m := 38, n := 2 }
def R33 (a b : Attest) (i : Nat) : LState := { t := [(4, .imm (bo false))], s := [], m := 38, n := 2 }
def E33 (a b : Attest) : LState := { t := [], s := [], m := 38, n := 2 }
def fin33 : Exit → Fin
  | .normal => ⟨[], [5, 3, 2], [0, 1]⟩
  | .ret => ⟨[], [4], []⟩
  | _ => ⟨[], [], []⟩
def L33 (a b : Attest) : Tree := Lfirst (P33 a b) a.provs.length 0 (R33 a b) (E33 a b)
def T33r (a b : Attest) (i : Nat) : Tell :=
  Tell.mk (fun x x_1 => false) (fun x x_1 => Orc.no) (fun x => Tree.fail 1000003 0) (fun x => 0) (fun x => ([], []))
  (oget [(7, 6, 3, Orc.elem (u32 (List.getD a.provs i default))), (7, 6, 8, Orc.elem (u32 (List.getD b.provs i default)))]) fun x x_1 => Tree.fail 1000003 0
theorem t33r (a b : Attest) (i : Nat) : levL prog Proofs.Tryz.f33 4 (I33 a b i) (T33r a b i) fin33 =
  Tree.br (decide ((↑i : Int) < (↑(List.length (List.map u32 a.provs)) : Int)))
  (Tree.need ((0 : Int) ≤ (↑i : Int) ∧ (List.map u32 a.provs)[i]? = some (u32 (List.getD a.provs i (0 : Int))))
  (Tree.need ((0 : Int) ≤ (↑i : Int) ∧ (List.map u32 b.provs)[i]? = some (u32 (List.getD b.provs i (0 : Int))))
  (Tree.br (!decide (List.getD a.provs i (0 : Int) = List.getD b.provs i (0 : Int))) (Tree.done Exit.ret (LState.mk [(4, AVal.imm (IVal.v (Value.bool false)))] [] 38 19 []))
  (Tree.done Exit.normal
  (LState.mk [(5, AVal.imm (IVal.v (Value.int IntKind.i64 (IntKind.wrap IntKind.i64 ((↑i : Int) + (1 : Int)))))), (3, AVal.ptr 1 0), (2, AVal.ptr 0 0)]
  [(0, Entry.box 57 (AVal.imm (encT a))), (1, Entry.box 57 (AVal.imm (encT b)))] 38 21 [])))))
  (Tree.done (Exit.exit 0) (LState.mk [] [] 38 7 [])) := by kernel_rfl
def T33 (a b : Attest) : Tell :=
  Tell.mk (fun x x_1 => false) (fun x x_1 => Orc.no) (fun x => L33 a b) (fun x => 0) (fun x => ([5, 3, 2], [0, 1])) (fun x x_1 x_2 => Orc.no) fun x x_1 => L33 a b
theorem t33 (a b : Attest) : levF prog Proofs.Tryz.f33 [encT a, encT b] (T33 a b) =
  Tree.br (!decide (a.cust = b.cust)) (Tree.done Exit.ret (lret (IVal.v (Value.bool false))))
  (Tree.br (!decide ((↑(List.length (List.map u32 a.provs)) : Int) = (↑(List.length (List.map u32 b.provs)) : Int))) (Tree.done Exit.ret (lret (IVal.v (Value.bool false))))
  (Tree.loop 4
  (LState.mk [(5, AVal.imm (IVal.v (Value.int IntKind.i64 (0 : Int)))), (3, AVal.ptr 1 0), (2, AVal.ptr 0 0)]
  [(0, Entry.box 57 (AVal.imm (encT a))), (1, Entry.box 57 (AVal.imm (encT b)))] 38 18 [])
  (Tree.br (anyI (P33 a b) 0 (List.length a.provs)) (Tree.done Exit.ret (R33 a b (firstI (P33 a b) 0 (List.length a.provs)))) (Tree.done (Exit.exit 0) (E33 a b)))
  (Tree.br (anyI (P33 a b) 0 (List.length a.provs)) (Tree.done Exit.ret (lret (IVal.v (Value.bool false)))) (Tree.done Exit.ret (lret (IVal.v (Value.bool true))))))) := by kernel_rfl
theorem l33 (a b : Attest) (hl : a.provs.length ≤ 2 ^ 62) (hlr : a.provs.length = b.provs.length) (σ : LState) (h : LSub σ (I33 a b 0)) : LoopOk prog [] (bodyOf Proofs.Tryz.f33) 4 σ (L33 a b) := by
  refine LoopOk.first (P33 a b) a.provs.length 0 (I33 a b) (R33 a b) (E33 a b) (T33r a b) fin33 (by kernel_rfl) h fun i hi hz => ?_
  rw [t33r]
  refine ⟨fun h1 => need_sat (elem_need ?_) (need_sat (elem_need ?_) ⟨fun h2 => ?_, fun h2 => ?_⟩), fun h1 => ?_⟩
  · (refine ⟨by omega, ?_, ?_⟩ <;> (simp only [List.length_map, decide_eq_true_eq, decide_eq_false_iff_not, Int.toNat_natCast] at * <;> omega))
  · (refine ⟨by omega, ?_, ?_⟩ <;> (simp only [List.length_map, decide_eq_true_eq, decide_eq_false_iff_not, Int.toNat_natCast] at * <;> omega))
  · exact ⟨by (simp only [List.length_map, decide_eq_true_eq, decide_eq_false_iff_not, Int.toNat_natCast] at * <;> omega), h2, by simp [R33, bo, LSub, tsub, ssub, tl, sl, linT, linS, ainB, ainBL]⟩
  · exact ⟨by (simp only [List.length_map, decide_eq_true_eq, decide_eq_false_iff_not, Int.toNat_natCast] at * <;> omega), h2, by simp [I33, i64, i64_small (n := i) (by (simp only [List.length_map, decide_eq_true_eq, decide_eq_false_iff_not, Int.toNat_natCast] at * <;> omega)) hl, LSub, tsub, ssub, tl, sl, linT, linS, ainB, ainBL]⟩
  · exact ⟨rfl, by (simp only [List.length_map, decide_eq_true_eq, decide_eq_false_iff_not, Int.toNat_natCast] at * <;> omega), by simp [E33, LSub, tsub, ssub, tl, sl, linT, linS, ainB, ainBL]⟩
theorem c33 (a b : Attest) (hl : a.provs.length ≤ 2 ^ 62) : ASpec prog 33 [encT a, encT b] (bo (decide (a = b))) := by
  have he : sameL neI 0 a.provs b.provs = decide (a.provs = b.provs) := by rw [Bool.eq_iff_iff, sameL_iff (fun a b => by simp [neI])]; simp
  have hab : decide (a = b) = (decide (a.cust = b.cust) && decide (a.provs = b.provs)) := by rw [Bool.eq_iff_iff]; cases a; cases b; simp
  rw [hab, ← he]
  refine ASpec.treeW Proofs.Tryz.f33 (T33 a b) (by kernel_rfl) (by kernel_rfl) (t33 a b) ?_
  refine ⟨fun h1 => ⟨_, rfl, ?_⟩, fun h1 => ⟨fun h2 => ⟨_, rfl, ?_⟩, fun h2 => ⟨?_, ⟨fun h3 => ⟨_, rfl, ?_⟩, fun h3 => ⟨_, rfl, ?_⟩⟩⟩⟩⟩
  · have : ¬ a.cust = b.cust := by simpa using h1
    exact ile_bo (by simp [this])
  · have : ¬ a.provs.length = b.provs.length := by simp at h2; omega
    exact ile_bo (by simp [sameL, this])
  · exact l33 a b hl (by simp at h2; omega) _ (by simp [I33, i64, LSub, tsub, ssub, tl, sl, linT, linS, ainB, ainBL])
  · refine ile_bo ?_
    simp only [sameL, show diffAt neI 0 a.provs b.provs = P33 a b from rfl, h3]; simp
  · have h2 : a.provs.length = b.provs.length := by simp at h2; omega
    have h1 : a.cust = b.cust := by simpa using h1
    refine ile_bo ?_
    simp only [sameL, show diffAt neI 0 a.provs b.provs = P33 a b from rfl, h3]; simp [h1, h2]
def P15a (p q : Payload) (i : Nat) : Bool := neO (p.origins.getD i default) (q.origins.getD i default)
def I15a (p q : Payload) (i : Nat) : LState := { t := [(5, .imm (i64 i)), (3, .ptr 1 0), (2, .ptr 0 0)], s := [(0, .box 26 (.imm (encL p))), (1, .box 26 (.imm (encL q)))], m := 88, n := 2 }
def R15a (p q : Payload) (i : Nat) : LState := { t := [(4, .imm (bo false))], s := [], m := 88, n := 2 }
def E15a (p q : Payload) : LState := { t := [(3, .ptr 1 0), (2, .ptr 0 0)], s := [(0, .box 26 (.imm (encL p))), (1, .box 26 (.imm (encL q)))], m := 88, n := 2 }
def fin15a : Exit → Fin
  | .normal => ⟨[], [5, 3, 2], [0, 1]⟩
  | .ret => ⟨[], [4], []⟩
  | _ => ⟨[], [3, 2], [0, 1]⟩
def L15a (p q : Payload) : Tree := Lfirst (P15a p q) p.origins.length 0 (R15a p q) (E15a p q)
def T15ar (p q : Payload) (i : Nat) : Tell :=
  Tell.mk (fun x x_1 => false) (fun x x_1 => Orc.no) (fun x => Tree.fail 1000003 0) (fun x => 0) (fun x => ([], []))
  (oget [(7, 6, 3, Orc.elem (encO (List.getD p.origins i default))), (7, 6, 8, Orc.elem (encO (List.getD q.origins i default)))]) fun x x_1 => Tree.fail 1000003 0
theorem t15ar (p q : Payload) (i : Nat) : levL prog Proofs.Tryz.f15 4 (I15a p q i) (T15ar p q i) fin15a =
  Tree.br (decide ((↑i : Int) < (↑(List.length (List.map encO p.origins)) : Int)))
  (Tree.need ((0 : Int) ≤ (↑i : Int) ∧ (List.map encO p.origins)[i]? = some (encO (List.getD p.origins i default)))
  (Tree.need ((0 : Int) ≤ (↑i : Int) ∧ (List.map encO q.origins)[i]? = some (encO (List.getD q.origins i default)))
  (Tree.br
  (if BinOp.neq = BinOp.neq then
  !(decide ((List.getD p.origins i default).asn = (List.getD q.origins i default).asn) &&
  (decide ((List.getD p.origins i default).pfx.fam = (List.getD q.origins i default).pfx.fam) &&
  (decide ((List.getD p.origins i default).pfx.addr.hi = (List.getD q.origins i default).pfx.addr.hi) &&
  (decide ((List.getD p.origins i default).pfx.addr.lo = (List.getD q.origins i default).pfx.addr.lo) &&
  (decide ((List.getD p.origins i default).pfx.len = (List.getD q.origins i default).pfx.len) && (decide ((List.getD p.origins i default).max = (List.getD q.origins i default).max) && true))))))
  else
  decide ((List.getD p.origins i default).asn = (List.getD q.origins i default).asn) &&
  (decide ((List.getD p.origins i default).pfx.fam = (List.getD q.origins i default).pfx.fam) &&
  (decide ((List.getD p.origins i default).pfx.addr.hi = (List.getD q.origins i default).pfx.addr.hi) &&
  (decide ((List.getD p.origins i default).pfx.addr.lo = (List.getD q.origins i default).pfx.addr.lo) &&
  (decide ((List.getD p.origins i default).pfx.len = (List.getD q.origins i default).pfx.len) && (decide ((List.getD p.origins i default).max = (List.getD q.origins i default).max) && true))))))
  (Tree.done Exit.ret (LState.mk [(4, AVal.imm (IVal.v (Value.bool false)))] [] 88 19 []))
  (Tree.done Exit.normal
  (LState.mk [(5, AVal.imm (IVal.v (Value.int IntKind.i64 (IntKind.wrap IntKind.i64 ((↑i : Int) + (1 : Int)))))), (3, AVal.ptr 1 0), (2, AVal.ptr 0 0)]
  [(0, Entry.box 26 (AVal.imm (encL p))), (1, Entry.box 26 (AVal.imm (encL q)))] 88 21 [])))))
  (Tree.done (Exit.exit 0)
  (LState.mk [(3, AVal.ptr 1 0), (2, AVal.ptr 0 0)] [(0, Entry.box 26 (AVal.imm (encL p))), (1, Entry.box 26 (AVal.imm (encL q)))] 88 7 [])) := by kernel_rfl
theorem l15a (p q : Payload) (hl : p.origins.length ≤ 2 ^ 62) (hlr : p.origins.length = q.origins.length) (σ : LState) (h : LSub σ (I15a p q 0)) : LoopOk prog [] (bodyOf Proofs.Tryz.f15) 4 σ (L15a p q) := by
  refine LoopOk.first (P15a p q) p.origins.length 0 (I15a p q) (R15a p q) (E15a p q) (T15ar p q) fin15a (by kernel_rfl) h fun i hi hz => ?_
  rw [t15ar]
  refine ⟨fun h1 => need_sat (elem_need ?_) (need_sat (elem_need ?_) ⟨fun h2 => ?_, fun h2 => ?_⟩), fun h1 => ?_⟩
  · (refine ⟨by omega, ?_, ?_⟩ <;> (simp only [List.length_map, decide_eq_true_eq, decide_eq_false_iff_not, Int.toNat_natCast] at * <;> omega))
  · (refine ⟨by omega, ?_, ?_⟩ <;> (simp only [List.length_map, decide_eq_true_eq, decide_eq_false_iff_not, Int.toNat_natCast] at * <;> omega))
  · exact ⟨by (simp only [List.length_map, decide_eq_true_eq, decide_eq_false_iff_not, Int.toNat_natCast] at * <;> omega), h2, by simp [R15a, bo, LSub, tsub, ssub, tl, sl, linT, linS, ainB, ainBL]⟩
  · exact ⟨by (simp only [List.length_map, decide_eq_true_eq, decide_eq_false_iff_not, Int.toNat_natCast] at * <;> omega), h2, by simp [I15a, i64, i64_small (n := i) (by (simp only [List.length_map, decide_eq_true_eq, decide_eq_false_iff_not, Int.toNat_natCast] at * <;> omega)) hl, LSub, tsub, ssub, tl, sl, linT, linS, ainB, ainBL]⟩
  · exact ⟨rfl, by (simp only [List.length_map, decide_eq_true_eq, decide_eq_false_iff_not, Int.toNat_natCast] at * <;> omega), by simp [E15a, LSub, tsub, ssub, tl, sl, linT, linS, ainB, ainBL]⟩
def P15b (p q : Payload) (i : Nat) : Bool := !decide (p.paths.getD i default = q.paths.getD i default)
def I15b (p q : Payload) (i : Nat) : LState := { t := [(6, .imm (i64 i)), (3, .ptr 1 0), (2, .ptr 0 0)], s := [(0, .box 26 (.imm (encL p))), (1, .box 26 (.imm (encL q)))], m := 88, n := 2 }
def R15b (p q : Payload) (i : Nat) : LState := { t := [(4, .imm (bo false))], s := [], m := 88, n := 2 }
def E15b (p q : Payload) : LState := { t := [(3, .ptr 1 0), (2, .ptr 0 0)], s := [(0, .box 26 (.imm (encL p))), (1, .box 26 (.imm (encL q)))], m := 88, n := 2 }
def fin15b : Exit → Fin
  | .normal => ⟨[], [6, 3, 2], [0, 1]⟩
  | .ret => ⟨[], [4], []⟩
  | _ => ⟨[], [3, 2], [0, 1]⟩
def L15b (p q : Payload) : Tree := Lfirst (P15b p q) p.paths.length 2 (R15b p q) (E15b p q)
def T15br (p q : Payload) (i : Nat) : Tell :=
  Tell.mk (fun x x_1 => false) (fun x x_1 => Orc.no) (fun x => Tree.fail 1000003 0) (fun x => 0) (fun x => ([], []))
  (oget
  [(7, 11, 3, Orc.elem (encT (List.getD p.paths i default))), (7, 11, 8, Orc.elem (encT (List.getD q.paths i default))),
  (7, 11, 10, Orc.call [encT (List.getD p.paths i default), encT (List.getD q.paths i default)] (bo (decide (List.getD p.paths i default = List.getD q.paths i default))))])
  fun x x_1 => Tree.fail 1000003 0
theorem t15br (p q : Payload) (i : Nat) : levL prog Proofs.Tryz.f15 9 (I15b p q i) (T15br p q i) fin15b =
  Tree.br (decide ((↑i : Int) < (↑(List.length (List.map encT p.paths)) : Int)))
  (Tree.need ((0 : Int) ≤ (↑i : Int) ∧ (List.map encT p.paths)[i]? = some (encT (List.getD p.paths i default)))
  (Tree.need ((0 : Int) ≤ (↑i : Int) ∧ (List.map encT q.paths)[i]? = some (encT (List.getD q.paths i default)))
  (Tree.need
  (ILeL [encT (List.getD p.paths i default), encT (List.getD q.paths i default)] [encT (List.getD p.paths i default), encT (List.getD q.paths i default)] ∧
  ASpec prog 33 [encT (List.getD p.paths i default), encT (List.getD q.paths i default)] (bo (decide (List.getD p.paths i default = List.getD q.paths i default))))
  (Tree.br (!decide (List.getD p.paths i default = List.getD q.paths i default)) (Tree.done Exit.ret (LState.mk [(4, AVal.imm (IVal.v (Value.bool false)))] [] 88 20 []))
  (Tree.done Exit.normal
  (LState.mk [(6, AVal.imm (IVal.v (Value.int IntKind.i64 (IntKind.wrap IntKind.i64 ((↑i : Int) + (1 : Int)))))), (3, AVal.ptr 1 0), (2, AVal.ptr 0 0)]
  [(0, Entry.box 26 (AVal.imm (encL p))), (1, Entry.box 26 (AVal.imm (encL q)))] 88 22 []))))))
  (Tree.done (Exit.exit 2)
  (LState.mk [(3, AVal.ptr 1 0), (2, AVal.ptr 0 0)] [(0, Entry.box 26 (AVal.imm (encL p))), (1, Entry.box 26 (AVal.imm (encL q)))] 88 7 [])) := by kernel_rfl
theorem l15b (p q : Payload) (hT : ∀ a ∈ p.paths, okT a) (hl : p.paths.length ≤ 2 ^ 62) (hlr : p.paths.length = q.paths.length) (σ : LState) (h : LSub σ (I15b p q 0)) : LoopOk prog [] (bodyOf Proofs.Tryz.f15) 9 σ (L15b p q) := by
  refine LoopOk.first (P15b p q) p.paths.length 2 (I15b p q) (R15b p q) (E15b p q) (T15br p q) fin15b (by kernel_rfl) h fun i hi hz => ?_
  rw [t15br]
  refine ⟨fun h1 => need_sat (elem_need ?_) (need_sat (elem_need ?_) (need_sat ⟨ILeL.refl _, c33 _ _ ?_⟩ ⟨fun h2 => ?_, fun h2 => ?_⟩)), fun h1 => ?_⟩
  · (refine ⟨by omega, ?_, ?_⟩ <;> (simp only [List.length_map, decide_eq_true_eq, decide_eq_false_iff_not, Int.toNat_natCast] at * <;> omega))
  · (refine ⟨by omega, ?_, ?_⟩ <;> (simp only [List.length_map, decide_eq_true_eq, decide_eq_false_iff_not, Int.toNat_natCast] at * <;> omega))
  · have := hT _ (getD_mem p.paths i (by (simp only [List.length_map, decide_eq_true_eq, decide_eq_false_iff_not, Int.toNat_natCast] at * <;> omega))); unfold okT at this; omega
  · exact ⟨by (simp only [List.length_map, decide_eq_true_eq, decide_eq_false_iff_not, Int.toNat_natCast] at * <;> omega), h2, by simp [R15b, bo, LSub, tsub, ssub, tl, sl, linT, linS, ainB, ainBL]⟩
  · exact ⟨by (simp only [List.length_map, decide_eq_true_eq, decide_eq_false_iff_not, Int.toNat_natCast] at * <;> omega), h2, by simp [I15b, i64, i64_small (n := i) (by (simp only [List.length_map, decide_eq_true_eq, decide_eq_false_iff_not, Int.toNat_natCast] at * <;> omega)) hl, LSub, tsub, ssub, tl, sl, linT, linS, ainB, ainBL]⟩
  · exact ⟨rfl, by (simp only [List.length_map, decide_eq_true_eq, decide_eq_false_iff_not, Int.toNat_natCast] at * <;> omega), by simp [E15b, LSub, tsub, ssub, tl, sl, linT, linS, ainB, ainBL]⟩
def P15c (p q : Payload) (i : Nat) : Bool := neK (p.keys.getD i default) (q.keys.getD i default)
def I15c (p q : Payload) (i : Nat) : LState := { t := [(7, .imm (i64 i)), (3, .ptr 1 0), (2, .ptr 0 0)], s := [(0, .box 26 (.imm (encL p))), (1, .box 26 (.imm (encL q)))], m := 88, n := 2 }
def R15c (p q : Payload) (i : Nat) : LState := { t := [(4, .imm (bo false))], s := [], m := 88, n := 2 }
def E15c (p q : Payload) : LState := { t := [(3, .ptr 1 0), (2, .ptr 0 0)], s := [(0, .box 26 (.imm (encL p))), (1, .box 26 (.imm (encL q)))], m := 88, n := 2 }
def fin15c : Exit → Fin
  | .normal => ⟨[], [7, 3, 2], [0, 1]⟩
  | .ret => ⟨[], [4], []⟩
  | _ => ⟨[], [3, 2], [0, 1]⟩
def L15c (p q : Payload) : Tree := Lfirst (P15c p q) p.keys.length 4 (R15c p q) (E15c p q)
def T15cr (p q : Payload) (i : Nat) : Tell :=
  Tell.mk (fun x x_1 => false) (fun x x_1 => Orc.no) (fun x => Tree.fail 1000003 0) (fun x => 0) (fun x => ([], []))
  (oget [(7, 16, 3, Orc.elem (encK (List.getD p.keys i default))), (7, 16, 8, Orc.elem (encK (List.getD q.keys i default)))]) fun x x_1 => Tree.fail 1000003 0
theorem t15cr (p q : Payload) (i : Nat) : levL prog Proofs.Tryz.f15 14 (I15c p q i) (T15cr p q i) fin15c =
  Tree.br (decide ((↑i : Int) < (↑(List.length (List.map encK p.keys)) : Int)))
  (Tree.need ((0 : Int) ≤ (↑i : Int) ∧ (List.map encK p.keys)[i]? = some (encK (List.getD p.keys i default)))
  (Tree.need ((0 : Int) ≤ (↑i : Int) ∧ (List.map encK q.keys)[i]? = some (encK (List.getD q.keys i default)))
  (Tree.br
  (if BinOp.neq = BinOp.neq then
  !(decide ((List.getD p.keys i default).asn = (List.getD q.keys i default).asn) &&
  (decide ((List.getD p.keys i default).root[0] = (List.getD q.keys i default).root[0]) &&
  (decide ((List.getD p.keys i default).root[1] = (List.getD q.keys i default).root[1]) &&
  (decide ((List.getD p.keys i default).root[2] = (List.getD q.keys i default).root[2]) &&
  (decide ((List.getD p.keys i default).root[3] = (List.getD q.keys i default).root[3]) &&
  (decide ((List.getD p.keys i default).root[4] = (List.getD q.keys i default).root[4]) &&
  (decide ((List.getD p.keys i default).root[5] = (List.getD q.keys i default).root[5]) &&
  (decide ((List.getD p.keys i default).root[6] = (List.getD q.keys i default).root[6]) &&
  (decide ((List.getD p.keys i default).root[7] = (List.getD q.keys i default).root[7]) &&
  (decide ((List.getD p.keys i default).root[8] = (List.getD q.keys i default).root[8]) &&
  (decide ((List.getD p.keys i default).root[9] = (List.getD q.keys i default).root[9]) &&
  (decide ((List.getD p.keys i default).root[10] = (List.getD q.keys i default).root[10]) &&
  (decide ((List.getD p.keys i default).root[11] = (List.getD q.keys i default).root[11]) &&
  (decide ((List.getD p.keys i default).root[12] = (List.getD q.keys i default).root[12]) &&
  (decide ((List.getD p.keys i default).root[13] = (List.getD q.keys i default).root[13]) &&
  (decide ((List.getD p.keys i default).root[14] = (List.getD q.keys i default).root[14]) &&
  (decide ((List.getD p.keys i default).root[15] = (List.getD q.keys i default).root[15]) &&
  (decide ((List.getD p.keys i default).height = (List.getD q.keys i default).height) && true))))))))))))))))))
  else
  decide ((List.getD p.keys i default).asn = (List.getD q.keys i default).asn) &&
  (decide ((List.getD p.keys i default).root[0] = (List.getD q.keys i default).root[0]) &&
  (decide ((List.getD p.keys i default).root[1] = (List.getD q.keys i default).root[1]) &&
  (decide ((List.getD p.keys i default).root[2] = (List.getD q.keys i default).root[2]) &&
  (decide ((List.getD p.keys i default).root[3] = (List.getD q.keys i default).root[3]) &&
  (decide ((List.getD p.keys i default).root[4] = (List.getD q.keys i default).root[4]) &&
  (decide ((List.getD p.keys i default).root[5] = (List.getD q.keys i default).root[5]) &&
  (decide ((List.getD p.keys i default).root[6] = (List.getD q.keys i default).root[6]) &&
  (decide ((List.getD p.keys i default).root[7] = (List.getD q.keys i default).root[7]) &&
  (decide ((List.getD p.keys i default).root[8] = (List.getD q.keys i default).root[8]) &&
  (decide ((List.getD p.keys i default).root[9] = (List.getD q.keys i default).root[9]) &&
  (decide ((List.getD p.keys i default).root[10] = (List.getD q.keys i default).root[10]) &&
  (decide ((List.getD p.keys i default).root[11] = (List.getD q.keys i default).root[11]) &&
  (decide ((List.getD p.keys i default).root[12] = (List.getD q.keys i default).root[12]) &&
  (decide ((List.getD p.keys i default).root[13] = (List.getD q.keys i default).root[13]) &&
  (decide ((List.getD p.keys i default).root[14] = (List.getD q.keys i default).root[14]) &&
  (decide ((List.getD p.keys i default).root[15] = (List.getD q.keys i default).root[15]) &&
  (decide ((List.getD p.keys i default).height = (List.getD q.keys i default).height) && true))))))))))))))))))
  (Tree.done Exit.ret (LState.mk [(4, AVal.imm (IVal.v (Value.bool false)))] [] 88 19 []))
  (Tree.done Exit.normal
  (LState.mk [(7, AVal.imm (IVal.v (Value.int IntKind.i64 (IntKind.wrap IntKind.i64 ((↑i : Int) + (1 : Int)))))), (3, AVal.ptr 1 0), (2, AVal.ptr 0 0)]
  [(0, Entry.box 26 (AVal.imm (encL p))), (1, Entry.box 26 (AVal.imm (encL q)))] 88 21 [])))))
  (Tree.done (Exit.exit 4)
  (LState.mk [(3, AVal.ptr 1 0), (2, AVal.ptr 0 0)] [(0, Entry.box 26 (AVal.imm (encL p))), (1, Entry.box 26 (AVal.imm (encL q)))] 88 7 [])) := by kernel_rfl
theorem l15c (p q : Payload) (hl : p.keys.length ≤ 2 ^ 62) (hlr : p.keys.length = q.keys.length) (σ : LState) (h : LSub σ (I15c p q 0)) : LoopOk prog [] (bodyOf Proofs.Tryz.f15) 14 σ (L15c p q) := by
  refine LoopOk.first (P15c p q) p.keys.length 4 (I15c p q) (R15c p q) (E15c p q) (T15cr p q) fin15c (by kernel_rfl) h fun i hi hz => ?_
  rw [t15cr]
  refine ⟨fun h1 => need_sat (elem_need ?_) (need_sat (elem_need ?_) ⟨fun h2 => ?_, fun h2 => ?_⟩), fun h1 => ?_⟩
  · (refine ⟨by omega, ?_, ?_⟩ <;> (simp only [List.length_map, decide_eq_true_eq, decide_eq_false_iff_not, Int.toNat_natCast] at * <;> omega))
  · (refine ⟨by omega, ?_, ?_⟩ <;> (simp only [List.length_map, decide_eq_true_eq, decide_eq_false_iff_not, Int.toNat_natCast] at * <;> omega))
  · exact ⟨by (simp only [List.length_map, decide_eq_true_eq, decide_eq_false_iff_not, Int.toNat_natCast] at * <;> omega), h2, by simp [R15c, bo, LSub, tsub, ssub, tl, sl, linT, linS, ainB, ainBL]⟩
  · exact ⟨by (simp only [List.length_map, decide_eq_true_eq, decide_eq_false_iff_not, Int.toNat_natCast] at * <;> omega), h2, by simp [I15c, i64, i64_small (n := i) (by (simp only [List.length_map, decide_eq_true_eq, decide_eq_false_iff_not, Int.toNat_natCast] at * <;> omega)) hl, LSub, tsub, ssub, tl, sl, linT, linS, ainB, ainBL]⟩
  · exact ⟨rfl, by (simp only [List.length_map, decide_eq_true_eq, decide_eq_false_iff_not, Int.toNat_natCast] at * <;> omega), by simp [E15c, LSub, tsub, ssub, tl, sl, linT, linS, ainB, ainBL]⟩
def T15 (p q : Payload) : Tell :=
  Tell.mk (fun x x_1 => false) (fun x x_1 => Orc.no)
  (fun k =>
  match k with
  | 4 => L15a p q
  | 9 => L15b p q
  | x => L15c p q)
  (fun x => 0)
  (fun k =>
  match k with
  | 4 => ([5, 3, 2], [0, 1])
  | 9 => ([6, 3, 2], [0, 1])
  | x => ([7, 3, 2], [0, 1]))
  (fun x x_1 x_2 => Orc.no) fun x k =>
  match k with
  | 4 => L15a p q
  | 9 => L15b p q
  | x => L15c p q
theorem t15 (p q : Payload) : levF prog Proofs.Tryz.f15 [encL p, encL q] (T15 p q) =
  Tree.br (!decide ((↑(List.length (List.map encO p.origins)) : Int) = (↑(List.length (List.map encO q.origins)) : Int))) (Tree.done Exit.ret (lret (IVal.v (Value.bool false))))
  (Tree.br (!decide ((↑(List.length (List.map encT p.paths)) : Int) = (↑(List.length (List.map encT q.paths)) : Int))) (Tree.done Exit.ret (lret (IVal.v (Value.bool false))))
  (Tree.br (!decide ((↑(List.length (List.map encK p.keys)) : Int) = (↑(List.length (List.map encK q.keys)) : Int))) (Tree.done Exit.ret (lret (IVal.v (Value.bool false))))
  (Tree.loop 4
  (LState.mk [(5, AVal.imm (IVal.v (Value.int IntKind.i64 (0 : Int)))), (3, AVal.ptr 1 0), (2, AVal.ptr 0 0)]
  [(0, Entry.box 26 (AVal.imm (encL p))), (1, Entry.box 26 (AVal.imm (encL q)))] 88 29 [])
  (Tree.br (anyI (P15a p q) 0 (List.length p.origins)) (Tree.done Exit.ret (R15a p q (firstI (P15a p q) 0 (List.length p.origins)))) (Tree.done (Exit.exit 0) (E15a p q)))
  (Tree.br (anyI (P15a p q) 0 (List.length p.origins)) (Tree.done Exit.ret (lret (IVal.v (Value.bool false))))
  (Tree.loop 9
  (LState.mk [(6, AVal.imm (IVal.v (Value.int IntKind.i64 (0 : Int)))), (3, AVal.ptr 1 0), (2, AVal.ptr 0 0)]
  [(0, Entry.box 26 (AVal.imm (encL p))), (1, Entry.box 26 (AVal.imm (encL q)))] 88 3 [])
  (Tree.br (anyI (P15b p q) 0 (List.length p.paths)) (Tree.done Exit.ret (R15b p q (firstI (P15b p q) 0 (List.length p.paths)))) (Tree.done (Exit.exit 2) (E15b p q)))
  (Tree.br (anyI (P15b p q) 0 (List.length p.paths)) (Tree.done Exit.ret (lret (IVal.v (Value.bool false))))
  (Tree.loop 14
  (LState.mk [(7, AVal.imm (IVal.v (Value.int IntKind.i64 (0 : Int)))), (3, AVal.ptr 1 0), (2, AVal.ptr 0 0)]
  [(0, Entry.box 26 (AVal.imm (encL p))), (1, Entry.box 26 (AVal.imm (encL q)))] 88 3 [])
  (Tree.br (anyI (P15c p q) 0 (List.length p.keys)) (Tree.done Exit.ret (R15c p q (firstI (P15c p q) 0 (List.length p.keys)))) (Tree.done (Exit.exit 4) (E15c p q)))
  (Tree.br (anyI (P15c p q) 0 (List.length p.keys)) (Tree.done Exit.ret (lret (IVal.v (Value.bool false)))) (Tree.done Exit.ret (lret (IVal.v (Value.bool true)))))))))))) := by kernel_rfl
theorem c15 (p q : Payload) (hp : p.ok) : ASpec prog 15 [encL p, encL q] (bo (decide (p = q))) := by
  have h1 := hp.o; have h2 := hp.t; have h3 := hp.k
  have hab : decide (p = q) = (sameL neO default p.origins q.origins && (sameL (fun a b => !decide (a = b)) default p.paths q.paths && sameL neK default p.keys q.keys)) := by
    rw [Bool.eq_iff_iff, Bool.and_eq_true, Bool.and_eq_true, sameL_iff neO_iff, sameL_iff (fun a b => by simp), sameL_iff neK_iff]
    cases p; cases q; simp
  rw [hab]
  have d1 : diffAt neO default p.origins q.origins = P15a p q := rfl
  have d2 : diffAt (fun a b => !decide (a = b)) default p.paths q.paths = P15b p q := rfl
  have d18003 : diffAt neK default p.keys q.keys = P15c p q := rfl
  refine ASpec.treeW Proofs.Tryz.f15 (T15 p q) (by kernel_rfl) (by kernel_rfl) (t15 p q) ?_
  refine ⟨fun h1 => ⟨_, rfl, ?_⟩, fun h1 => ⟨fun h2 => ⟨_, rfl, ?_⟩, fun h2 => ⟨fun h3 => ⟨_, rfl, ?_⟩, fun h3 => ⟨?_, ⟨fun h4 => ⟨_, rfl, ?_⟩, fun h4 => ⟨?_, ⟨fun h5 => ⟨_, rfl, ?_⟩, fun h5 => ⟨?_, ⟨fun h6 => ⟨_, rfl, ?_⟩, fun h6 => ⟨_, rfl, ?_⟩⟩⟩⟩⟩⟩⟩⟩⟩⟩
  · have : ¬ p.origins.length = q.origins.length := by simp at h1; omega
    exact ile_bo (by simp [sameL, this])
  · have : ¬ p.paths.length = q.paths.length := by simp at h2; omega
    exact ile_bo (by simp [sameL, this])
  · have : ¬ p.keys.length = q.keys.length := by simp at h3; omega
    exact ile_bo (by simp [sameL, this])
  · exact l15a p q (by omega) (by simp at h1; omega) _ (by simp [I15a, i64, LSub, tsub, ssub, tl, sl, linT, linS, ainB, ainBL])
  · exact ile_bo (by simp [sameL, d1, h4])
  · exact l15b p q hp.p (by omega) (by simp at h2; omega) _ (by simp [I15b, i64, LSub, tsub, ssub, tl, sl, linT, linS, ainB, ainBL])
  · exact ile_bo (by simp [sameL, d2, h5])
  · exact l15c p q (by omega) (by simp at h3; omega) _ (by simp [I15c, i64, LSub, tsub, ssub, tl, sl, linT, linS, ainB, ainBL])
  · exact ile_bo (by simp [sameL, d18003, h6])
  · have e1 : p.origins.length = q.origins.length := by simp at h1; omega
    have e2 : p.paths.length = q.paths.length := by simp at h2; omega
    have e3 : p.keys.length = q.keys.length := by simp at h3; omega
    have a1 : anyI (P15a p q) 0 q.origins.length = false := by rw [← e1]; exact h4
    have a2 : anyI (P15b p q) 0 q.paths.length = false := by rw [← e2]; exact h5
    have a3 : anyI (P15c p q) 0 q.keys.length = false := by rw [← e3]; exact h6
    exact ile_bo (by simp [sameL, d1, d2, d18003, a1, a2, a3, e1, e2, e3])
end Gp
namespace Gp
theorem ileL_map {α : Type} {e e' : α → IVal} (h : ∀ x, ILe (e x) (e' x)) : ∀ l : List α, ILeL (l.map e) (l.map e')
  | [] => .refl _
  | x :: l => .cons (h x) (ileL_map h l)
theorem ile_sl {f : Bool} {k : Nat} {l l' : List IVal} (h : ILeL l l') : ILe (.sl true f k l) (.sl false f k l') := .sl (fun h => by cases h) (fun h => h) h
def encTF (a : Attest) : IVal := .agg [u32 a.cust, slF 1 u32 a.provs]
theorem encTF_le (a : Attest) : ILe (encTF a) (encT a) := .agg (.cons (.refl _) (.cons (.sl (fun h => by cases h) (fun h => h) (.refl _)) (.refl _)))
def B8 (p : Payload) (c : AVal) : Entry := .box 26 (.agg [.imm (slF 6 encO p.origins), c, .imm (slF 18 encK p.keys)])
def I8 (p : Payload) (i : Nat) : LState := { t := [(4, .imm (i64 i)), (3, .ptr 11 0), (2, .ptr 1 0), (1, .ptr 0 0)], s := [(0, .box 26 (.imm (encL p))), (1, Z34), (11, B8 p (.own 50 i)), (50, .row 57 2 ((p.paths.take i).map encTF))], m := 42, n := 60 }
def E8 (p : Payload) : LState := { t := [(3, .ptr 11 0), (2, .ptr 1 0)], s := [(1, Z34), (11, B8 p (.own 50 p.paths.length)), (50, .row 57 2 (p.paths.map encTF))], m := 42, n := 60 }
def fin8 : Exit → Fin
  | .normal => ⟨[(50, 59), (83, 50)], [4, 3, 2, 1], [0, 1, 11, 50]⟩
  | _ => ⟨[], [3, 2], [1, 11, 50]⟩
def T8r (p : Payload) (i : Nat) : Tell :=
  Tell.mk
  (fun r i =>
  (Tell.mk (fun x x_1 => false) (fun x x_1 => Orc.no) (fun x => Tree.fail 1000003 0) (fun x => 0) (fun x => ([], [])) (fun x x_1 x_2 => Orc.no) fun x x_1 => Tree.fail 1000003 0).fz r i ||
  fget [(5, 15), (5, 8)] r i)
  (fun x x_1 => Orc.no) (fun x => Tree.fail 1000003 0) (fun x => 0) (fun x => ([], []))
  (oget [(65, 5, 5, Orc.elem (encT (List.getD p.paths i default))), (65, 5, 12, Orc.elem (encT (List.getD p.paths i default)))]) fun x x_1 => Tree.fail 1000003 0
theorem t8r (p : Payload) (i : Nat) : levL prog Proofs.Tryz.f8 3 (I8 p i) (T8r p i) fin8 =
  Tree.br (decide ((↑i : Int) < (↑(List.length (List.map encT p.paths)) : Int)))
  (Tree.need ((0 : Int) ≤ (↑i : Int) ∧ (List.map encT p.paths)[i]? = some (encT (List.getD p.paths i default)))
  (Tree.need ((0 : Int) ≤ (↑i : Int) ∧ (List.map encT p.paths)[i]? = some (encT (List.getD p.paths i default)))
  (Tree.need (true = true ∧ cellsOk (List.map u32 (List.getD p.paths i default).provs) = true ∧ 0 + List.length (List.map u32 (List.getD p.paths i default).provs) ≤ 1000000)
  (Tree.need (List.length (List.map encTF (List.take i p.paths)) = i ∧ cellsOk (List.map encTF (List.take i p.paths)) = true ∧ true = true ∧ i + 1 ≤ 1000000)
  (Tree.done Exit.normal
  (LState.mk
  [(4, AVal.imm (IVal.v (Value.int IntKind.i64 (IntKind.wrap IntKind.i64 ((↑i : Int) + (1 : Int)))))), (3, AVal.ptr 11 0), (2, AVal.ptr 1 0),
  (1, AVal.ptr 0 0)]
  [(0, Entry.box 26 (AVal.imm (encL p))),
  (1, Entry.box 26 (AVal.imm (IVal.agg [IVal.v (Value.slice none 0 0), IVal.v (Value.slice none 0 0), IVal.v (Value.slice none 0 0)]))),
  (11, Entry.box 26 (AVal.agg [AVal.imm (slF 6 encO p.origins), AVal.own 50 (i + 1), AVal.imm (slF 18 encK p.keys)])),
  (50,
  Entry.row 57 2 (List.map encTF (List.take i p.paths) ++ [IVal.agg [u32 (List.getD p.paths i default).cust, IVal.sl true false 1 ([] ++ List.map u32 (List.getD p.paths i default).provs)]]))]
  42 89 []))))))
  (Tree.done (Exit.exit 0)
  (LState.mk [(3, AVal.ptr 11 0), (2, AVal.ptr 1 0)]
  [(1, Z34), (11, B8 p (AVal.own 50 i)), (50, Entry.row 57 2 (List.map encTF (List.take i p.paths)))] 42 65 [])) := by kernel_rfl
def B8t (p : Payload) : Tell := { Lp := fun _ => .done (.exit 0) (E8 p), lv := fun _ => ([4, 3, 2, 1], [0, 1, 11]) }
def T8 (p : Payload) : Tell :=
  Tell.mk (fun r i => (B8t p).fz r i || fget [(1, 7), (1, 3), (1, 0), (1, 4)] r i) (fun x x_1 => Orc.no) (fun x => Tree.done (Exit.exit 0) (E8 p)) (fun x => 0)
  (fun x => ([4, 3, 2, 1], [0, 1, 11])) (fun x x_1 x_2 => Orc.no) fun x x_1 => Tree.done (Exit.exit 0) (E8 p)
theorem t8 (p : Payload) : levF prog Proofs.Tryz.f8 [encL p] (T8 p) =
  Tree.need (true = true ∧ cellsOk (List.map encO p.origins) = true ∧ 0 + List.length (List.map encO p.origins) ≤ 1000000)
  (Tree.need (true = true ∧ cellsOk (List.map encK p.keys) = true ∧ 0 + List.length (List.map encK p.keys) ≤ 1000000)
  (Tree.loop 3
  (LState.mk [(4, AVal.imm (IVal.v (Value.int IntKind.i64 (0 : Int)))), (3, AVal.ptr 11 0), (2, AVal.ptr 1 0), (1, AVal.ptr 0 0)]
  [(0, Entry.box 26 (AVal.imm (encL p))),
  (1, Entry.box 26 (AVal.imm (IVal.agg [IVal.v (Value.slice none 0 0), IVal.v (Value.slice none 0 0), IVal.v (Value.slice none 0 0)]))),
  (11,
  Entry.box 26
  (AVal.agg [AVal.imm (IVal.sl true false 6 ([] ++ List.map encO p.origins)), AVal.imm (IVal.v (Value.slice none 0 0)), AVal.imm (IVal.sl true false 18 ([] ++ List.map encK p.keys))]))]
  42 14 [])
  (Tree.done (Exit.exit 0) (E8 p))
  (Tree.need (eqs [(List.length p.paths, List.length (List.map encTF p.paths))]) (Tree.done Exit.ret (lret (IVal.agg [slF 6 encO p.origins, IVal.sl true false 2 (List.map encTF p.paths), slF 18 encK p.keys])))))) := by kernel_rfl
theorem take_succF (p : Payload) (i : Nat) (h : i < p.paths.length) : (p.paths.take i).map encTF ++ [encTF (p.paths.getD i default)] = (p.paths.take (i + 1)).map encTF := by
  rw [List.take_add_one, List.map_append]
  simp [List.getD_eq_getElem?_getD, List.getElem?_eq_getElem h]
theorem l8 (p : Payload) (hp : p.ok) (σ : LState) (h : LSub σ (I8 p 0)) : LoopOk prog [] (bodyOf Proofs.Tryz.f8) 3 σ (.done (.exit 0) (E8 p)) := by
  have hT := hp.t
  refine LoopOk.count p.paths.length 0 (I8 p) (E8 p) (T8r p) fin8 (by kernel_rfl) h fun i hi => ?_
  rw [t8r]
  refine ⟨fun h1 => need_sat (elem_need ?_) (need_sat (elem_need ?_) (need_sat ?_ (need_sat ?_ ?_))), fun h1 => ?_⟩
  · (refine ⟨by omega, ?_, ?_⟩ <;> (simp only [List.length_map, decide_eq_true_eq, decide_eq_false_iff_not, Int.toNat_natCast] at * <;> omega))
  · (refine ⟨by omega, ?_, ?_⟩ <;> (simp only [List.length_map, decide_eq_true_eq, decide_eq_false_iff_not, Int.toNat_natCast] at * <;> omega))
  · have := hp.p _ (getD_mem p.paths i (by (simp only [List.length_map, decide_eq_true_eq, decide_eq_false_iff_not, Int.toNat_natCast] at * <;> omega))); unfold okT at this
    exact ⟨rfl, cellsOk_map u32 (fun _ => rfl) _, by simpa using this⟩
  · have : i < p.paths.length := by (simp only [List.length_map, decide_eq_true_eq, decide_eq_false_iff_not, Int.toNat_natCast] at * <;> omega)
    exact ⟨by simp; omega, cellsOk_map encTF (fun _ => rfl) _, rfl, by omega⟩
  · have hlt : i < p.paths.length := by (simp only [List.length_map, decide_eq_true_eq, decide_eq_false_iff_not, Int.toNat_natCast] at * <;> omega)
    refine ⟨hlt, ⟨?_, rfl, rfl, rfl, trivial⟩, ⟨rfl, rfl, rfl, ?_, trivial⟩, rfl, rfl, rfl⟩
    · exact congrArg (fun n => AVal.imm (i64 n)) (i64_small hlt (by omega))
    · exact congrArg (fun l => some (Entry.row 57 2 l)) (take_succF p i hlt)
  · have : i = p.paths.length := by (simp only [List.length_map, decide_eq_true_eq, decide_eq_false_iff_not, Int.toNat_natCast] at * <;> omega)
    subst this
    refine ⟨rfl, by omega, ?_⟩
    simp [E8, B8, Z34, LSub, tsub, ssub, tl, sl, linT, linS, ainB, ainBL]
theorem c8 (p : Payload) (hp : p.ok) : ASpec prog 8 [encL p] (encL p) := by
  have h1 := hp.o; have h2 := hp.k
  refine ASpec.treeW Proofs.Tryz.f8 (T8 p) (by kernel_rfl) (by kernel_rfl) (t8 p) ?_
  refine need_sat ?_ (need_sat ?_ ⟨?_, need_sat ?_ ⟨_, rfl, ?_⟩⟩)
  · exact ⟨rfl, cellsOk_map encO (fun _ => rfl) _, by simp; omega⟩
  · exact ⟨rfl, cellsOk_map encK (fun _ => rfl) _, by simp; omega⟩
  · refine .nam (τ := I8 p 0) (.cell 11 1 50 57 2 (show 14 ≤ 50 by decide) (.sub ?_)) (l8 p hp _ ⟨⟨rfl, rfl, rfl, rfl, trivial⟩, ⟨rfl, rfl, rfl, rfl, trivial⟩, rfl, rfl, rfl⟩)
    exact ⟨⟨rfl, rfl, rfl, rfl, trivial⟩, ⟨rfl, rfl, rfl, rfl, trivial⟩, rfl, rfl, rfl⟩
  · exact ⟨by simp, trivial⟩
  · exact .agg (.cons (ile_sl (.refl _)) (.cons (ile_sl (ileL_map encTF_le _)) (.cons (ile_sl (.refl _)) (.refl _))))
end Gp
namespace Gp
def greatB (n l : Int) : Bool := (decide (30 < n) && decide (n ≤ l)) || decide (l + 10 < n)
def T25 (n l : Int) : Tell :=
  Tell.mk (fun x x_1 => false) (fun x x_1 => Orc.no) (fun x => Tree.fail 1000003 0) (fun x => 0) (fun x => ([], [])) (fun x x_1 x_2 => Orc.no) fun x x_1 => Tree.fail 1000003 0
theorem t25 (n l : Int) : levF prog Proofs.Tryz.f25 [i64 n, i64 l] (T25 n l) =
  Tree.br (decide ((30 : Int) < n)) (Tree.br (decide (n ≤ l)) (Tree.done Exit.ret (lret (IVal.v (Value.bool true)))) (Tree.done Exit.ret (lret (IVal.v (Value.bool (decide (IntKind.wrap IntKind.i64 (l + (10 : Int)) < n)))))))
  (Tree.done Exit.ret (lret (IVal.v (Value.bool (decide (IntKind.wrap IntKind.i64 (l + (10 : Int)) < n)))))) := by kernel_rfl
theorem c25 (n l : Int) (h0 : 0 ≤ l) (hl : l ≤ 100000) : ASpec prog 25 [i64 n, i64 l] (bo (greatB n l)) := by
  have e : IntKind.i64.wrap (l + 10) = l + 10 := IntWalk.i64_in _ (by omega)
  refine ASpec.treeW Proofs.Tryz.f25 (T25 n l) (by kernel_rfl) (by kernel_rfl) (t25 n l) ?_
  refine ⟨fun h1 => ⟨fun h2 => ⟨_, rfl, ?_⟩, fun h2 => ⟨_, rfl, ?_⟩⟩, fun h1 => ⟨_, rfl, ?_⟩⟩
  all_goals (refine ile_bo ?_; (try simp only [e]); (simp only [decide_eq_true_eq, decide_eq_false_iff_not] at *); simp [greatB, *])
theorem i64_big {n l : Nat} (h : n < l) (hl : l ≤ 2 ^ 63 - 1) : IntKind.i64.wrap ((n : Int) + 1) = ((n + 1 : Nat) : Int) := by
  rw [IntWalk.i64_in _ (by omega)]; omega
def P6' (p : Payload) (i : Nat) : Bool := decide (60 < (((p.paths.getD i default).provs.length : Nat) : Int))
def P6 (p : Payload) (i : Nat) : Bool := P6' p i
def I6 (p : Payload) (i : Nat) : LState := { t := [(3, .imm (i64 i)), (1, .ptr 0 0)], s := [(0, .box 26 (.imm (encL p)))], m := 35, n := 1 }
def R6 (p : Payload) (i : Nat) : LState := { t := [(2, .imm (bo true))], s := [], m := 35, n := 1 }
def E6 (p : Payload) : LState := { t := [], s := [], m := 35, n := 1 }
def fin6 : Exit → Fin
  | .normal => ⟨[], [3, 1], [0]⟩
  | .ret => ⟨[], [2], []⟩
  | _ => ⟨[], [], []⟩
def L6 (p : Payload) : Tree := Lfirst (P6 p) p.paths.length 0 (R6 p) (E6 p)
def T6r (p : Payload) (i : Nat) : Tell :=
  Tell.mk (fun x x_1 => false) (fun x x_1 => Orc.no) (fun x => Tree.fail 1000003 0) (fun x => 0) (fun x => ([], [])) (oget [(6, 6, 3, Orc.elem (encT (List.getD p.paths i default)))])
  fun x x_1 => Tree.fail 1000003 0
theorem t6r (p : Payload) (i : Nat) : levL prog Proofs.Tryz.f6 4 (I6 p i) (T6r p i) fin6 =
  Tree.br (decide ((↑i : Int) < (↑(List.length (List.map encT p.paths)) : Int)))
  (Tree.need ((0 : Int) ≤ (↑i : Int) ∧ (List.map encT p.paths)[i]? = some (encT (List.getD p.paths i default)))
  (Tree.br (decide ((60 : Int) < (↑(List.length (List.map u32 (List.getD p.paths i default).provs)) : Int))) (Tree.done Exit.ret (LState.mk [(2, AVal.imm (IVal.v (Value.bool true)))] [] 35 15 []))
  (Tree.done Exit.normal
  (LState.mk [(3, AVal.imm (IVal.v (Value.int IntKind.i64 (IntKind.wrap IntKind.i64 ((↑i : Int) + (1 : Int)))))), (1, AVal.ptr 0 0)] [(0, Entry.box 26 (AVal.imm (encL p)))] 35
  17 []))))
  (Tree.done (Exit.exit 0) (LState.mk [] [] 35 6 [])) := by kernel_rfl
def T6 (p : Payload) : Tell :=
  Tell.mk (fun x x_1 => false) (fun x x_1 => Orc.no) (fun x => L6 p) (fun x => 0) (fun x => ([3, 1], [0]))
  (oget
  [(2, 1, 3, Orc.call [i64 (↑(List.length (List.map encO p.origins)) : Int), i64 (1000 : Int)] (bo (greatB (↑(List.length (List.map encO p.origins)) : Int) (1000 : Int)))),
  (2, 1, 8, Orc.call [i64 (↑(List.length (List.map encT p.paths)) : Int), i64 (300 : Int)] (bo (greatB (↑(List.length (List.map encT p.paths)) : Int) (300 : Int)))),
  (2, 1, 14, Orc.call [i64 (↑(List.length (List.map encK p.keys)) : Int), i64 (100 : Int)] (bo (greatB (↑(List.length (List.map encK p.keys)) : Int) (100 : Int))))])
  fun x x_1 => L6 p
theorem t6 (p : Payload) : levF prog Proofs.Tryz.f6 [encL p] (T6 p) =
  Tree.need
  (ILeL [IVal.v (Value.int IntKind.i64 (↑(List.length (List.map encO p.origins)) : Int)), IVal.v (Value.int IntKind.i64 (1000 : Int))] [i64 (↑(List.length (List.map encO p.origins)) : Int), i64 (1000 : Int)] ∧
  ASpec prog 25 [i64 (↑(List.length (List.map encO p.origins)) : Int), i64 (1000 : Int)] (bo (greatB (↑(List.length (List.map encO p.origins)) : Int) (1000 : Int))))
  (Tree.br (greatB (↑(List.length (List.map encO p.origins)) : Int) (1000 : Int)) (Tree.done Exit.ret (lret (IVal.v (Value.bool true))))
  (Tree.need
  (ILeL [IVal.v (Value.int IntKind.i64 (↑(List.length (List.map encT p.paths)) : Int)), IVal.v (Value.int IntKind.i64 (300 : Int))] [i64 (↑(List.length (List.map encT p.paths)) : Int), i64 (300 : Int)] ∧
  ASpec prog 25 [i64 (↑(List.length (List.map encT p.paths)) : Int), i64 (300 : Int)] (bo (greatB (↑(List.length (List.map encT p.paths)) : Int) (300 : Int))))
  (Tree.br (greatB (↑(List.length (List.map encT p.paths)) : Int) (300 : Int)) (Tree.done Exit.ret (lret (IVal.v (Value.bool true))))
  (Tree.need
  (ILeL [IVal.v (Value.int IntKind.i64 (↑(List.length (List.map encK p.keys)) : Int)), IVal.v (Value.int IntKind.i64 (100 : Int))] [i64 (↑(List.length (List.map encK p.keys)) : Int), i64 (100 : Int)] ∧
  ASpec prog 25 [i64 (↑(List.length (List.map encK p.keys)) : Int), i64 (100 : Int)] (bo (greatB (↑(List.length (List.map encK p.keys)) : Int) (100 : Int))))
  (Tree.br (greatB (↑(List.length (List.map encK p.keys)) : Int) (100 : Int)) (Tree.done Exit.ret (lret (IVal.v (Value.bool true))))
  (Tree.loop 4 (LState.mk [(3, AVal.imm (IVal.v (Value.int IntKind.i64 (0 : Int)))), (1, AVal.ptr 0 0)] [(0, Entry.box 26 (AVal.imm (encL p)))] 35 19 [])
  (Tree.br (anyI (P6 p) 0 (List.length p.paths)) (Tree.done Exit.ret (R6 p (firstI (P6 p) 0 (List.length p.paths)))) (Tree.done (Exit.exit 0) (E6 p)))
  (Tree.br (anyI (P6 p) 0 (List.length p.paths)) (Tree.done Exit.ret (lret (IVal.v (Value.bool true)))) (Tree.done Exit.ret (lret (IVal.v (Value.bool false))))))))))) := by kernel_rfl
theorem l6 (p : Payload) (hl : p.paths.length ≤ 2 ^ 63 - 1) (σ : LState) (h : LSub σ (I6 p 0)) : LoopOk prog [] (bodyOf Proofs.Tryz.f6) 4 σ (L6 p) := by
  refine LoopOk.first (P6 p) p.paths.length 0 (I6 p) (R6 p) (E6 p) (T6r p) fin6 (by kernel_rfl) h fun i hi hz => ?_
  rw [t6r]
  refine ⟨fun h1 => need_sat (elem_need ?_) ⟨fun h2 => ?_, fun h2 => ?_⟩, fun h1 => ?_⟩
  · (refine ⟨by omega, ?_, ?_⟩ <;> (simp only [List.length_map, decide_eq_true_eq, decide_eq_false_iff_not, Int.toNat_natCast] at * <;> omega))
  · exact ⟨by (simp only [List.length_map, decide_eq_true_eq, decide_eq_false_iff_not, Int.toNat_natCast] at * <;> omega), by simpa [P6, P6'] using h2, by simp [R6, bo, LSub, tsub, ssub, tl, sl, linT, linS, ainB, ainBL]⟩
  · exact ⟨by (simp only [List.length_map, decide_eq_true_eq, decide_eq_false_iff_not, Int.toNat_natCast] at * <;> omega), by simpa [P6, P6'] using h2, by simp [I6, i64, i64_big (n := i) (by (simp only [List.length_map, decide_eq_true_eq, decide_eq_false_iff_not, Int.toNat_natCast] at * <;> omega)) hl, LSub, tsub, ssub, tl, sl, linT, linS, ainB, ainBL]⟩
  · exact ⟨rfl, by (simp only [List.length_map, decide_eq_true_eq, decide_eq_false_iff_not, Int.toNat_natCast] at * <;> omega), by simp [E6, LSub, tsub, ssub, tl, sl, linT, linS, ainB, ainBL]⟩
def greatP (p : Payload) : Bool := greatB p.origins.length 1000 || greatB p.paths.length 300 || greatB p.keys.length 100 || anyI (P6 p) 0 p.paths.length
theorem c6 (p : Payload) (hl : p.paths.length ≤ 2 ^ 63 - 1) : ASpec prog 6 [encL p] (bo (greatP p)) := by
  refine ASpec.treeW Proofs.Tryz.f6 (T6 p) (by kernel_rfl) (by kernel_rfl) (t6 p) ?_
  refine need_sat ⟨ILeL.refl _, c25 _ _ ?_ ?_⟩ ⟨fun h1 => ⟨_, rfl, ?_⟩, fun h1 => need_sat ⟨ILeL.refl _, c25 _ _ ?_ ?_⟩ ⟨fun h2 => ⟨_, rfl, ?_⟩, fun h2 => need_sat ⟨ILeL.refl _, c25 _ _ ?_ ?_⟩ ⟨fun h3 => ⟨_, rfl, ?_⟩, fun h3 => ⟨?_, ⟨fun h4 => ⟨_, rfl, ?_⟩, fun h4 => ⟨_, rfl, ?_⟩⟩⟩⟩⟩⟩
  all_goals try decide
  all_goals try exact l6 p hl _ (by simp [I6, i64, LSub, tsub, ssub, tl, sl, linT, linS, ainB, ainBL])
  all_goals (simp only [List.length_map] at *; exact ile_bo (by simp [greatP, *]))
end Gp
namespace Gp
def P75 (a : Attest) (i : Nat) : Bool := decide (a.provs.getD i 0 = a.cust) || (decide (0 < i) && decide (a.provs.getD i 0 ≤ a.provs.getD (i - 1) 0))
def I75 (a : Attest) (i : Nat) : LState := { t := [(4, .imm (i64 i)), (3, .imm (i64 a.provs.length)), (1, .ptr 0 0)], s := [(0, .box 112 (.imm (encT a)))], m := 59, n := 1 }
def R75 (a : Attest) (i : Nat) : LState := { t := [(2, .imm (i64 8))], s := [], m := 59, n := 1 }
def E75 (a : Attest) : LState := { t := [], s := [], m := 59, n := 1 }
def fin75 : Exit → Fin
  | .normal => ⟨[], [4, 3, 1], [0]⟩
  | .ret => ⟨[], [2], []⟩
  | _ => ⟨[], [], []⟩
def L75 (a : Attest) : Tree := Lfirst (P75 a) a.provs.length 0 (R75 a) (E75 a)
def T75r (a : Attest) (i : Nat) : Tell :=
  Tell.mk (fun x x_1 => false) (fun x x_1 => Orc.no) (fun x => Tree.fail 1000003 0) (fun x => 0) (fun x => ([], []))
  (oget
  [(4, 9, 3, Orc.elem (u32 (List.getD a.provs i default))), (4, 9, 15, Orc.elem (u32 (List.getD a.provs i default))),
  (4, 9, 21, Orc.elem (u32 (List.getD a.provs (Int.toNat (IntKind.wrap IntKind.i64 ((↑i : Int) - (1 : Int)))) default)))])
  fun x x_1 => Tree.fail 1000003 0
theorem t75r (a : Attest) (i : Nat) : levL prog Proofs.Tryz.f75 7 (I75 a i) (T75r a i) fin75 =
  Tree.br (decide ((↑i : Int) < (↑(List.length a.provs) : Int)))
  (Tree.need ((0 : Int) ≤ (↑i : Int) ∧ (List.map u32 a.provs)[i]? = some (u32 (List.getD a.provs i (0 : Int))))
  (Tree.br (decide (List.getD a.provs i (0 : Int) = a.cust)) (Tree.done Exit.ret (LState.mk [(2, AVal.imm (IVal.v (Value.int IntKind.i64 (8 : Int))))] [] 59 31 []))
  (Tree.br (decide ((0 : Int) < (↑i : Int)))
  (Tree.need ((0 : Int) ≤ (↑i : Int) ∧ (List.map u32 a.provs)[i]? = some (u32 (List.getD a.provs i (0 : Int))))
  (Tree.need
  ((0 : Int) ≤ IntKind.wrap IntKind.i64 ((↑i : Int) - (1 : Int)) ∧
  (List.map u32 a.provs)[Int.toNat (IntKind.wrap IntKind.i64 ((↑i : Int) - (1 : Int)))]? = some (u32 (List.getD a.provs (Int.toNat (IntKind.wrap IntKind.i64 ((↑i : Int) - (1 : Int)))) (0 : Int))))
  (Tree.br (decide (List.getD a.provs i (0 : Int) ≤ List.getD a.provs (Int.toNat (IntKind.wrap IntKind.i64 ((↑i : Int) - (1 : Int)))) (0 : Int)))
  (Tree.done Exit.ret (LState.mk [(2, AVal.imm (IVal.v (Value.int IntKind.i64 (8 : Int))))] [] 59 31 []))
  (Tree.done Exit.normal
  (LState.mk [(4, AVal.imm (IVal.v (Value.int IntKind.i64 (IntKind.wrap IntKind.i64 ((↑i : Int) + (1 : Int)))))), (3, AVal.imm (i64 (↑(List.length a.provs) : Int))), (1, AVal.ptr 0 0)]
  [(0, Entry.box 112 (AVal.imm (encT a)))] 59 33 [])))))
  (Tree.done Exit.normal
  (LState.mk [(4, AVal.imm (IVal.v (Value.int IntKind.i64 (IntKind.wrap IntKind.i64 ((↑i : Int) + (1 : Int)))))), (3, AVal.imm (i64 (↑(List.length a.provs) : Int))), (1, AVal.ptr 0 0)]
  [(0, Entry.box 112 (AVal.imm (encT a)))] 59 33 [])))))
  (Tree.done (Exit.exit 0) (LState.mk [] [] 59 4 [])) := by kernel_rfl
def T75 (a : Attest) : Tell :=
  Tell.mk (fun x x_1 => false) (fun x x_1 => Orc.no) (fun x => L75 a) (fun x => 0) (fun x => ([4, 3, 1], [0]))
  (oget [(8, 4, 13, Orc.elem (u32 (List.getD a.provs 0 default)))]) fun x x_1 => L75 a
theorem t75 (a : Attest) : levF prog Proofs.Tryz.f75 [encT a] (T75 a) =
  Tree.br (decide ((50 : Int) < (↑(List.length (List.map u32 a.provs)) : Int))) (Tree.done Exit.ret (lret (IVal.v (Value.int IntKind.i64 (4 : Int)))))
  (Tree.br (decide ((↑(List.length (List.map u32 a.provs)) : Int) = (0 : Int))) (Tree.done Exit.ret (lret (IVal.v (Value.int IntKind.i64 (8 : Int)))))
  (Tree.br (decide (a.cust = (0 : Int))) (Tree.done Exit.ret (lret (IVal.v (Value.int IntKind.i64 (8 : Int)))))
  (Tree.br (decide ((1 : Int) < (↑(List.length (List.map u32 a.provs)) : Int)))
  (Tree.need ((0 : Int) ≤ (0 : Int) ∧ (List.map u32 a.provs)[0]? = some (u32 (List.getD a.provs 0 (0 : Int))))
  (Tree.br (decide (List.getD a.provs 0 (0 : Int) = (0 : Int))) (Tree.done Exit.ret (lret (IVal.v (Value.int IntKind.i64 (8 : Int)))))
  (Tree.loop 7
  (LState.mk [(4, AVal.imm (IVal.v (Value.int IntKind.i64 (0 : Int)))), (3, AVal.imm (IVal.v (Value.int IntKind.i64 (↑(List.length (List.map u32 a.provs)) : Int)))), (1, AVal.ptr 0 0)]
  [(0, Entry.box 112 (AVal.imm (encT a)))] 59 27 [])
  (Tree.br (anyI (P75 a) 0 (List.length a.provs)) (Tree.done Exit.ret (R75 a (firstI (P75 a) 0 (List.length a.provs)))) (Tree.done (Exit.exit 0) (E75 a)))
  (Tree.br (anyI (P75 a) 0 (List.length a.provs)) (Tree.done Exit.ret (lret (IVal.v (Value.int IntKind.i64 (8 : Int))))) (Tree.done Exit.ret (lret (IVal.v (Value.int IntKind.i64 (0 : Int)))))))))
  (Tree.loop 7
  (LState.mk [(4, AVal.imm (IVal.v (Value.int IntKind.i64 (0 : Int)))), (3, AVal.imm (IVal.v (Value.int IntKind.i64 (↑(List.length (List.map u32 a.provs)) : Int)))), (1, AVal.ptr 0 0)]
  [(0, Entry.box 112 (AVal.imm (encT a)))] 59 27 [])
  (Tree.br (anyI (P75 a) 0 (List.length a.provs)) (Tree.done Exit.ret (R75 a (firstI (P75 a) 0 (List.length a.provs)))) (Tree.done (Exit.exit 0) (E75 a)))
  (Tree.br (anyI (P75 a) 0 (List.length a.provs)) (Tree.done Exit.ret (lret (IVal.v (Value.int IntKind.i64 (8 : Int))))) (Tree.done Exit.ret (lret (IVal.v (Value.int IntKind.i64 (0 : Int)))))))))) := by kernel_rfl
theorem l75 (a : Attest) (hl : a.provs.length ≤ 2 ^ 62) (σ : LState) (h : LSub σ (I75 a 0)) : LoopOk prog [] (bodyOf Proofs.Tryz.f75) 7 σ (L75 a) := by
  refine LoopOk.first (P75 a) a.provs.length 0 (I75 a) (R75 a) (E75 a) (T75r a) fin75 (by kernel_rfl) h fun i hi hz => ?_
  rw [t75r]
  refine ⟨fun h1 => need_sat (elem_need ?_) ⟨fun h2 => ?_, fun h2 => ⟨fun h3 => need_sat (elem_need ?_) (need_sat (elem_need ?_) ⟨fun h4 => ?_, fun h4 => ?_⟩), fun h3 => ?_⟩⟩, fun h1 => ?_⟩
  · (refine ⟨by omega, ?_, ?_⟩ <;> (simp only [List.length_map, decide_eq_true_eq, decide_eq_false_iff_not, Int.toNat_natCast] at * <;> omega))
  · exact ⟨by (simp only [List.length_map, decide_eq_true_eq, decide_eq_false_iff_not, Int.toNat_natCast] at * <;> omega), by simp only [P75, h2, Bool.true_or], by simp [R75, i64, LSub, tsub, ssub, tl, sl, linT, linS, ainB, ainBL]⟩
  · (refine ⟨by omega, ?_, ?_⟩ <;> (simp only [List.length_map, decide_eq_true_eq, decide_eq_false_iff_not, Int.toNat_natCast] at * <;> omega))
  · have e : IntKind.i64.wrap ((i : Int) - 1) = ((i - 1 : Nat) : Int) := by rw [IntWalk.i64_in _ (by (simp only [List.length_map, decide_eq_true_eq, decide_eq_false_iff_not, Int.toNat_natCast] at * <;> omega))]; (simp only [List.length_map, decide_eq_true_eq, decide_eq_false_iff_not, Int.toNat_natCast] at * <;> omega)
    exact ⟨by rw [e]; omega, by rw [e]; (simp only [List.length_map, decide_eq_true_eq, decide_eq_false_iff_not, Int.toNat_natCast] at * <;> omega), rfl⟩
  · have e : IntKind.i64.wrap ((i : Int) - 1) = ((i - 1 : Nat) : Int) := by rw [IntWalk.i64_in _ (by (simp only [List.length_map, decide_eq_true_eq, decide_eq_false_iff_not, Int.toNat_natCast] at * <;> omega))]; (simp only [List.length_map, decide_eq_true_eq, decide_eq_false_iff_not, Int.toNat_natCast] at * <;> omega)
    rw [e, Int.toNat_natCast] at h4
    have h3' : 0 < i := by (simp only [List.length_map, decide_eq_true_eq, decide_eq_false_iff_not, Int.toNat_natCast] at * <;> omega)
    exact ⟨by (simp only [List.length_map, decide_eq_true_eq, decide_eq_false_iff_not, Int.toNat_natCast] at * <;> omega), by simp only [P75, h2, h4, decide_eq_true h3', Bool.and_self, Bool.or_true], by simp [R75, i64, LSub, tsub, ssub, tl, sl, linT, linS, ainB, ainBL]⟩
  · have e : IntKind.i64.wrap ((i : Int) - 1) = ((i - 1 : Nat) : Int) := by rw [IntWalk.i64_in _ (by (simp only [List.length_map, decide_eq_true_eq, decide_eq_false_iff_not, Int.toNat_natCast] at * <;> omega))]; (simp only [List.length_map, decide_eq_true_eq, decide_eq_false_iff_not, Int.toNat_natCast] at * <;> omega)
    rw [e, Int.toNat_natCast] at h4
    exact ⟨by (simp only [List.length_map, decide_eq_true_eq, decide_eq_false_iff_not, Int.toNat_natCast] at * <;> omega), by simp only [P75, h2, h4, Bool.and_false, Bool.or_self], by simp [I75, i64, i64_small (n := i) (by (simp only [List.length_map, decide_eq_true_eq, decide_eq_false_iff_not, Int.toNat_natCast] at * <;> omega)) hl, LSub, tsub, ssub, tl, sl, linT, linS, ainB, ainBL]⟩
  · have h3' : ¬ 0 < i := by (simp only [List.length_map, decide_eq_true_eq, decide_eq_false_iff_not, Int.toNat_natCast] at * <;> omega)
    exact ⟨by (simp only [List.length_map, decide_eq_true_eq, decide_eq_false_iff_not, Int.toNat_natCast] at * <;> omega), by simp only [P75, h2, decide_eq_false h3', Bool.false_and, Bool.or_self], by simp [I75, i64, i64_small (n := i) (by (simp only [List.length_map, decide_eq_true_eq, decide_eq_false_iff_not, Int.toNat_natCast] at * <;> omega)) hl, LSub, tsub, ssub, tl, sl, linT, linS, ainB, ainBL]⟩
  · exact ⟨rfl, by (simp only [List.length_map, decide_eq_true_eq, decide_eq_false_iff_not, Int.toNat_natCast] at * <;> omega), by simp [E75, LSub, tsub, ssub, tl, sl, linT, linS, ainB, ainBL]⟩
def ckPr' (a : Attest) : Int :=
  if 50 < a.provs.length then 4 else if a.provs.length = 0 ∨ a.cust = 0 ∨ (1 < a.provs.length ∧ a.provs.getD 0 0 = 0) ∨ anyI (P75 a) 0 a.provs.length = true then 8 else 0
theorem c75 (a : Attest) : ASpec prog 75 [encT a] (i64 (ckPr' a)) := by
  refine ASpec.treeW Proofs.Tryz.f75 (T75 a) (by kernel_rfl) (by kernel_rfl) (t75 a) ?_
  refine ⟨fun h1 => ⟨_, rfl, ?_⟩, fun h1 => ⟨fun h2 => ⟨_, rfl, ?_⟩, fun h2 => ⟨fun h3 => ⟨_, rfl, ?_⟩, fun h3 => ⟨fun h4 => need_sat (elem_need ?_) ⟨fun h5 => ⟨_, rfl, ?_⟩, fun h5 => ⟨?_, ⟨fun h6 => ⟨_, rfl, ?_⟩, fun h6 => ⟨_, rfl, ?_⟩⟩⟩⟩, fun h4 => ⟨?_, ⟨fun h5 => ⟨_, rfl, ?_⟩, fun h5 => ⟨_, rfl, ?_⟩⟩⟩⟩⟩⟩⟩
  all_goals simp only [decide_eq_true_eq, decide_eq_false_iff_not, List.length_map] at *
  · exact ile_i64 (by unfold ckPr'; rw [if_pos (by omega)])
  · exact ile_i64 (by unfold ckPr'; rw [if_neg (by omega), if_pos (.inl (by omega))])
  · exact ile_i64 (by unfold ckPr'; rw [if_neg (by omega), if_pos (.inr (.inl h3))])
  · exact ⟨by omega, by simp; omega, rfl⟩
  · exact ile_i64 (by unfold ckPr'; rw [if_neg (by omega), if_pos (.inr (.inr (.inl ⟨by omega, h5⟩)))])
  · exact l75 a (by omega) _ ⟨⟨rfl, by simp [tl, i64], rfl, trivial⟩, ⟨rfl, trivial⟩, rfl, rfl, rfl⟩
  · exact ile_i64 (by unfold ckPr'; rw [if_neg (by omega), if_pos (.inr (.inr (.inr h6)))])
  · exact ile_i64 (by
      unfold ckPr'; rw [if_neg (by omega), if_neg]
      rintro (h | h | h | h)
      · omega
      · exact h3 h
      · exact h5 h.2
      · rw [h6] at h; cases h)
  · exact l75 a (by omega) _ ⟨⟨rfl, by simp [tl, i64], rfl, trivial⟩, ⟨rfl, trivial⟩, rfl, rfl, rfl⟩
  · exact ile_i64 (by unfold ckPr'; rw [if_neg (by omega), if_pos (.inr (.inr (.inr h5)))])
  · exact ile_i64 (by
      unfold ckPr'; rw [if_neg (by omega), if_neg]
      rintro (h | h | h | h)
      · omega
      · exact h3 h
      · omega
      · rw [h5] at h; cases h)
def T42 (a : Attest) : Tell :=
  Tell.mk (fun x x_1 => false) (fun x x_1 => Orc.no) (fun x => Tree.fail 1000003 0) (fun x => 0) (fun x => ([], [])) (oget [(2, 1, 5, Orc.call [encT a] (i64 (ckPr' a)))]) fun x x_1 =>
  Tree.fail 1000003 0
theorem t42 (a : Attest) : levF prog Proofs.Tryz.f42 [encT a] (T42 a) =
  Tree.need (ILeL [IVal.agg [u32 a.cust, lu32 a.provs]] [encT a] ∧ ASpec prog 75 [encT a] (i64 (ckPr' a))) (Tree.done Exit.ret (lret (IVal.v (Value.bool (decide (ckPr' a = (0 : Int))))))) := by kernel_rfl
theorem c42 (a : Attest) : ASpec prog 42 [encT a] (bo (decide (ckPr' a = 0))) := by
  refine ASpec.treeW Proofs.Tryz.f42 (T42 a) (by kernel_rfl) (by kernel_rfl) (t42 a) ?_
  refine need_sat ⟨ILeL.refl _, c75 _⟩ ⟨_, rfl, ?_⟩
  exact .refl _
def goodO' (o : Origin) : Bool := decide (ckP' o.pfx = 0) && decide (o.pfx.len ≤ o.max) && decide (o.max ≤ width o.pfx.fam)
def T40 (o : Origin) : Tell :=
  Tell.mk (fun x x_1 => false) (fun x x_1 => Orc.no) (fun x => Tree.fail 1000003 0) (fun x => 0) (fun x => ([], []))
  (oget [(2, 1, 2, Orc.call [encP o.pfx] (i64 (ckP' o.pfx))), (2, 1, 18, Orc.call [u8 o.pfx.fam] (i64 (width o.pfx.fam)))]) fun x x_1 => Tree.fail 1000003 0
theorem t40 (o : Origin) : levF prog Proofs.Tryz.f40 [encO o] (T40 o) =
  Tree.need (ILeL [IVal.agg [u8 o.pfx.fam, u64 o.pfx.addr.hi, u64 o.pfx.addr.lo, i64 o.pfx.len]] [encP o.pfx] ∧ ASpec prog 72 [encP o.pfx] (i64 (ckP' o.pfx)))
  (Tree.br (decide (ckP' o.pfx = (0 : Int)))
  (Tree.br (decide (o.pfx.len ≤ o.max)) (Tree.need (ILeL [u8 o.pfx.fam] [u8 o.pfx.fam] ∧ ASpec prog 73 [u8 o.pfx.fam] (i64 (width o.pfx.fam))) (Tree.done Exit.ret (lret (IVal.v (Value.bool (decide (o.max ≤ width o.pfx.fam)))))))
  (Tree.done Exit.ret (lret (IVal.v (Value.bool false)))))
  (Tree.done Exit.ret (lret (IVal.v (Value.bool false))))) := by kernel_rfl
theorem c40 (o : Origin) : ASpec prog 40 [encO o] (bo (goodO' o)) := by
  refine ASpec.treeW Proofs.Tryz.f40 (T40 o) (by kernel_rfl) (by kernel_rfl) (t40 o) ?_
  refine need_sat ⟨ILeL.refl _, c72 _⟩ ⟨fun h1 => ⟨fun h2 => need_sat ⟨ILeL.refl _, c73 _⟩ ⟨_, rfl, ?_⟩, fun h2 => ⟨_, rfl, ?_⟩⟩, fun h1 => ⟨_, rfl, ?_⟩⟩
  all_goals exact ile_bo (by simp [goodO', *])
end Gp
namespace Gp
def P23a (p : Payload) (i : Nat) : Bool := decide (50 < (((p.paths.getD i default).provs.length : Nat) : Int))
def I23a (p : Payload) (i : Nat) : LState := { t := [(3, .imm (i64 i)), (1, .ptr 0 0)], s := [(0, .box 26 (.imm (encL p)))], m := 144, n := 1 }
def R23a (p : Payload) (i : Nat) : LState := { t := [(2, .imm (i64 4))], s := [], m := 144, n := 1 }
def E23a (p : Payload) : LState := { t := [(1, .ptr 0 0)], s := [(0, .box 26 (.imm (encL p)))], m := 144, n := 1 }
def fin23a : Exit → Fin
  | .normal => ⟨[], [3, 1], [0]⟩
  | .ret => ⟨[], [2], []⟩
  | _ => ⟨[], [1], [0]⟩
def L23a (p : Payload) : Tree := Lfirst (P23a p) p.paths.length 0 (R23a p) (E23a p)
def T23ar (p : Payload) (i : Nat) : Tell :=
  Tell.mk (fun x x_1 => false) (fun x x_1 => Orc.no) (fun x => Tree.fail 1000003 0) (fun x => 0) (fun x => ([], [])) (oget [(6, 6, 3, Orc.elem (encT (List.getD p.paths i default)))])
  fun x x_1 => Tree.fail 1000003 0
theorem t23ar (p : Payload) (i : Nat) : levL prog Proofs.Tryz.f23 4 (I23a p i) (T23ar p i) fin23a =
  Tree.br (decide ((↑i : Int) < (↑(List.length (List.map encT p.paths)) : Int)))
  (Tree.need ((0 : Int) ≤ (↑i : Int) ∧ (List.map encT p.paths)[i]? = some (encT (List.getD p.paths i default)))
  (Tree.br (decide ((50 : Int) < (↑(List.length (List.map u32 (List.getD p.paths i default).provs)) : Int))) (Tree.done Exit.ret (LState.mk [(2, AVal.imm (IVal.v (Value.int IntKind.i64 (4 : Int))))] [] 144 15 []))
  (Tree.done Exit.normal
  (LState.mk [(3, AVal.imm (IVal.v (Value.int IntKind.i64 (IntKind.wrap IntKind.i64 ((↑i : Int) + (1 : Int)))))), (1, AVal.ptr 0 0)] [(0, Entry.box 26 (AVal.imm (encL p)))] 144
  17 []))))
  (Tree.done (Exit.exit 0) (LState.mk [(1, AVal.ptr 0 0)] [(0, Entry.box 26 (AVal.imm (encL p)))] 144 6 [])) := by kernel_rfl
theorem l23a (p : Payload) (hl : p.paths.length ≤ 2 ^ 62) (σ : LState) (h : LSub σ (I23a p 0)) : LoopOk prog [] (bodyOf Proofs.Tryz.f23) 4 σ (L23a p) := by
  refine LoopOk.first (P23a p) p.paths.length 0 (I23a p) (R23a p) (E23a p) (T23ar p) fin23a (by kernel_rfl) h fun i hi hz => ?_
  rw [t23ar]
  refine ⟨fun h1 => need_sat (elem_need ?_) ⟨fun h2 => ?_, fun h2 => ?_⟩, fun h1 => ?_⟩
  · (refine ⟨by omega, ?_, ?_⟩ <;> (simp only [List.length_map, decide_eq_true_eq, decide_eq_false_iff_not, Int.toNat_natCast] at * <;> omega))
  · exact ⟨by (simp only [List.length_map, decide_eq_true_eq, decide_eq_false_iff_not, Int.toNat_natCast] at * <;> omega), by simpa [P23a] using h2, by simp [R23a, i64, LSub, tsub, ssub, tl, sl, linT, linS, ainB, ainBL]⟩
  · exact ⟨by (simp only [List.length_map, decide_eq_true_eq, decide_eq_false_iff_not, Int.toNat_natCast] at * <;> omega), by simpa [P23a] using h2, by simp [I23a, i64, i64_small (n := i) (by (simp only [List.length_map, decide_eq_true_eq, decide_eq_false_iff_not, Int.toNat_natCast] at * <;> omega)) hl, LSub, tsub, ssub, tl, sl, linT, linS, ainB, ainBL]⟩
  · exact ⟨rfl, by (simp only [List.length_map, decide_eq_true_eq, decide_eq_false_iff_not, Int.toNat_natCast] at * <;> omega), by simp [E23a, LSub, tsub, ssub, tl, sl, linT, linS, ainB, ainBL]⟩
def badAt {α : Type} [Inhabited α] (good : α → Bool) (bef : α → α → Bool) (l : List α) (i : Nat) : Bool := !good (l.getD i default) || (decide (0 < i) && !bef (l.getD (i - 1) default) (l.getD i default))
def P23b (p : Payload) (i : Nat) : Bool := badAt goodO' befO p.origins i
def I23b (p : Payload) (i : Nat) : LState := { t := [(4, .imm (i64 i)), (1, .ptr 0 0)], s := [(0, .box 26 (.imm (encL p)))], m := 144, n := 1 }
def R23b (p : Payload) (i : Nat) : LState := { t := [(2, .imm (i64 8))], s := [], m := 144, n := 1 }
def E23b (p : Payload) : LState := { t := [(1, .ptr 0 0)], s := [(0, .box 26 (.imm (encL p)))], m := 144, n := 1 }
def fin23b : Exit → Fin
  | .normal => ⟨[], [4, 1], [0]⟩
  | .ret => ⟨[], [2], []⟩
  | _ => ⟨[], [1], [0]⟩
def L23b (p : Payload) : Tree := Lfirst (P23b p) p.origins.length 2 (R23b p) (E23b p)
def T23br (p : Payload) (i : Nat) : Tell :=
  Tell.mk (fun x x_1 => false) (fun x x_1 => Orc.no) (fun x => Tree.fail 1000003 0) (fun x => 0) (fun x => ([], []))
  (oget
  [(6, 11, 3, Orc.elem (encO (List.getD p.origins i default))), (6, 11, 5, Orc.call [encO (List.getD p.origins i default)] (bo (goodO' (List.getD p.origins i default)))),
  (6, 11, 15, Orc.elem (encO (List.getD p.origins (Int.toNat (IntKind.wrap IntKind.i64 ((↑i : Int) - (1 : Int)))) default))), (6, 11, 20, Orc.elem (encO (List.getD p.origins i default))),
  (6, 11, 22,
  Orc.call [encO (List.getD p.origins (Int.toNat (IntKind.wrap IntKind.i64 ((↑i : Int) - (1 : Int)))) default), encO (List.getD p.origins i default)]
  (bo (befO (List.getD p.origins (Int.toNat (IntKind.wrap IntKind.i64 ((↑i : Int) - (1 : Int)))) default) (List.getD p.origins i default))))])
  fun x x_1 => Tree.fail 1000003 0
theorem t23br (p : Payload) (i : Nat) : levL prog Proofs.Tryz.f23 9 (I23b p i) (T23br p i) fin23b =
  Tree.br (decide ((↑i : Int) < (↑(List.length (List.map encO p.origins)) : Int)))
  (Tree.need ((0 : Int) ≤ (↑i : Int) ∧ (List.map encO p.origins)[i]? = some (encO (List.getD p.origins i default)))
  (Tree.need (ILeL [encO (List.getD p.origins i default)] [encO (List.getD p.origins i default)] ∧ ASpec prog 40 [encO (List.getD p.origins i default)] (bo (goodO' (List.getD p.origins i default))))
  (Tree.br (!goodO' (List.getD p.origins i default)) (Tree.done Exit.ret (LState.mk [(2, AVal.imm (IVal.v (Value.int IntKind.i64 (8 : Int))))] [] 144 33 []))
  (Tree.br (decide ((0 : Int) < (↑i : Int)))
  (Tree.need
  ((0 : Int) ≤ IntKind.wrap IntKind.i64 ((↑i : Int) - (1 : Int)) ∧
  (List.map encO p.origins)[Int.toNat (IntKind.wrap IntKind.i64 ((↑i : Int) - (1 : Int)))]? = some (encO (List.getD p.origins (Int.toNat (IntKind.wrap IntKind.i64 ((↑i : Int) - (1 : Int)))) default)))
  (Tree.need ((0 : Int) ≤ (↑i : Int) ∧ (List.map encO p.origins)[i]? = some (encO (List.getD p.origins i default)))
  (Tree.need
  (ILeL [encO (List.getD p.origins (Int.toNat (IntKind.wrap IntKind.i64 ((↑i : Int) - (1 : Int)))) default), encO (List.getD p.origins i default)]
  [encO (List.getD p.origins (Int.toNat (IntKind.wrap IntKind.i64 ((↑i : Int) - (1 : Int)))) default), encO (List.getD p.origins i default)] ∧
  ASpec prog 41 [encO (List.getD p.origins (Int.toNat (IntKind.wrap IntKind.i64 ((↑i : Int) - (1 : Int)))) default), encO (List.getD p.origins i default)]
  (bo (befO (List.getD p.origins (Int.toNat (IntKind.wrap IntKind.i64 ((↑i : Int) - (1 : Int)))) default) (List.getD p.origins i default))))
  (Tree.br (!befO (List.getD p.origins (Int.toNat (IntKind.wrap IntKind.i64 ((↑i : Int) - (1 : Int)))) default) (List.getD p.origins i default))
  (Tree.done Exit.ret (LState.mk [(2, AVal.imm (IVal.v (Value.int IntKind.i64 (8 : Int))))] [] 144 33 []))
  (Tree.done Exit.normal
  (LState.mk [(4, AVal.imm (IVal.v (Value.int IntKind.i64 (IntKind.wrap IntKind.i64 ((↑i : Int) + (1 : Int)))))), (1, AVal.ptr 0 0)] [(0, Entry.box 26 (AVal.imm (encL p)))]
  144 35 []))))))
  (Tree.done Exit.normal
  (LState.mk [(4, AVal.imm (IVal.v (Value.int IntKind.i64 (IntKind.wrap IntKind.i64 ((↑i : Int) + (1 : Int)))))), (1, AVal.ptr 0 0)] [(0, Entry.box 26 (AVal.imm (encL p)))]
  144 35 []))))))
  (Tree.done (Exit.exit 2) (LState.mk [(1, AVal.ptr 0 0)] [(0, Entry.box 26 (AVal.imm (encL p)))] 144 6 [])) := by kernel_rfl
theorem l23b (p : Payload) (hl : p.origins.length ≤ 2 ^ 62) (σ : LState) (h : LSub σ (I23b p 0)) : LoopOk prog [] (bodyOf Proofs.Tryz.f23) 9 σ (L23b p) := by
  refine LoopOk.first (P23b p) p.origins.length 2 (I23b p) (R23b p) (E23b p) (T23br p) fin23b (by kernel_rfl) h fun i hi hz => ?_
  rw [t23br]
  refine ⟨fun h1 => need_sat (elem_need ?_) (need_sat ⟨ILeL.refl _, c40 _⟩ ⟨fun h2 => ?_, fun h2 => ⟨fun h3 => need_sat (elem_need ?_) (need_sat (elem_need ?_) (need_sat ⟨ILeL.refl _, c41 _ _⟩ ⟨fun h4 => ?_, fun h4 => ?_⟩)), fun h3 => ?_⟩⟩), fun h1 => ?_⟩
  · (refine ⟨by omega, ?_, ?_⟩ <;> (simp only [List.length_map, decide_eq_true_eq, decide_eq_false_iff_not, Int.toNat_natCast] at * <;> omega))
  · exact ⟨by (simp only [List.length_map, decide_eq_true_eq, decide_eq_false_iff_not, Int.toNat_natCast] at * <;> omega), by simp only [P23b, badAt, h2, Bool.true_or], by simp [R23b, i64, LSub, tsub, ssub, tl, sl, linT, linS, ainB, ainBL]⟩
  · have e : IntKind.i64.wrap ((i : Int) - 1) = ((i - 1 : Nat) : Int) := by rw [IntWalk.i64_in _ (by (simp only [List.length_map, decide_eq_true_eq, decide_eq_false_iff_not, Int.toNat_natCast] at * <;> omega))]; (simp only [List.length_map, decide_eq_true_eq, decide_eq_false_iff_not, Int.toNat_natCast] at * <;> omega)
    exact ⟨by rw [e]; omega, by rw [e]; (simp only [List.length_map, decide_eq_true_eq, decide_eq_false_iff_not, Int.toNat_natCast] at * <;> omega), rfl⟩
  · (refine ⟨by omega, ?_, ?_⟩ <;> (simp only [List.length_map, decide_eq_true_eq, decide_eq_false_iff_not, Int.toNat_natCast] at * <;> omega))
  · have e : IntKind.i64.wrap ((i : Int) - 1) = ((i - 1 : Nat) : Int) := by rw [IntWalk.i64_in _ (by (simp only [List.length_map, decide_eq_true_eq, decide_eq_false_iff_not, Int.toNat_natCast] at * <;> omega))]; (simp only [List.length_map, decide_eq_true_eq, decide_eq_false_iff_not, Int.toNat_natCast] at * <;> omega)
    rw [e, Int.toNat_natCast] at h4
    have h3' : 0 < i := by (simp only [List.length_map, decide_eq_true_eq, decide_eq_false_iff_not, Int.toNat_natCast] at * <;> omega)
    exact ⟨by (simp only [List.length_map, decide_eq_true_eq, decide_eq_false_iff_not, Int.toNat_natCast] at * <;> omega), by simp only [P23b, badAt, h2, h4, decide_eq_true h3', Bool.and_self, Bool.or_true], by simp [R23b, i64, LSub, tsub, ssub, tl, sl, linT, linS, ainB, ainBL]⟩
  · have e : IntKind.i64.wrap ((i : Int) - 1) = ((i - 1 : Nat) : Int) := by rw [IntWalk.i64_in _ (by (simp only [List.length_map, decide_eq_true_eq, decide_eq_false_iff_not, Int.toNat_natCast] at * <;> omega))]; (simp only [List.length_map, decide_eq_true_eq, decide_eq_false_iff_not, Int.toNat_natCast] at * <;> omega)
    rw [e, Int.toNat_natCast] at h4
    exact ⟨by (simp only [List.length_map, decide_eq_true_eq, decide_eq_false_iff_not, Int.toNat_natCast] at * <;> omega), by simp only [P23b, badAt, h2, h4, Bool.and_false, Bool.or_self], by simp [I23b, i64, i64_small (n := i) (by (simp only [List.length_map, decide_eq_true_eq, decide_eq_false_iff_not, Int.toNat_natCast] at * <;> omega)) hl, LSub, tsub, ssub, tl, sl, linT, linS, ainB, ainBL]⟩
  · have h3' : ¬ 0 < i := by (simp only [List.length_map, decide_eq_true_eq, decide_eq_false_iff_not, Int.toNat_natCast] at * <;> omega)
    exact ⟨by (simp only [List.length_map, decide_eq_true_eq, decide_eq_false_iff_not, Int.toNat_natCast] at * <;> omega), by simp only [P23b, badAt, h2, decide_eq_false h3', Bool.false_and, Bool.or_self], by simp [I23b, i64, i64_small (n := i) (by (simp only [List.length_map, decide_eq_true_eq, decide_eq_false_iff_not, Int.toNat_natCast] at * <;> omega)) hl, LSub, tsub, ssub, tl, sl, linT, linS, ainB, ainBL]⟩
  · exact ⟨rfl, by (simp only [List.length_map, decide_eq_true_eq, decide_eq_false_iff_not, Int.toNat_natCast] at * <;> omega), by simp [E23b, LSub, tsub, ssub, tl, sl, linT, linS, ainB, ainBL]⟩
def goodT' (a : Attest) : Bool := decide (ckPr' a = 0)
def befT (a b : Attest) : Bool := decide (a.cust < b.cust)
def P23c (p : Payload) (i : Nat) : Bool := badAt goodT' befT p.paths i
def I23c (p : Payload) (i : Nat) : LState := { t := [(5, .imm (i64 i)), (1, .ptr 0 0)], s := [(0, .box 26 (.imm (encL p)))], m := 144, n := 1 }
def R23c (p : Payload) (i : Nat) : LState := { t := [(2, .imm (i64 8))], s := [], m := 144, n := 1 }
def E23c (p : Payload) : LState := { t := [(1, .ptr 0 0)], s := [(0, .box 26 (.imm (encL p)))], m := 144, n := 1 }
def fin23c : Exit → Fin
  | .normal => ⟨[], [5, 1], [0]⟩
  | .ret => ⟨[], [2], []⟩
  | _ => ⟨[], [1], [0]⟩
def L23c (p : Payload) : Tree := Lfirst (P23c p) p.paths.length 4 (R23c p) (E23c p)
def T23cr (p : Payload) (i : Nat) : Tell :=
  Tell.mk (fun x x_1 => false) (fun x x_1 => Orc.no) (fun x => Tree.fail 1000003 0) (fun x => 0) (fun x => ([], []))
  (oget
  [(6, 16, 3, Orc.elem (encT (List.getD p.paths i default))), (6, 16, 5, Orc.call [encT (List.getD p.paths i default)] (bo (decide (ckPr' (List.getD p.paths i default) = (0 : Int))))),
  (6, 16, 15, Orc.elem (encT (List.getD p.paths (Int.toNat (IntKind.wrap IntKind.i64 ((↑i : Int) - (1 : Int)))) default))), (6, 16, 20, Orc.elem (encT (List.getD p.paths i default))),
  (6, 16, 22,
  Orc.call [encT (List.getD p.paths (Int.toNat (IntKind.wrap IntKind.i64 ((↑i : Int) - (1 : Int)))) default), encT (List.getD p.paths i default)]
  (bo (decide ((List.getD p.paths (Int.toNat (IntKind.wrap IntKind.i64 ((↑i : Int) - (1 : Int)))) default).cust < (List.getD p.paths i default).cust))))])
  fun x x_1 => Tree.fail 1000003 0
theorem t23cr (p : Payload) (i : Nat) : levL prog Proofs.Tryz.f23 14 (I23c p i) (T23cr p i) fin23c =
  Tree.br (decide ((↑i : Int) < (↑(List.length (List.map encT p.paths)) : Int)))
  (Tree.need ((0 : Int) ≤ (↑i : Int) ∧ (List.map encT p.paths)[i]? = some (encT (List.getD p.paths i default)))
  (Tree.need (ILeL [encT (List.getD p.paths i default)] [encT (List.getD p.paths i default)] ∧ ASpec prog 42 [encT (List.getD p.paths i default)] (bo (decide (ckPr' (List.getD p.paths i default) = (0 : Int)))))
  (Tree.br (!decide (ckPr' (List.getD p.paths i default) = (0 : Int))) (Tree.done Exit.ret (LState.mk [(2, AVal.imm (IVal.v (Value.int IntKind.i64 (8 : Int))))] [] 144 33 []))
  (Tree.br (decide ((0 : Int) < (↑i : Int)))
  (Tree.need
  ((0 : Int) ≤ IntKind.wrap IntKind.i64 ((↑i : Int) - (1 : Int)) ∧
  (List.map encT p.paths)[Int.toNat (IntKind.wrap IntKind.i64 ((↑i : Int) - (1 : Int)))]? = some (encT (List.getD p.paths (Int.toNat (IntKind.wrap IntKind.i64 ((↑i : Int) - (1 : Int)))) default)))
  (Tree.need ((0 : Int) ≤ (↑i : Int) ∧ (List.map encT p.paths)[i]? = some (encT (List.getD p.paths i default)))
  (Tree.need
  (ILeL [encT (List.getD p.paths (Int.toNat (IntKind.wrap IntKind.i64 ((↑i : Int) - (1 : Int)))) default), encT (List.getD p.paths i default)]
  [encT (List.getD p.paths (Int.toNat (IntKind.wrap IntKind.i64 ((↑i : Int) - (1 : Int)))) default), encT (List.getD p.paths i default)] ∧
  ASpec prog 43 [encT (List.getD p.paths (Int.toNat (IntKind.wrap IntKind.i64 ((↑i : Int) - (1 : Int)))) default), encT (List.getD p.paths i default)]
  (bo (decide ((List.getD p.paths (Int.toNat (IntKind.wrap IntKind.i64 ((↑i : Int) - (1 : Int)))) default).cust < (List.getD p.paths i default).cust))))
  (Tree.br (!decide ((List.getD p.paths (Int.toNat (IntKind.wrap IntKind.i64 ((↑i : Int) - (1 : Int)))) default).cust < (List.getD p.paths i default).cust))
  (Tree.done Exit.ret (LState.mk [(2, AVal.imm (IVal.v (Value.int IntKind.i64 (8 : Int))))] [] 144 33 []))
  (Tree.done Exit.normal
  (LState.mk [(5, AVal.imm (IVal.v (Value.int IntKind.i64 (IntKind.wrap IntKind.i64 ((↑i : Int) + (1 : Int)))))), (1, AVal.ptr 0 0)] [(0, Entry.box 26 (AVal.imm (encL p)))]
  144 35 []))))))
  (Tree.done Exit.normal
  (LState.mk [(5, AVal.imm (IVal.v (Value.int IntKind.i64 (IntKind.wrap IntKind.i64 ((↑i : Int) + (1 : Int)))))), (1, AVal.ptr 0 0)] [(0, Entry.box 26 (AVal.imm (encL p)))]
  144 35 []))))))
  (Tree.done (Exit.exit 4) (LState.mk [(1, AVal.ptr 0 0)] [(0, Entry.box 26 (AVal.imm (encL p)))] 144 6 [])) := by kernel_rfl
theorem l23c (p : Payload) (hl : p.paths.length ≤ 2 ^ 62) (σ : LState) (h : LSub σ (I23c p 0)) : LoopOk prog [] (bodyOf Proofs.Tryz.f23) 14 σ (L23c p) := by
  refine LoopOk.first (P23c p) p.paths.length 4 (I23c p) (R23c p) (E23c p) (T23cr p) fin23c (by kernel_rfl) h fun i hi hz => ?_
  rw [t23cr]
  refine ⟨fun h1 => need_sat (elem_need ?_) (need_sat ⟨ILeL.refl _, c42 _⟩ ⟨fun h2 => ?_, fun h2 => ⟨fun h3 => need_sat (elem_need ?_) (need_sat (elem_need ?_) (need_sat ⟨ILeL.refl _, c43 _ _⟩ ⟨fun h4 => ?_, fun h4 => ?_⟩)), fun h3 => ?_⟩⟩), fun h1 => ?_⟩
  · (refine ⟨by omega, ?_, ?_⟩ <;> (simp only [List.length_map, decide_eq_true_eq, decide_eq_false_iff_not, Int.toNat_natCast] at * <;> omega))
  · exact ⟨by (simp only [List.length_map, decide_eq_true_eq, decide_eq_false_iff_not, Int.toNat_natCast] at * <;> omega), by simp only [P23c, badAt, h2, Bool.true_or, goodT'], by simp [R23c, i64, LSub, tsub, ssub, tl, sl, linT, linS, ainB, ainBL]⟩
  · have e : IntKind.i64.wrap ((i : Int) - 1) = ((i - 1 : Nat) : Int) := by rw [IntWalk.i64_in _ (by (simp only [List.length_map, decide_eq_true_eq, decide_eq_false_iff_not, Int.toNat_natCast] at * <;> omega))]; (simp only [List.length_map, decide_eq_true_eq, decide_eq_false_iff_not, Int.toNat_natCast] at * <;> omega)
    exact ⟨by rw [e]; omega, by rw [e]; (simp only [List.length_map, decide_eq_true_eq, decide_eq_false_iff_not, Int.toNat_natCast] at * <;> omega), rfl⟩
  · (refine ⟨by omega, ?_, ?_⟩ <;> (simp only [List.length_map, decide_eq_true_eq, decide_eq_false_iff_not, Int.toNat_natCast] at * <;> omega))
  · have e : IntKind.i64.wrap ((i : Int) - 1) = ((i - 1 : Nat) : Int) := by rw [IntWalk.i64_in _ (by (simp only [List.length_map, decide_eq_true_eq, decide_eq_false_iff_not, Int.toNat_natCast] at * <;> omega))]; (simp only [List.length_map, decide_eq_true_eq, decide_eq_false_iff_not, Int.toNat_natCast] at * <;> omega)
    rw [e, Int.toNat_natCast] at h4
    have h3' : 0 < i := by (simp only [List.length_map, decide_eq_true_eq, decide_eq_false_iff_not, Int.toNat_natCast] at * <;> omega)
    exact ⟨by (simp only [List.length_map, decide_eq_true_eq, decide_eq_false_iff_not, Int.toNat_natCast] at * <;> omega), by simp only [P23c, badAt, h2, h4, decide_eq_true h3', Bool.and_self, Bool.or_true, befT, goodT'], by simp [R23c, i64, LSub, tsub, ssub, tl, sl, linT, linS, ainB, ainBL]⟩
  · have e : IntKind.i64.wrap ((i : Int) - 1) = ((i - 1 : Nat) : Int) := by rw [IntWalk.i64_in _ (by (simp only [List.length_map, decide_eq_true_eq, decide_eq_false_iff_not, Int.toNat_natCast] at * <;> omega))]; (simp only [List.length_map, decide_eq_true_eq, decide_eq_false_iff_not, Int.toNat_natCast] at * <;> omega)
    rw [e, Int.toNat_natCast] at h4
    exact ⟨by (simp only [List.length_map, decide_eq_true_eq, decide_eq_false_iff_not, Int.toNat_natCast] at * <;> omega), by simp only [P23c, badAt, h2, h4, Bool.and_false, Bool.or_self, befT, goodT'], by simp [I23c, i64, i64_small (n := i) (by (simp only [List.length_map, decide_eq_true_eq, decide_eq_false_iff_not, Int.toNat_natCast] at * <;> omega)) hl, LSub, tsub, ssub, tl, sl, linT, linS, ainB, ainBL]⟩
  · have h3' : ¬ 0 < i := by (simp only [List.length_map, decide_eq_true_eq, decide_eq_false_iff_not, Int.toNat_natCast] at * <;> omega)
    exact ⟨by (simp only [List.length_map, decide_eq_true_eq, decide_eq_false_iff_not, Int.toNat_natCast] at * <;> omega), by simp only [P23c, badAt, h2, decide_eq_false h3', Bool.false_and, Bool.or_self, goodT'], by simp [I23c, i64, i64_small (n := i) (by (simp only [List.length_map, decide_eq_true_eq, decide_eq_false_iff_not, Int.toNat_natCast] at * <;> omega)) hl, LSub, tsub, ssub, tl, sl, linT, linS, ainB, ainBL]⟩
  · exact ⟨rfl, by (simp only [List.length_map, decide_eq_true_eq, decide_eq_false_iff_not, Int.toNat_natCast] at * <;> omega), by simp [E23c, LSub, tsub, ssub, tl, sl, linT, linS, ainB, ainBL]⟩
def goodK' (k : RKey) : Bool := !decide (k.height < 0) && !decide (4 < k.height)
def P23d (p : Payload) (i : Nat) : Bool := badAt goodK' befK p.keys i
def I23d (p : Payload) (i : Nat) : LState := { t := [(6, .imm (i64 i)), (1, .ptr 0 0)], s := [(0, .box 26 (.imm (encL p)))], m := 144, n := 1 }
def R23d (p : Payload) (i : Nat) : LState := { t := [(2, .imm (i64 8))], s := [], m := 144, n := 1 }
def E23d (p : Payload) : LState := { t := [(1, .ptr 0 0)], s := [(0, .box 26 (.imm (encL p)))], m := 144, n := 1 }
def fin23d : Exit → Fin
  | .normal => ⟨[], [6, 1], [0]⟩
  | .ret => ⟨[], [2], []⟩
  | _ => ⟨[], [1], [0]⟩
def L23d (p : Payload) : Tree := Lfirst (P23d p) p.keys.length 6 (R23d p) (E23d p)
def T23dr (p : Payload) (i : Nat) : Tell :=
  Tell.mk (fun x x_1 => false) (fun x x_1 => Orc.no) (fun x => Tree.fail 1000003 0) (fun x => 0) (fun x => ([], []))
  (oget
  [(6, 21, 3, Orc.elem (encK (List.getD p.keys i default))), (14, 22, 14, Orc.elem (encK (List.getD p.keys (Int.toNat (IntKind.wrap IntKind.i64 ((↑i : Int) - (1 : Int)))) default))),
  (14, 22, 19, Orc.elem (encK (List.getD p.keys i default))),
  (14, 22, 21,
  Orc.call [encK (List.getD p.keys (Int.toNat (IntKind.wrap IntKind.i64 ((↑i : Int) - (1 : Int)))) default), encK (List.getD p.keys i default)]
  (bo (befK (List.getD p.keys (Int.toNat (IntKind.wrap IntKind.i64 ((↑i : Int) - (1 : Int)))) default) (List.getD p.keys i default))))])
  fun x x_1 => Tree.fail 1000003 0
theorem t23dr (p : Payload) (i : Nat) : levL prog Proofs.Tryz.f23 19 (I23d p i) (T23dr p i) fin23d =
  Tree.br (decide ((↑i : Int) < (↑(List.length (List.map encK p.keys)) : Int)))
  (Tree.need ((0 : Int) ≤ (↑i : Int) ∧ (List.map encK p.keys)[i]? = some (encK (List.getD p.keys i default)))
  (Tree.br (decide ((List.getD p.keys i default).height < (0 : Int))) (Tree.done Exit.ret (LState.mk [(2, AVal.imm (IVal.v (Value.int IntKind.i64 (8 : Int))))] [] 144 40 []))
  (Tree.br (decide ((4 : Int) < (List.getD p.keys i default).height)) (Tree.done Exit.ret (LState.mk [(2, AVal.imm (IVal.v (Value.int IntKind.i64 (8 : Int))))] [] 144 40 []))
  (Tree.br (decide ((0 : Int) < (↑i : Int)))
  (Tree.need
  ((0 : Int) ≤ IntKind.wrap IntKind.i64 ((↑i : Int) - (1 : Int)) ∧
  (List.map encK p.keys)[Int.toNat (IntKind.wrap IntKind.i64 ((↑i : Int) - (1 : Int)))]? = some (encK (List.getD p.keys (Int.toNat (IntKind.wrap IntKind.i64 ((↑i : Int) - (1 : Int)))) default)))
  (Tree.need ((0 : Int) ≤ (↑i : Int) ∧ (List.map encK p.keys)[i]? = some (encK (List.getD p.keys i default)))
  (Tree.need
  (ILeL [encK (List.getD p.keys (Int.toNat (IntKind.wrap IntKind.i64 ((↑i : Int) - (1 : Int)))) default), encK (List.getD p.keys i default)]
  [encK (List.getD p.keys (Int.toNat (IntKind.wrap IntKind.i64 ((↑i : Int) - (1 : Int)))) default), encK (List.getD p.keys i default)] ∧
  ASpec prog 44 [encK (List.getD p.keys (Int.toNat (IntKind.wrap IntKind.i64 ((↑i : Int) - (1 : Int)))) default), encK (List.getD p.keys i default)]
  (bo (befK (List.getD p.keys (Int.toNat (IntKind.wrap IntKind.i64 ((↑i : Int) - (1 : Int)))) default) (List.getD p.keys i default))))
  (Tree.br (!befK (List.getD p.keys (Int.toNat (IntKind.wrap IntKind.i64 ((↑i : Int) - (1 : Int)))) default) (List.getD p.keys i default))
  (Tree.done Exit.ret (LState.mk [(2, AVal.imm (IVal.v (Value.int IntKind.i64 (8 : Int))))] [] 144 40 []))
  (Tree.done Exit.normal
  (LState.mk [(6, AVal.imm (IVal.v (Value.int IntKind.i64 (IntKind.wrap IntKind.i64 ((↑i : Int) + (1 : Int)))))), (1, AVal.ptr 0 0)] [(0, Entry.box 26 (AVal.imm (encL p)))]
  144 42 []))))))
  (Tree.done Exit.normal
  (LState.mk [(6, AVal.imm (IVal.v (Value.int IntKind.i64 (IntKind.wrap IntKind.i64 ((↑i : Int) + (1 : Int)))))), (1, AVal.ptr 0 0)] [(0, Entry.box 26 (AVal.imm (encL p)))]
  144 42 []))))))
  (Tree.done (Exit.exit 6) (LState.mk [(1, AVal.ptr 0 0)] [(0, Entry.box 26 (AVal.imm (encL p)))] 144 6 [])) := by kernel_rfl
theorem l23d (p : Payload) (hl : p.keys.length ≤ 2 ^ 62) (σ : LState) (h : LSub σ (I23d p 0)) : LoopOk prog [] (bodyOf Proofs.Tryz.f23) 19 σ (L23d p) := by
  refine LoopOk.first (P23d p) p.keys.length 6 (I23d p) (R23d p) (E23d p) (T23dr p) fin23d (by kernel_rfl) h fun i hi hz => ?_
  rw [t23dr]
  refine ⟨fun h1 => need_sat (elem_need ?_) ⟨fun h2 => ?_, fun h2 => ⟨fun h3 => ?_, fun h3 => ⟨fun h4 => need_sat (elem_need ?_) (need_sat (elem_need ?_) (need_sat ⟨ILeL.refl _, c44 _ _⟩ ⟨fun h5 => ?_, fun h5 => ?_⟩)), fun h4 => ?_⟩⟩⟩, fun h1 => ?_⟩
  · (refine ⟨by omega, ?_, ?_⟩ <;> (simp only [List.length_map, decide_eq_true_eq, decide_eq_false_iff_not, Int.toNat_natCast] at * <;> omega))
  · exact ⟨by (simp only [List.length_map, decide_eq_true_eq, decide_eq_false_iff_not, Int.toNat_natCast] at * <;> omega), by simp only [P23d, badAt, goodK', h2, Bool.not_true, Bool.false_and, Bool.not_false, Bool.true_or], by simp [R23d, i64, LSub, tsub, ssub, tl, sl, linT, linS, ainB, ainBL]⟩
  · exact ⟨by (simp only [List.length_map, decide_eq_true_eq, decide_eq_false_iff_not, Int.toNat_natCast] at * <;> omega), by simp only [P23d, badAt, goodK', h2, h3, Bool.not_true, Bool.and_false, Bool.not_false, Bool.true_or], by simp [R23d, i64, LSub, tsub, ssub, tl, sl, linT, linS, ainB, ainBL]⟩
  · have e : IntKind.i64.wrap ((i : Int) - 1) = ((i - 1 : Nat) : Int) := by rw [IntWalk.i64_in _ (by (simp only [List.length_map, decide_eq_true_eq, decide_eq_false_iff_not, Int.toNat_natCast] at * <;> omega))]; (simp only [List.length_map, decide_eq_true_eq, decide_eq_false_iff_not, Int.toNat_natCast] at * <;> omega)
    exact ⟨by rw [e]; omega, by rw [e]; (simp only [List.length_map, decide_eq_true_eq, decide_eq_false_iff_not, Int.toNat_natCast] at * <;> omega), rfl⟩
  · (refine ⟨by omega, ?_, ?_⟩ <;> (simp only [List.length_map, decide_eq_true_eq, decide_eq_false_iff_not, Int.toNat_natCast] at * <;> omega))
  · have e : IntKind.i64.wrap ((i : Int) - 1) = ((i - 1 : Nat) : Int) := by rw [IntWalk.i64_in _ (by (simp only [List.length_map, decide_eq_true_eq, decide_eq_false_iff_not, Int.toNat_natCast] at * <;> omega))]; (simp only [List.length_map, decide_eq_true_eq, decide_eq_false_iff_not, Int.toNat_natCast] at * <;> omega)
    rw [e, Int.toNat_natCast] at h5
    have h3' : 0 < i := by (simp only [List.length_map, decide_eq_true_eq, decide_eq_false_iff_not, Int.toNat_natCast] at * <;> omega)
    exact ⟨by (simp only [List.length_map, decide_eq_true_eq, decide_eq_false_iff_not, Int.toNat_natCast] at * <;> omega), by simp only [P23d, badAt, goodK', h2, h3, h5, decide_eq_true h3', Bool.and_self, Bool.or_true], by simp [R23d, i64, LSub, tsub, ssub, tl, sl, linT, linS, ainB, ainBL]⟩
  · have e : IntKind.i64.wrap ((i : Int) - 1) = ((i - 1 : Nat) : Int) := by rw [IntWalk.i64_in _ (by (simp only [List.length_map, decide_eq_true_eq, decide_eq_false_iff_not, Int.toNat_natCast] at * <;> omega))]; (simp only [List.length_map, decide_eq_true_eq, decide_eq_false_iff_not, Int.toNat_natCast] at * <;> omega)
    rw [e, Int.toNat_natCast] at h5
    exact ⟨by (simp only [List.length_map, decide_eq_true_eq, decide_eq_false_iff_not, Int.toNat_natCast] at * <;> omega), by simp only [P23d, badAt, goodK', h2, h3, h5, Bool.and_false, Bool.not_false, Bool.and_self, Bool.not_true, Bool.or_self], by simp [I23d, i64, i64_small (n := i) (by (simp only [List.length_map, decide_eq_true_eq, decide_eq_false_iff_not, Int.toNat_natCast] at * <;> omega)) hl, LSub, tsub, ssub, tl, sl, linT, linS, ainB, ainBL]⟩
  · have h3' : ¬ 0 < i := by (simp only [List.length_map, decide_eq_true_eq, decide_eq_false_iff_not, Int.toNat_natCast] at * <;> omega)
    exact ⟨by (simp only [List.length_map, decide_eq_true_eq, decide_eq_false_iff_not, Int.toNat_natCast] at * <;> omega), by simp only [P23d, badAt, goodK', h2, h3, decide_eq_false h3', Bool.false_and, Bool.not_false, Bool.and_self, Bool.not_true, Bool.or_self], by simp [I23d, i64, i64_small (n := i) (by (simp only [List.length_map, decide_eq_true_eq, decide_eq_false_iff_not, Int.toNat_natCast] at * <;> omega)) hl, LSub, tsub, ssub, tl, sl, linT, linS, ainB, ainBL]⟩
  · exact ⟨rfl, by (simp only [List.length_map, decide_eq_true_eq, decide_eq_false_iff_not, Int.toNat_natCast] at * <;> omega), by simp [E23d, LSub, tsub, ssub, tl, sl, linT, linS, ainB, ainBL]⟩
def T23 (p : Payload) : Tell :=
  Tell.mk (fun x x_1 => false) (fun x x_1 => Orc.no)
  (fun k =>
  match k with
  | 4 => L23a p
  | 9 => L23b p
  | 14 => L23c p
  | x => L23d p)
  (fun x => 0)
  (fun k =>
  match k with
  | 4 => ([3, 1], [0])
  | 9 => ([4, 1], [0])
  | 14 => ([5, 1], [0])
  | x => ([6, 1], [0]))
  (fun x x_1 x_2 => Orc.no) fun x k =>
  match k with
  | 4 => L23a p
  | 9 => L23b p
  | 14 => L23c p
  | x => L23d p
theorem t23 (p : Payload) : levF prog Proofs.Tryz.f23 [encL p] (T23 p) =
  Tree.br (decide ((1000 : Int) < (↑(List.length (List.map encO p.origins)) : Int))) (Tree.done Exit.ret (lret (IVal.v (Value.int IntKind.i64 (4 : Int)))))
  (Tree.br (decide ((300 : Int) < (↑(List.length (List.map encT p.paths)) : Int))) (Tree.done Exit.ret (lret (IVal.v (Value.int IntKind.i64 (4 : Int)))))
  (Tree.br (decide ((100 : Int) < (↑(List.length (List.map encK p.keys)) : Int))) (Tree.done Exit.ret (lret (IVal.v (Value.int IntKind.i64 (4 : Int)))))
  (Tree.loop 4 (LState.mk [(3, AVal.imm (IVal.v (Value.int IntKind.i64 (0 : Int)))), (1, AVal.ptr 0 0)] [(0, Entry.box 26 (AVal.imm (encL p)))] 144 19 [])
  (Tree.br (anyI (P23a p) 0 (List.length p.paths)) (Tree.done Exit.ret (R23a p (firstI (P23a p) 0 (List.length p.paths)))) (Tree.done (Exit.exit 0) (E23a p)))
  (Tree.br (anyI (P23a p) 0 (List.length p.paths)) (Tree.done Exit.ret (lret (IVal.v (Value.int IntKind.i64 (4 : Int)))))
  (Tree.loop 9 (LState.mk [(4, AVal.imm (IVal.v (Value.int IntKind.i64 (0 : Int)))), (1, AVal.ptr 0 0)] [(0, Entry.box 26 (AVal.imm (encL p)))] 144 2 [])
  (Tree.br (anyI (P23b p) 0 (List.length p.origins)) (Tree.done Exit.ret (R23b p (firstI (P23b p) 0 (List.length p.origins)))) (Tree.done (Exit.exit 2) (E23b p)))
  (Tree.br (anyI (P23b p) 0 (List.length p.origins)) (Tree.done Exit.ret (lret (IVal.v (Value.int IntKind.i64 (8 : Int)))))
  (Tree.loop 14 (LState.mk [(5, AVal.imm (IVal.v (Value.int IntKind.i64 (0 : Int)))), (1, AVal.ptr 0 0)] [(0, Entry.box 26 (AVal.imm (encL p)))] 144 2 [])
  (Tree.br (anyI (P23c p) 0 (List.length p.paths)) (Tree.done Exit.ret (R23c p (firstI (P23c p) 0 (List.length p.paths)))) (Tree.done (Exit.exit 4) (E23c p)))
  (Tree.br (anyI (P23c p) 0 (List.length p.paths)) (Tree.done Exit.ret (lret (IVal.v (Value.int IntKind.i64 (8 : Int)))))
  (Tree.loop 19
  (LState.mk [(6, AVal.imm (IVal.v (Value.int IntKind.i64 (0 : Int)))), (1, AVal.ptr 0 0)] [(0, Entry.box 26 (AVal.imm (encL p)))] 144 2 [])
  (Tree.br (anyI (P23d p) 0 (List.length p.keys)) (Tree.done Exit.ret (R23d p (firstI (P23d p) 0 (List.length p.keys)))) (Tree.done (Exit.exit 6) (E23d p)))
  (Tree.br (anyI (P23d p) 0 (List.length p.keys)) (Tree.done Exit.ret (lret (IVal.v (Value.int IntKind.i64 (8 : Int))))) (Tree.done Exit.ret (lret (IVal.v (Value.int IntKind.i64 (0 : Int))))))))))))))) := by kernel_rfl
def ckL' (p : Payload) : Int :=
  if 1000 < p.origins.length ∨ 300 < p.paths.length ∨ 100 < p.keys.length ∨ anyI (P23a p) 0 p.paths.length = true then 4
  else if anyI (P23b p) 0 p.origins.length = true ∨ anyI (P23c p) 0 p.paths.length = true ∨ anyI (P23d p) 0 p.keys.length = true then 8 else 0
theorem c23 (p : Payload) : ASpec prog 23 [encL p] (i64 (ckL' p)) := by
  refine ASpec.treeW Proofs.Tryz.f23 (T23 p) (by kernel_rfl) (by kernel_rfl) (t23 p) ?_
  refine ⟨fun h1 => ⟨_, rfl, ?_⟩, fun h1 => ⟨fun h2 => ⟨_, rfl, ?_⟩, fun h2 => ⟨fun h3 => ⟨_, rfl, ?_⟩, fun h3 => ⟨?_, ⟨fun h4 => ⟨_, rfl, ?_⟩, fun h4 => ⟨?_, ⟨fun h5 => ⟨_, rfl, ?_⟩, fun h5 => ⟨?_, ⟨fun h6 => ⟨_, rfl, ?_⟩, fun h6 => ⟨?_, ⟨fun h7 => ⟨_, rfl, ?_⟩, fun h7 => ⟨_, rfl, ?_⟩⟩⟩⟩⟩⟩⟩⟩⟩⟩⟩⟩
  all_goals simp only [decide_eq_true_eq, decide_eq_false_iff_not, List.length_map] at *
  · exact ile_i64 (by unfold ckL'; rw [if_pos (.inl (by omega))])
  · exact ile_i64 (by unfold ckL'; rw [if_pos (.inr (.inl (by omega)))])
  · exact ile_i64 (by unfold ckL'; rw [if_pos (.inr (.inr (.inl (by omega))))])
  · exact l23a p (by omega) _ ⟨⟨rfl, rfl, trivial⟩, ⟨rfl, trivial⟩, rfl, rfl, rfl⟩
  · exact ile_i64 (by unfold ckL'; rw [if_pos (.inr (.inr (.inr h4)))])
  · exact l23b p (by omega) _ ⟨⟨rfl, rfl, trivial⟩, ⟨rfl, trivial⟩, rfl, rfl, rfl⟩
  all_goals have hn : ¬ (1000 < p.origins.length ∨ 300 < p.paths.length ∨ 100 < p.keys.length ∨ anyI (P23a p) 0 p.paths.length = true) := by rw [h4]; simp; omega
  · exact ile_i64 (by unfold ckL'; rw [if_neg hn, if_pos (.inl h5)])
  · exact l23c p (by omega) _ ⟨⟨rfl, rfl, trivial⟩, ⟨rfl, trivial⟩, rfl, rfl, rfl⟩
  · exact ile_i64 (by unfold ckL'; rw [if_neg hn, if_pos (.inr (.inl h6))])
  · exact l23d p (by omega) _ ⟨⟨rfl, rfl, trivial⟩, ⟨rfl, trivial⟩, rfl, rfl, rfl⟩
  · exact ile_i64 (by unfold ckL'; rw [if_neg hn, if_pos (.inr (.inr h7))])
  · exact ile_i64 (by
      unfold ckL'; rw [if_neg hn, if_neg]
      rw [h5, h6, h7]; simp)
end Gp
