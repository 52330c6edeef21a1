/- Part 7 of the walk and of the plain law of DiffApplies. -/
import Derived.Test.YtcccdohpepnfjaaGreatW6
import Derived.Shelf.Spec.SlicesGrow
set_option maxRecDepth 100000
set_option maxHeartbeats 0
set_option linter.unusedVariables false
set_option linter.unusedSimpArgs false
open Go Go.Abs
namespace Gp
theorem heap_alloc_size (w : World) (o : Obj) : (w.alloc o).heap.size = w.heap.size + 1 := by simp
def renGO : Shelf.Ren := ⟨fun x => match x with | 4 => 108 | n => n, fun x => match x with | 22 => 22 | 25 => 68 | n => n, fun n => n⟩
theorem growXO : Proofs.Lays8.n4 prog renGO where
  mixed := by kernel_rfl
  f4 := ⟨"slices.Grow[[]gatepath/api.Origin,gatepath/api.Origin]", by decide, Proofs.Tryz.func108.trans (congrArg some (by kernel_rfl))⟩
  t0 := Proofs.Tryz.underlying0
  a0 := Proofs.Tryz.isAgg0
  z0 := Proofs.Tryz.sizeOf0
  v0 := Proofs.Tryz.zeroValue0
  t3 := Proofs.Tryz.underlying3
  a3 := Proofs.Tryz.isAgg3
  z3 := Proofs.Tryz.sizeOf3
  v3 := Proofs.Tryz.zeroValue3
  t4 := Proofs.Tryz.underlying4
  a4 := Proofs.Tryz.isAgg4
  z4 := Proofs.Tryz.sizeOf4
  v4 := Proofs.Tryz.zeroValue4
  t9 := Proofs.Tryz.underlying9
  a9 := Proofs.Tryz.isAgg9
  z9 := Proofs.Tryz.sizeOf9
  v9 := Proofs.Tryz.zeroValue9
  t20 := Proofs.Tryz.underlying20
  a20 := Proofs.Tryz.isAgg20
  z20 := Proofs.Tryz.sizeOf20
  v20 := Proofs.Tryz.zeroValue20
  t22 := Proofs.Tryz.underlying22
  a22 := Proofs.Tryz.isAgg22
  z22 := Proofs.Tryz.sizeOf22
  v22 := Proofs.Tryz.zeroValue22
theorem o108 (n : Nat) (hn : n ≤ 1000000) : OSpec prog 108 [.v (.slice none 0 0), i64 n] 68 6 [] := by
  refine ⟨by kernel_rfl, fun w F vs hF hcol hargs => ?_⟩
  have hvs : vs = #[.slice none 0 0, .int .i64 n] := by
    rw [IRepL] at hargs
    obtain ⟨u, us, h1, h2, h3⟩ := hargs
    rw [IRepL] at h3
    obtain ⟨u', us', h4, h5, h6⟩ := h3
    rw [IRepL] at h6
    rw [IRep] at h2
    rw [i64, IRep] at h5
    rw [← Array.toList_inj, h1, h4, h6, h2.1, h5.1]
  subst hvs
  by_cases h0 : n = 0
  · subst h0
    refine (Proofs.Any8.slices_Grow_room growXO none 0 0 0 w (by omega) (by omega) (by omega) (by omega)).mono ?_
    rintro e w' ⟨rfl, rfl⟩
    exact ⟨⟨0, 0, 0, true⟩, F, rfl, ⟨rfl, rfl, rfl, Nat.le_refl _, fun _ _ => rfl⟩, fun _ _ h => h, fun _ _ h => .inl h, hF, hcol, .inl ⟨rfl, rfl⟩, fun h => by cases h⟩
  · obtain ⟨i0, z, hi0, hs0, hk0, hb0, hz0, hzc⟩ := tel_spec (show tel prog 68 6 = true by kernel_rfl)
    refine (Proofs.Any8.slices_Grow_grow growXO i0 z hi0 hz0 (by omega) none 0 0 n [] w (by omega) (by omega) ?_ (by omega) (by simp) (fun _ => rfl) (fun a h => by cases h)).mono ?_
    · have : n * i0.bytes ≤ 1000000 * 65536 := Nat.mul_le_mul hn hb0
      rw [Nat.zero_add]; omega
    rintro e w' ⟨rfl, rfl⟩
    rw [Nat.zero_add]
    have hge : n ≤ grownCap w n 0 68 := grownCap_ge w _ _ _
    refine ⟨⟨w.heap.size, 0, grownCap w n 0 68, false⟩, F, rfl, ⟨rfl, rfl, rfl, by rw [heap_alloc_size]; exact Nat.le_succ _, fun b hb => ?_⟩, fun _ _ h => h, fun _ _ h => .inl h, fun c b h => ?_, hcol, .inr ⟨rfl, #[] ++ Builtin.zeroCells z.cells (n - 0) ++ Builtin.zeroCells z.cells (grownCap w n 0 68 - n), (0, 0), [], ?_, ?_, ?_, Nat.zero_le _, rfl, trivial⟩, fun _ => ⟨Nat.le_refl _, fun c h => ?_⟩⟩
    · exact heap_alloc_old w.drew _ hb
    · have := hF c b h; rw [heap_alloc_size]; show b < w.heap.size + 1; omega
    · exact heap_alloc_new w.drew _
    · intro j _; simp
    · simp only [Array.size_append, size_zeroCells, hzc, Nat.sub_zero]
      have : grownCap w n 0 68 * 6 = n * 6 + (grownCap w n 0 68 - n) * 6 := by rw [← Nat.add_mul]; congr 1; omega
      simp; omega
    · have := hF c w.heap.size h; omega
theorem o108' (n : Int) (h0 : 0 ≤ n) (hn : n ≤ 1000000) : OSpec prog 108 [.v (.slice none 0 0), i64 n] 68 6 [] := by
  obtain ⟨n, rfl⟩ := Int.eq_ofNat_of_zero_le h0
  exact o108 n (by omega)
def T89 (A B : List Origin) : Tell :=
  Tell.mk (fun x x_1 => false) (fun x x_1 => Orc.no) (fun x => Tree.fail 1000003 0) (fun x => 3) (fun x => ([], []))
  (oget
  [(6, 4, 0, Orc.ext [] (IVal.tup [])), (19, 4, 0, Orc.ext [] (IVal.tup [])),
  (32, 9, 1,
  Orc.callo [IVal.v (Value.slice none 0 0), i64 (IntKind.wrap IntKind.i64 (IntKind.wrap IntKind.i64 ((0 : Int) + (↑(List.length (List.map encO A)) : Int)) + (↑(List.length (List.map encO B)) : Int)))] 68
  6 []),
  (39, 12, 0, Orc.ext [] (IVal.tup [])), (49, 12, 0, Orc.ext [] (IVal.tup []))])
  fun x x_1 => Tree.fail 1000003 0
theorem t89 (A B : List Origin) : levO prog Proofs.Tryz.f89 [.sl false false 1 [slE 6 encO A, slE 6 encO B]] (T89 A B) =
  Tree.br true
  (Tree.br (decide (IntKind.wrap IntKind.i64 ((0 : Int) + (↑(List.length (List.map encO A)) : Int)) < (0 : Int))) (Tree.fail 7 0)
  (Tree.br true
  (Tree.br (decide (IntKind.wrap IntKind.i64 (IntKind.wrap IntKind.i64 ((0 : Int) + (↑(List.length (List.map encO A)) : Int)) + (↑(List.length (List.map encO B)) : Int)) < (0 : Int))) (Tree.fail 7 0)
  (Tree.br false
  (Tree.stop
  (LState.mk
  [(12, AVal.imm (IVal.v (Value.bool false))), (11, AVal.imm (IVal.v (Value.int IntKind.i64 (2 : Int)))), (22, AVal.imm (IVal.v (Value.int IntKind.i64 (2 : Int)))),
  (20, AVal.imm (IVal.v (Value.bool (decide (IntKind.wrap IntKind.i64 (IntKind.wrap IntKind.i64 ((0 : Int) + (↑(List.length (List.map encO A)) : Int)) + (↑(List.length (List.map encO B)) : Int)) < (0 : Int)))))),
  (19, AVal.imm (IVal.v (Value.int IntKind.i64 (IntKind.wrap IntKind.i64 (IntKind.wrap IntKind.i64 ((0 : Int) + (↑(List.length (List.map encO A)) : Int)) + (↑(List.length (List.map encO B)) : Int)))))),
  (3, AVal.imm (IVal.v (Value.int IntKind.i64 (IntKind.wrap IntKind.i64 (IntKind.wrap IntKind.i64 ((0 : Int) + (↑(List.length (List.map encO A)) : Int)) + (↑(List.length (List.map encO B)) : Int)))))),
  (18, AVal.imm (IVal.v (Value.int IntKind.i64 (IntKind.wrap IntKind.i64 (IntKind.wrap IntKind.i64 ((0 : Int) + (↑(List.length (List.map encO A)) : Int)) + (↑(List.length (List.map encO B)) : Int)))))),
  (17, AVal.imm (IVal.v (Value.int IntKind.i64 (↑(List.length (List.map encO B)) : Int)))), (16, AVal.imm (slE 6 encO B)),
  (15, AVal.imm (IVal.v (Value.int IntKind.i64 (IntKind.wrap IntKind.i64 ((0 : Int) + (↑(List.length (List.map encO A)) : Int)))))), (5, AVal.imm (slE 6 encO B)),
  (14, AVal.imm (slE 6 encO B)), (13, AVal.ref false (slE 6 encO B) 0), (10, AVal.imm (IVal.v (Value.int IntKind.i64 (2 : Int)))),
  (9, AVal.imm (IVal.sl false false 1 [slE 6 encO A, slE 6 encO B])), (2, AVal.imm (IVal.v (Value.slice none 0 0))),
  (0, AVal.imm (IVal.sl false false 1 [slE 6 encO A, slE 6 encO B]))]
  [] 36 32 [])
  4 0 (Op.indexAddr 145 (Operand.tmp 9) (Operand.tmp 11)))
  (Tree.need
  (ILeL
  [IVal.v (Value.slice none 0 0),
  IVal.v (Value.int IntKind.i64 (IntKind.wrap IntKind.i64 (IntKind.wrap IntKind.i64 ((0 : Int) + (↑(List.length (List.map encO A)) : Int)) + (↑(List.length (List.map encO B)) : Int))))]
  [IVal.v (Value.slice none 0 0), i64 (IntKind.wrap IntKind.i64 (IntKind.wrap IntKind.i64 ((0 : Int) + (↑(List.length (List.map encO A)) : Int)) + (↑(List.length (List.map encO B)) : Int)))] ∧
  OSpec prog 108
  [IVal.v (Value.slice none 0 0), i64 (IntKind.wrap IntKind.i64 (IntKind.wrap IntKind.i64 ((0 : Int) + (↑(List.length (List.map encO A)) : Int)) + (↑(List.length (List.map encO B)) : Int)))] 68
  6 [])
  (Tree.br true
  (Tree.need (0 = 0 ∧ true = true ∧ cellsOk (List.map encO A) = true ∧ 0 + List.length (List.map encO A) ≤ 1000000)
  (Tree.br true
  (Tree.need
  (List.length ([] ++ List.map encO A) = 0 + List.length (List.map encO A) ∧
  cellsOk ([] ++ List.map encO A) = true ∧ cellsOk (List.map encO B) = true ∧ 0 + List.length (List.map encO A) + List.length (List.map encO B) ≤ 1000000)
  (Tree.br false
  (Tree.stop
  (LState.mk
  [(28, AVal.imm (IVal.v (Value.bool false))), (27, AVal.imm (IVal.v (Value.int IntKind.i64 (2 : Int)))), (34, AVal.imm (IVal.v (Value.int IntKind.i64 (2 : Int)))),
  (6, AVal.own 54 (0 + List.length (List.map encO A) + List.length (List.map encO B))),
  (33, AVal.own 54 (0 + List.length (List.map encO A) + List.length (List.map encO B))), (32, AVal.imm (slE 6 encO B)),
  (31, AVal.own 44 (0 + List.length (List.map encO A))), (8, AVal.imm (slE 6 encO B)), (30, AVal.imm (slE 6 encO B)),
  (29, AVal.ref false (slE 6 encO B) 0), (26, AVal.imm (IVal.v (Value.int IntKind.i64 (2 : Int)))),
  (25, AVal.imm (IVal.sl false false 1 [slE 6 encO A, slE 6 encO B])), (24, AVal.own 33 0),
  (23, AVal.imm (IVal.v (Value.int IntKind.i64 (IntKind.wrap IntKind.i64 (IntKind.wrap IntKind.i64 ((0 : Int) + (↑(List.length (List.map encO A)) : Int)) + (↑(List.length (List.map encO B)) : Int)))))),
  (12, AVal.imm (IVal.v (Value.bool false))), (11, AVal.imm (IVal.v (Value.int IntKind.i64 (2 : Int)))), (22, AVal.imm (IVal.v (Value.int IntKind.i64 (2 : Int)))),
  (20,
  AVal.imm (IVal.v (Value.bool (decide (IntKind.wrap IntKind.i64 (IntKind.wrap IntKind.i64 ((0 : Int) + (↑(List.length (List.map encO A)) : Int)) + (↑(List.length (List.map encO B)) : Int)) < (0 : Int)))))),
  (19, AVal.imm (IVal.v (Value.int IntKind.i64 (IntKind.wrap IntKind.i64 (IntKind.wrap IntKind.i64 ((0 : Int) + (↑(List.length (List.map encO A)) : Int)) + (↑(List.length (List.map encO B)) : Int)))))),
  (3, AVal.imm (IVal.v (Value.int IntKind.i64 (IntKind.wrap IntKind.i64 (IntKind.wrap IntKind.i64 ((0 : Int) + (↑(List.length (List.map encO A)) : Int)) + (↑(List.length (List.map encO B)) : Int)))))),
  (18, AVal.imm (IVal.v (Value.int IntKind.i64 (IntKind.wrap IntKind.i64 (IntKind.wrap IntKind.i64 ((0 : Int) + (↑(List.length (List.map encO A)) : Int)) + (↑(List.length (List.map encO B)) : Int)))))),
  (17, AVal.imm (IVal.v (Value.int IntKind.i64 (↑(List.length (List.map encO B)) : Int)))), (16, AVal.imm (slE 6 encO B)),
  (15, AVal.imm (IVal.v (Value.int IntKind.i64 (IntKind.wrap IntKind.i64 ((0 : Int) + (↑(List.length (List.map encO A)) : Int)))))), (5, AVal.imm (slE 6 encO B)),
  (14, AVal.imm (slE 6 encO B)), (13, AVal.ref false (slE 6 encO B) 0), (10, AVal.imm (IVal.v (Value.int IntKind.i64 (2 : Int)))),
  (9, AVal.imm (IVal.sl false false 1 [slE 6 encO A, slE 6 encO B])), (2, AVal.imm (IVal.v (Value.slice none 0 0))),
  (0, AVal.imm (IVal.sl false false 1 [slE 6 encO A, slE 6 encO B]))]
  [(54, Entry.row 68 6 ([] ++ List.map encO A ++ List.map encO B))] 36 59 [])
  12 0 (Op.indexAddr 145 (Operand.tmp 25) (Operand.tmp 27)))
  (Tree.need (List.length ([] ++ List.map encO A ++ List.map encO B) = 0 + List.length (List.map encO A) + List.length (List.map encO B))
  (Tree.done Exit.ret (lretO 68 6 ([] ++ List.map encO A ++ List.map encO B))))))
  (Tree.need (List.length ([] ++ List.map encO A) = 0 + List.length (List.map encO A)) (Tree.done Exit.ret (lretO 68 6 ([] ++ List.map encO A))))))
  (Tree.need (0 = 0) (Tree.done Exit.ret (lretO 68 6 [])))))))
  (Tree.stop
  (LState.mk
  [(23, AVal.imm (IVal.v (Value.int IntKind.i64 (IntKind.wrap IntKind.i64 ((0 : Int) + (↑(List.length (List.map encO A)) : Int)))))), (12, AVal.imm (IVal.v (Value.bool true))),
  (11, AVal.imm (IVal.v (Value.int IntKind.i64 (1 : Int)))), (22, AVal.imm (IVal.v (Value.int IntKind.i64 (1 : Int)))),
  (20, AVal.imm (IVal.v (Value.bool (decide (IntKind.wrap IntKind.i64 ((0 : Int) + (↑(List.length (List.map encO A)) : Int)) < (0 : Int)))))),
  (19, AVal.imm (IVal.v (Value.int IntKind.i64 (IntKind.wrap IntKind.i64 ((0 : Int) + (↑(List.length (List.map encO A)) : Int)))))),
  (3, AVal.imm (IVal.v (Value.int IntKind.i64 (IntKind.wrap IntKind.i64 ((0 : Int) + (↑(List.length (List.map encO A)) : Int)))))),
  (18, AVal.imm (IVal.v (Value.int IntKind.i64 (IntKind.wrap IntKind.i64 ((0 : Int) + (↑(List.length (List.map encO A)) : Int)))))),
  (17, AVal.imm (IVal.v (Value.int IntKind.i64 (↑(List.length (List.map encO A)) : Int)))), (16, AVal.imm (slE 6 encO A)), (15, AVal.imm (IVal.v (Value.int IntKind.i64 (0 : Int)))),
  (5, AVal.imm (slE 6 encO A)), (14, AVal.imm (slE 6 encO A)), (13, AVal.ref false (slE 6 encO A) 0), (10, AVal.imm (IVal.v (Value.int IntKind.i64 (2 : Int)))),
  (9, AVal.imm (IVal.sl false false 1 [slE 6 encO A, slE 6 encO B])), (2, AVal.imm (IVal.v (Value.slice none 0 0))),
  (0, AVal.imm (IVal.sl false false 1 [slE 6 encO A, slE 6 encO B]))]
  [] 36 19 [])
  9 1 (Op.call (Call.mk (Callee.value (Operand.func 108)) (Array.mk [Operand.const (Value.slice none 0 0), Operand.tmp 23]) (Array.mk [22, 3]))))))
  (Tree.stop
  (LState.mk
  [(23, AVal.imm (IVal.v (Value.int IntKind.i64 (0 : Int)))), (12, AVal.imm (IVal.v (Value.bool true))), (11, AVal.imm (IVal.v (Value.int IntKind.i64 (0 : Int)))),
  (10, AVal.imm (IVal.v (Value.int IntKind.i64 (2 : Int)))), (9, AVal.imm (IVal.sl false false 1 [slE 6 encO A, slE 6 encO B])), (3, AVal.imm (IVal.v (Value.int IntKind.i64 (0 : Int)))),
  (2, AVal.imm (IVal.v (Value.slice none 0 0))), (0, AVal.imm (IVal.sl false false 1 [slE 6 encO A, slE 6 encO B]))]
  [] 36 6 [])
  9 1 (Op.call (Call.mk (Callee.value (Operand.func 108)) (Array.mk [Operand.const (Value.slice none 0 0), Operand.tmp 23]) (Array.mk [22, 3])))) := by kernel_rfl
theorem o89 (A B : List Origin) (hA : A.length ≤ 400000) (hB : B.length ≤ 400000) : OSpec prog 89 [.sl false false 1 [slE 6 encO A, slE 6 encO B]] 68 6 ((A ++ B).map encO) := by
  have e1 : IntKind.i64.wrap ((0 : Int) + ((A.map encO).length : Int)) = (A.length : Int) := by rw [List.length_map, IntWalk.i64_in _ (by omega)]; omega
  have e2 : IntKind.i64.wrap ((A.length : Int) + ((B.map encO).length : Int)) = ((A.length + B.length : Nat) : Int) := by rw [List.length_map, IntWalk.i64_in _ (by omega)]; omega
  refine OSpec.tree Proofs.Tryz.f89 (T89 A B) (by kernel_rfl) (by kernel_rfl) ?_
  rw [t89]
  simp only [e1, e2]
  refine ⟨fun _ => ⟨fun h1 => ?_, fun h1 => ⟨fun _ => ⟨fun h2 => ?_, fun h2 => ⟨fun h => (by cases h), fun _ => need_sat ⟨ILeL.refl _, o108' _ ?_ ?_⟩ ⟨fun _ => need_sat ?_ ⟨fun _ => need_sat ?_ ⟨fun h => (by cases h), fun _ => need_sat ?_ (lretO_ex ?_)⟩, fun h => (by cases h)⟩, fun h => (by cases h)⟩⟩⟩, fun h => (by cases h)⟩⟩, fun h => (by cases h)⟩
  · simp at h1; omega
  · simp at h2; omega
  · omega
  · omega
  · exact ⟨trivial, trivial, cellsOk_map encO (fun _ => rfl) _, by simp; omega⟩
  · exact ⟨by simp, cellsOk_map encO (fun _ => rfl) _, cellsOk_map encO (fun _ => rfl) _, by simp; omega⟩
  · simp
  · simp
def renGT : Shelf.Ren := ⟨fun x => match x with | 4 => 110 | n => n, fun x => match x with | 22 => 23 | 25 => 57 | n => n, fun n => n⟩
theorem growXT : Proofs.Lays8.n4 prog renGT where
  mixed := by kernel_rfl
  f4 := ⟨"slices.Grow[[]gatepath/api.Attest,gatepath/api.Attest]", by decide, Proofs.Tryz.func110.trans (congrArg some (by kernel_rfl))⟩
  t0 := Proofs.Tryz.underlying0
  a0 := Proofs.Tryz.isAgg0
  z0 := Proofs.Tryz.sizeOf0
  v0 := Proofs.Tryz.zeroValue0
  t3 := Proofs.Tryz.underlying3
  a3 := Proofs.Tryz.isAgg3
  z3 := Proofs.Tryz.sizeOf3
  v3 := Proofs.Tryz.zeroValue3
  t4 := Proofs.Tryz.underlying4
  a4 := Proofs.Tryz.isAgg4
  z4 := Proofs.Tryz.sizeOf4
  v4 := Proofs.Tryz.zeroValue4
  t9 := Proofs.Tryz.underlying9
  a9 := Proofs.Tryz.isAgg9
  z9 := Proofs.Tryz.sizeOf9
  v9 := Proofs.Tryz.zeroValue9
  t20 := Proofs.Tryz.underlying20
  a20 := Proofs.Tryz.isAgg20
  z20 := Proofs.Tryz.sizeOf20
  v20 := Proofs.Tryz.zeroValue20
  t22 := Proofs.Tryz.underlying23
  a22 := Proofs.Tryz.isAgg23
  z22 := Proofs.Tryz.sizeOf23
  v22 := Proofs.Tryz.zeroValue23
theorem o110 (n : Nat) (hn : n ≤ 1000000) : OSpec prog 110 [.v (.slice none 0 0), i64 n] 57 2 [] := by
  refine ⟨by kernel_rfl, fun w F vs hF hcol hargs => ?_⟩
  have hvs : vs = #[.slice none 0 0, .int .i64 n] := by
    rw [IRepL] at hargs
    obtain ⟨u, us, h1, h2, h3⟩ := hargs
    rw [IRepL] at h3
    obtain ⟨u', us', h4, h5, h6⟩ := h3
    rw [IRepL] at h6
    rw [IRep] at h2
    rw [i64, IRep] at h5
    rw [← Array.toList_inj, h1, h4, h6, h2.1, h5.1]
  subst hvs
  by_cases h0 : n = 0
  · subst h0
    refine (Proofs.Any8.slices_Grow_room growXT none 0 0 0 w (by omega) (by omega) (by omega) (by omega)).mono ?_
    rintro e w' ⟨rfl, rfl⟩
    exact ⟨⟨0, 0, 0, true⟩, F, rfl, ⟨rfl, rfl, rfl, Nat.le_refl _, fun _ _ => rfl⟩, fun _ _ h => h, fun _ _ h => .inl h, hF, hcol, .inl ⟨rfl, rfl⟩, fun h => by cases h⟩
  · obtain ⟨i0, z, hi0, hs0, hk0, hb0, hz0, hzc⟩ := tel_spec (show tel prog 57 2 = true by kernel_rfl)
    refine (Proofs.Any8.slices_Grow_grow growXT i0 z hi0 hz0 (by omega) none 0 0 n [] w (by omega) (by omega) ?_ (by omega) (by simp) (fun _ => rfl) (fun a h => by cases h)).mono ?_
    · have : n * i0.bytes ≤ 1000000 * 65536 := Nat.mul_le_mul hn hb0
      rw [Nat.zero_add]; omega
    rintro e w' ⟨rfl, rfl⟩
    rw [Nat.zero_add]
    have hge : n ≤ grownCap w n 0 57 := grownCap_ge w _ _ _
    refine ⟨⟨w.heap.size, 0, grownCap w n 0 57, false⟩, F, rfl, ⟨rfl, rfl, rfl, by rw [heap_alloc_size]; exact Nat.le_succ _, fun b hb => ?_⟩, fun _ _ h => h, fun _ _ h => .inl h, fun c b h => ?_, hcol, .inr ⟨rfl, #[] ++ Builtin.zeroCells z.cells (n - 0) ++ Builtin.zeroCells z.cells (grownCap w n 0 57 - n), (0, 0), [], ?_, ?_, ?_, Nat.zero_le _, rfl, trivial⟩, fun _ => ⟨Nat.le_refl _, fun c h => ?_⟩⟩
    · exact heap_alloc_old w.drew _ hb
    · have := hF c b h; rw [heap_alloc_size]; show b < w.heap.size + 1; omega
    · exact heap_alloc_new w.drew _
    · intro j _; simp
    · simp only [Array.size_append, size_zeroCells, hzc, Nat.sub_zero]
      have : grownCap w n 0 57 * 2 = n * 2 + (grownCap w n 0 57 - n) * 2 := by rw [← Nat.add_mul]; congr 1; omega
      simp; omega
    · have := hF c w.heap.size h; omega
theorem o110' (n : Int) (h0 : 0 ≤ n) (hn : n ≤ 1000000) : OSpec prog 110 [.v (.slice none 0 0), i64 n] 57 2 [] := by
  obtain ⟨n, rfl⟩ := Int.eq_ofNat_of_zero_le h0
  exact o110 n (by omega)
def T91 (A B : List Attest) : Tell :=
  Tell.mk (fun x x_1 => false) (fun x x_1 => Orc.no) (fun x => Tree.fail 1000003 0) (fun x => 3) (fun x => ([], []))
  (oget
  [(6, 4, 0, Orc.ext [] (IVal.tup [])), (19, 4, 0, Orc.ext [] (IVal.tup [])),
  (32, 9, 1,
  Orc.callo [IVal.v (Value.slice none 0 0), i64 (IntKind.wrap IntKind.i64 (IntKind.wrap IntKind.i64 ((0 : Int) + (↑(List.length (List.map encT A)) : Int)) + (↑(List.length (List.map encT B)) : Int)))] 57
  2 []),
  (39, 12, 0, Orc.ext [] (IVal.tup [])), (49, 12, 0, Orc.ext [] (IVal.tup []))])
  fun x x_1 => Tree.fail 1000003 0
theorem t91 (A B : List Attest) : levO prog Proofs.Tryz.f91 [.sl false false 1 [slE 2 encT A, slE 2 encT B]] (T91 A B) =
  Tree.br true
  (Tree.br (decide (IntKind.wrap IntKind.i64 ((0 : Int) + (↑(List.length (List.map encT A)) : Int)) < (0 : Int))) (Tree.fail 7 0)
  (Tree.br true
  (Tree.br (decide (IntKind.wrap IntKind.i64 (IntKind.wrap IntKind.i64 ((0 : Int) + (↑(List.length (List.map encT A)) : Int)) + (↑(List.length (List.map encT B)) : Int)) < (0 : Int))) (Tree.fail 7 0)
  (Tree.br false
  (Tree.stop
  (LState.mk
  [(12, AVal.imm (IVal.v (Value.bool false))), (11, AVal.imm (IVal.v (Value.int IntKind.i64 (2 : Int)))), (22, AVal.imm (IVal.v (Value.int IntKind.i64 (2 : Int)))),
  (20, AVal.imm (IVal.v (Value.bool (decide (IntKind.wrap IntKind.i64 (IntKind.wrap IntKind.i64 ((0 : Int) + (↑(List.length (List.map encT A)) : Int)) + (↑(List.length (List.map encT B)) : Int)) < (0 : Int)))))),
  (19, AVal.imm (IVal.v (Value.int IntKind.i64 (IntKind.wrap IntKind.i64 (IntKind.wrap IntKind.i64 ((0 : Int) + (↑(List.length (List.map encT A)) : Int)) + (↑(List.length (List.map encT B)) : Int)))))),
  (3, AVal.imm (IVal.v (Value.int IntKind.i64 (IntKind.wrap IntKind.i64 (IntKind.wrap IntKind.i64 ((0 : Int) + (↑(List.length (List.map encT A)) : Int)) + (↑(List.length (List.map encT B)) : Int)))))),
  (18, AVal.imm (IVal.v (Value.int IntKind.i64 (IntKind.wrap IntKind.i64 (IntKind.wrap IntKind.i64 ((0 : Int) + (↑(List.length (List.map encT A)) : Int)) + (↑(List.length (List.map encT B)) : Int)))))),
  (17, AVal.imm (IVal.v (Value.int IntKind.i64 (↑(List.length (List.map encT B)) : Int)))), (16, AVal.imm (slE 2 encT B)),
  (15, AVal.imm (IVal.v (Value.int IntKind.i64 (IntKind.wrap IntKind.i64 ((0 : Int) + (↑(List.length (List.map encT A)) : Int)))))), (5, AVal.imm (slE 2 encT B)),
  (14, AVal.imm (slE 2 encT B)), (13, AVal.ref false (slE 2 encT B) 0), (10, AVal.imm (IVal.v (Value.int IntKind.i64 (2 : Int)))),
  (9, AVal.imm (IVal.sl false false 1 [slE 2 encT A, slE 2 encT B])), (2, AVal.imm (IVal.v (Value.slice none 0 0))),
  (0, AVal.imm (IVal.sl false false 1 [slE 2 encT A, slE 2 encT B]))]
  [] 36 32 [])
  4 0 (Op.indexAddr 148 (Operand.tmp 9) (Operand.tmp 11)))
  (Tree.need
  (ILeL
  [IVal.v (Value.slice none 0 0),
  IVal.v (Value.int IntKind.i64 (IntKind.wrap IntKind.i64 (IntKind.wrap IntKind.i64 ((0 : Int) + (↑(List.length (List.map encT A)) : Int)) + (↑(List.length (List.map encT B)) : Int))))]
  [IVal.v (Value.slice none 0 0), i64 (IntKind.wrap IntKind.i64 (IntKind.wrap IntKind.i64 ((0 : Int) + (↑(List.length (List.map encT A)) : Int)) + (↑(List.length (List.map encT B)) : Int)))] ∧
  OSpec prog 110
  [IVal.v (Value.slice none 0 0), i64 (IntKind.wrap IntKind.i64 (IntKind.wrap IntKind.i64 ((0 : Int) + (↑(List.length (List.map encT A)) : Int)) + (↑(List.length (List.map encT B)) : Int)))] 57
  2 [])
  (Tree.br true
  (Tree.need (0 = 0 ∧ true = true ∧ cellsOk (List.map encT A) = true ∧ 0 + List.length (List.map encT A) ≤ 1000000)
  (Tree.br true
  (Tree.need
  (List.length ([] ++ List.map encT A) = 0 + List.length (List.map encT A) ∧
  cellsOk ([] ++ List.map encT A) = true ∧ cellsOk (List.map encT B) = true ∧ 0 + List.length (List.map encT A) + List.length (List.map encT B) ≤ 1000000)
  (Tree.br false
  (Tree.stop
  (LState.mk
  [(28, AVal.imm (IVal.v (Value.bool false))), (27, AVal.imm (IVal.v (Value.int IntKind.i64 (2 : Int)))), (34, AVal.imm (IVal.v (Value.int IntKind.i64 (2 : Int)))),
  (6, AVal.own 54 (0 + List.length (List.map encT A) + List.length (List.map encT B))),
  (33, AVal.own 54 (0 + List.length (List.map encT A) + List.length (List.map encT B))), (32, AVal.imm (slE 2 encT B)),
  (31, AVal.own 44 (0 + List.length (List.map encT A))), (8, AVal.imm (slE 2 encT B)), (30, AVal.imm (slE 2 encT B)),
  (29, AVal.ref false (slE 2 encT B) 0), (26, AVal.imm (IVal.v (Value.int IntKind.i64 (2 : Int)))),
  (25, AVal.imm (IVal.sl false false 1 [slE 2 encT A, slE 2 encT B])), (24, AVal.own 33 0),
  (23, AVal.imm (IVal.v (Value.int IntKind.i64 (IntKind.wrap IntKind.i64 (IntKind.wrap IntKind.i64 ((0 : Int) + (↑(List.length (List.map encT A)) : Int)) + (↑(List.length (List.map encT B)) : Int)))))),
  (12, AVal.imm (IVal.v (Value.bool false))), (11, AVal.imm (IVal.v (Value.int IntKind.i64 (2 : Int)))), (22, AVal.imm (IVal.v (Value.int IntKind.i64 (2 : Int)))),
  (20,
  AVal.imm (IVal.v (Value.bool (decide (IntKind.wrap IntKind.i64 (IntKind.wrap IntKind.i64 ((0 : Int) + (↑(List.length (List.map encT A)) : Int)) + (↑(List.length (List.map encT B)) : Int)) < (0 : Int)))))),
  (19, AVal.imm (IVal.v (Value.int IntKind.i64 (IntKind.wrap IntKind.i64 (IntKind.wrap IntKind.i64 ((0 : Int) + (↑(List.length (List.map encT A)) : Int)) + (↑(List.length (List.map encT B)) : Int)))))),
  (3, AVal.imm (IVal.v (Value.int IntKind.i64 (IntKind.wrap IntKind.i64 (IntKind.wrap IntKind.i64 ((0 : Int) + (↑(List.length (List.map encT A)) : Int)) + (↑(List.length (List.map encT B)) : Int)))))),
  (18, AVal.imm (IVal.v (Value.int IntKind.i64 (IntKind.wrap IntKind.i64 (IntKind.wrap IntKind.i64 ((0 : Int) + (↑(List.length (List.map encT A)) : Int)) + (↑(List.length (List.map encT B)) : Int)))))),
  (17, AVal.imm (IVal.v (Value.int IntKind.i64 (↑(List.length (List.map encT B)) : Int)))), (16, AVal.imm (slE 2 encT B)),
  (15, AVal.imm (IVal.v (Value.int IntKind.i64 (IntKind.wrap IntKind.i64 ((0 : Int) + (↑(List.length (List.map encT A)) : Int)))))), (5, AVal.imm (slE 2 encT B)),
  (14, AVal.imm (slE 2 encT B)), (13, AVal.ref false (slE 2 encT B) 0), (10, AVal.imm (IVal.v (Value.int IntKind.i64 (2 : Int)))),
  (9, AVal.imm (IVal.sl false false 1 [slE 2 encT A, slE 2 encT B])), (2, AVal.imm (IVal.v (Value.slice none 0 0))),
  (0, AVal.imm (IVal.sl false false 1 [slE 2 encT A, slE 2 encT B]))]
  [(54, Entry.row 57 2 ([] ++ List.map encT A ++ List.map encT B))] 36 59 [])
  12 0 (Op.indexAddr 148 (Operand.tmp 25) (Operand.tmp 27)))
  (Tree.need (List.length ([] ++ List.map encT A ++ List.map encT B) = 0 + List.length (List.map encT A) + List.length (List.map encT B))
  (Tree.done Exit.ret (lretO 57 2 ([] ++ List.map encT A ++ List.map encT B))))))
  (Tree.need (List.length ([] ++ List.map encT A) = 0 + List.length (List.map encT A)) (Tree.done Exit.ret (lretO 57 2 ([] ++ List.map encT A))))))
  (Tree.need (0 = 0) (Tree.done Exit.ret (lretO 57 2 [])))))))
  (Tree.stop
  (LState.mk
  [(23, AVal.imm (IVal.v (Value.int IntKind.i64 (IntKind.wrap IntKind.i64 ((0 : Int) + (↑(List.length (List.map encT A)) : Int)))))), (12, AVal.imm (IVal.v (Value.bool true))),
  (11, AVal.imm (IVal.v (Value.int IntKind.i64 (1 : Int)))), (22, AVal.imm (IVal.v (Value.int IntKind.i64 (1 : Int)))),
  (20, AVal.imm (IVal.v (Value.bool (decide (IntKind.wrap IntKind.i64 ((0 : Int) + (↑(List.length (List.map encT A)) : Int)) < (0 : Int)))))),
  (19, AVal.imm (IVal.v (Value.int IntKind.i64 (IntKind.wrap IntKind.i64 ((0 : Int) + (↑(List.length (List.map encT A)) : Int)))))),
  (3, AVal.imm (IVal.v (Value.int IntKind.i64 (IntKind.wrap IntKind.i64 ((0 : Int) + (↑(List.length (List.map encT A)) : Int)))))),
  (18, AVal.imm (IVal.v (Value.int IntKind.i64 (IntKind.wrap IntKind.i64 ((0 : Int) + (↑(List.length (List.map encT A)) : Int)))))),
  (17, AVal.imm (IVal.v (Value.int IntKind.i64 (↑(List.length (List.map encT A)) : Int)))), (16, AVal.imm (slE 2 encT A)), (15, AVal.imm (IVal.v (Value.int IntKind.i64 (0 : Int)))),
  (5, AVal.imm (slE 2 encT A)), (14, AVal.imm (slE 2 encT A)), (13, AVal.ref false (slE 2 encT A) 0), (10, AVal.imm (IVal.v (Value.int IntKind.i64 (2 : Int)))),
  (9, AVal.imm (IVal.sl false false 1 [slE 2 encT A, slE 2 encT B])), (2, AVal.imm (IVal.v (Value.slice none 0 0))),
  (0, AVal.imm (IVal.sl false false 1 [slE 2 encT A, slE 2 encT B]))]
  [] 36 19 [])
  9 1 (Op.call (Call.mk (Callee.value (Operand.func 110)) (Array.mk [Operand.const (Value.slice none 0 0), Operand.tmp 23]) (Array.mk [23, 3]))))))
  (Tree.stop
  (LState.mk
  [(23, AVal.imm (IVal.v (Value.int IntKind.i64 (0 : Int)))), (12, AVal.imm (IVal.v (Value.bool true))), (11, AVal.imm (IVal.v (Value.int IntKind.i64 (0 : Int)))),
  (10, AVal.imm (IVal.v (Value.int IntKind.i64 (2 : Int)))), (9, AVal.imm (IVal.sl false false 1 [slE 2 encT A, slE 2 encT B])), (3, AVal.imm (IVal.v (Value.int IntKind.i64 (0 : Int)))),
  (2, AVal.imm (IVal.v (Value.slice none 0 0))), (0, AVal.imm (IVal.sl false false 1 [slE 2 encT A, slE 2 encT B]))]
  [] 36 6 [])
  9 1 (Op.call (Call.mk (Callee.value (Operand.func 110)) (Array.mk [Operand.const (Value.slice none 0 0), Operand.tmp 23]) (Array.mk [23, 3])))) := by kernel_rfl
theorem o91 (A B : List Attest) (hA : A.length ≤ 400000) (hB : B.length ≤ 400000) : OSpec prog 91 [.sl false false 1 [slE 2 encT A, slE 2 encT B]] 57 2 ((A ++ B).map encT) := by
  have e1 : IntKind.i64.wrap ((0 : Int) + ((A.map encT).length : Int)) = (A.length : Int) := by rw [List.length_map, IntWalk.i64_in _ (by omega)]; omega
  have e2 : IntKind.i64.wrap ((A.length : Int) + ((B.map encT).length : Int)) = ((A.length + B.length : Nat) : Int) := by rw [List.length_map, IntWalk.i64_in _ (by omega)]; omega
  refine OSpec.tree Proofs.Tryz.f91 (T91 A B) (by kernel_rfl) (by kernel_rfl) ?_
  rw [t91]
  simp only [e1, e2]
  refine ⟨fun _ => ⟨fun h1 => ?_, fun h1 => ⟨fun _ => ⟨fun h2 => ?_, fun h2 => ⟨fun h => (by cases h), fun _ => need_sat ⟨ILeL.refl _, o110' _ ?_ ?_⟩ ⟨fun _ => need_sat ?_ ⟨fun _ => need_sat ?_ ⟨fun h => (by cases h), fun _ => need_sat ?_ (lretO_ex ?_)⟩, fun h => (by cases h)⟩, fun h => (by cases h)⟩⟩⟩, fun h => (by cases h)⟩⟩, fun h => (by cases h)⟩
  · simp at h1; omega
  · simp at h2; omega
  · omega
  · omega
  · exact ⟨trivial, trivial, cellsOk_map encT (fun _ => rfl) _, by simp; omega⟩
  · exact ⟨by simp, cellsOk_map encT (fun _ => rfl) _, cellsOk_map encT (fun _ => rfl) _, by simp; omega⟩
  · simp
  · simp
def renGK : Shelf.Ren := ⟨fun x => match x with | 4 => 112 | n => n, fun x => match x with | 22 => 24 | 25 => 75 | n => n, fun n => n⟩
theorem growXK : Proofs.Lays8.n4 prog renGK where
  mixed := by kernel_rfl
  f4 := ⟨"slices.Grow[[]gatepath/api.RouterKey,gatepath/api.RouterKey]", by decide, Proofs.Tryz.func112.trans (congrArg some (by kernel_rfl))⟩
  t0 := Proofs.Tryz.underlying0
  a0 := Proofs.Tryz.isAgg0
  z0 := Proofs.Tryz.sizeOf0
  v0 := Proofs.Tryz.zeroValue0
  t3 := Proofs.Tryz.underlying3
  a3 := Proofs.Tryz.isAgg3
  z3 := Proofs.Tryz.sizeOf3
  v3 := Proofs.Tryz.zeroValue3
  t4 := Proofs.Tryz.underlying4
  a4 := Proofs.Tryz.isAgg4
  z4 := Proofs.Tryz.sizeOf4
  v4 := Proofs.Tryz.zeroValue4
  t9 := Proofs.Tryz.underlying9
  a9 := Proofs.Tryz.isAgg9
  z9 := Proofs.Tryz.sizeOf9
  v9 := Proofs.Tryz.zeroValue9
  t20 := Proofs.Tryz.underlying20
  a20 := Proofs.Tryz.isAgg20
  z20 := Proofs.Tryz.sizeOf20
  v20 := Proofs.Tryz.zeroValue20
  t22 := Proofs.Tryz.underlying24
  a22 := Proofs.Tryz.isAgg24
  z22 := Proofs.Tryz.sizeOf24
  v22 := Proofs.Tryz.zeroValue24
theorem o112 (n : Nat) (hn : n ≤ 1000000) : OSpec prog 112 [.v (.slice none 0 0), i64 n] 75 18 [] := by
  refine ⟨by kernel_rfl, fun w F vs hF hcol hargs => ?_⟩
  have hvs : vs = #[.slice none 0 0, .int .i64 n] := by
    rw [IRepL] at hargs
    obtain ⟨u, us, h1, h2, h3⟩ := hargs
    rw [IRepL] at h3
    obtain ⟨u', us', h4, h5, h6⟩ := h3
    rw [IRepL] at h6
    rw [IRep] at h2
    rw [i64, IRep] at h5
    rw [← Array.toList_inj, h1, h4, h6, h2.1, h5.1]
  subst hvs
  by_cases h0 : n = 0
  · subst h0
    refine (Proofs.Any8.slices_Grow_room growXK none 0 0 0 w (by omega) (by omega) (by omega) (by omega)).mono ?_
    rintro e w' ⟨rfl, rfl⟩
    exact ⟨⟨0, 0, 0, true⟩, F, rfl, ⟨rfl, rfl, rfl, Nat.le_refl _, fun _ _ => rfl⟩, fun _ _ h => h, fun _ _ h => .inl h, hF, hcol, .inl ⟨rfl, rfl⟩, fun h => by cases h⟩
  · obtain ⟨i0, z, hi0, hs0, hk0, hb0, hz0, hzc⟩ := tel_spec (show tel prog 75 18 = true by kernel_rfl)
    refine (Proofs.Any8.slices_Grow_grow growXK i0 z hi0 hz0 (by omega) none 0 0 n [] w (by omega) (by omega) ?_ (by omega) (by simp) (fun _ => rfl) (fun a h => by cases h)).mono ?_
    · have : n * i0.bytes ≤ 1000000 * 65536 := Nat.mul_le_mul hn hb0
      rw [Nat.zero_add]; omega
    rintro e w' ⟨rfl, rfl⟩
    rw [Nat.zero_add]
    have hge : n ≤ grownCap w n 0 75 := grownCap_ge w _ _ _
    refine ⟨⟨w.heap.size, 0, grownCap w n 0 75, false⟩, F, rfl, ⟨rfl, rfl, rfl, by rw [heap_alloc_size]; exact Nat.le_succ _, fun b hb => ?_⟩, fun _ _ h => h, fun _ _ h => .inl h, fun c b h => ?_, hcol, .inr ⟨rfl, #[] ++ Builtin.zeroCells z.cells (n - 0) ++ Builtin.zeroCells z.cells (grownCap w n 0 75 - n), (0, 0), [], ?_, ?_, ?_, Nat.zero_le _, rfl, trivial⟩, fun _ => ⟨Nat.le_refl _, fun c h => ?_⟩⟩
    · exact heap_alloc_old w.drew _ hb
    · have := hF c b h; rw [heap_alloc_size]; show b < w.heap.size + 1; omega
    · exact heap_alloc_new w.drew _
    · intro j _; simp
    · simp only [Array.size_append, size_zeroCells, hzc, Nat.sub_zero]
      have : grownCap w n 0 75 * 18 = n * 18 + (grownCap w n 0 75 - n) * 18 := by rw [← Nat.add_mul]; congr 1; omega
      simp; omega
    · have := hF c w.heap.size h; omega
theorem o112' (n : Int) (h0 : 0 ≤ n) (hn : n ≤ 1000000) : OSpec prog 112 [.v (.slice none 0 0), i64 n] 75 18 [] := by
  obtain ⟨n, rfl⟩ := Int.eq_ofNat_of_zero_le h0
  exact o112 n (by omega)
def T93 (A B : List RKey) : Tell :=
  Tell.mk (fun x x_1 => false) (fun x x_1 => Orc.no) (fun x => Tree.fail 1000003 0) (fun x => 3) (fun x => ([], []))
  (oget
  [(6, 4, 0, Orc.ext [] (IVal.tup [])), (19, 4, 0, Orc.ext [] (IVal.tup [])),
  (32, 9, 1,
  Orc.callo [IVal.v (Value.slice none 0 0), i64 (IntKind.wrap IntKind.i64 (IntKind.wrap IntKind.i64 ((0 : Int) + (↑(List.length (List.map encK A)) : Int)) + (↑(List.length (List.map encK B)) : Int)))] 75
  18 []),
  (39, 12, 0, Orc.ext [] (IVal.tup [])), (49, 12, 0, Orc.ext [] (IVal.tup []))])
  fun x x_1 => Tree.fail 1000003 0
theorem t93 (A B : List RKey) : levO prog Proofs.Tryz.f93 [.sl false false 1 [slE 18 encK A, slE 18 encK B]] (T93 A B) =
  Tree.br true
  (Tree.br (decide (IntKind.wrap IntKind.i64 ((0 : Int) + (↑(List.length (List.map encK A)) : Int)) < (0 : Int))) (Tree.fail 7 0)
  (Tree.br true
  (Tree.br (decide (IntKind.wrap IntKind.i64 (IntKind.wrap IntKind.i64 ((0 : Int) + (↑(List.length (List.map encK A)) : Int)) + (↑(List.length (List.map encK B)) : Int)) < (0 : Int))) (Tree.fail 7 0)
  (Tree.br false
  (Tree.stop
  (LState.mk
  [(12, AVal.imm (IVal.v (Value.bool false))), (11, AVal.imm (IVal.v (Value.int IntKind.i64 (2 : Int)))), (22, AVal.imm (IVal.v (Value.int IntKind.i64 (2 : Int)))),
  (20, AVal.imm (IVal.v (Value.bool (decide (IntKind.wrap IntKind.i64 (IntKind.wrap IntKind.i64 ((0 : Int) + (↑(List.length (List.map encK A)) : Int)) + (↑(List.length (List.map encK B)) : Int)) < (0 : Int)))))),
  (19, AVal.imm (IVal.v (Value.int IntKind.i64 (IntKind.wrap IntKind.i64 (IntKind.wrap IntKind.i64 ((0 : Int) + (↑(List.length (List.map encK A)) : Int)) + (↑(List.length (List.map encK B)) : Int)))))),
  (3, AVal.imm (IVal.v (Value.int IntKind.i64 (IntKind.wrap IntKind.i64 (IntKind.wrap IntKind.i64 ((0 : Int) + (↑(List.length (List.map encK A)) : Int)) + (↑(List.length (List.map encK B)) : Int)))))),
  (18, AVal.imm (IVal.v (Value.int IntKind.i64 (IntKind.wrap IntKind.i64 (IntKind.wrap IntKind.i64 ((0 : Int) + (↑(List.length (List.map encK A)) : Int)) + (↑(List.length (List.map encK B)) : Int)))))),
  (17, AVal.imm (IVal.v (Value.int IntKind.i64 (↑(List.length (List.map encK B)) : Int)))), (16, AVal.imm (slE 18 encK B)),
  (15, AVal.imm (IVal.v (Value.int IntKind.i64 (IntKind.wrap IntKind.i64 ((0 : Int) + (↑(List.length (List.map encK A)) : Int)))))), (5, AVal.imm (slE 18 encK B)),
  (14, AVal.imm (slE 18 encK B)), (13, AVal.ref false (slE 18 encK B) 0), (10, AVal.imm (IVal.v (Value.int IntKind.i64 (2 : Int)))),
  (9, AVal.imm (IVal.sl false false 1 [slE 18 encK A, slE 18 encK B])), (2, AVal.imm (IVal.v (Value.slice none 0 0))),
  (0, AVal.imm (IVal.sl false false 1 [slE 18 encK A, slE 18 encK B]))]
  [] 36 32 [])
  4 0 (Op.indexAddr 151 (Operand.tmp 9) (Operand.tmp 11)))
  (Tree.need
  (ILeL
  [IVal.v (Value.slice none 0 0),
  IVal.v (Value.int IntKind.i64 (IntKind.wrap IntKind.i64 (IntKind.wrap IntKind.i64 ((0 : Int) + (↑(List.length (List.map encK A)) : Int)) + (↑(List.length (List.map encK B)) : Int))))]
  [IVal.v (Value.slice none 0 0), i64 (IntKind.wrap IntKind.i64 (IntKind.wrap IntKind.i64 ((0 : Int) + (↑(List.length (List.map encK A)) : Int)) + (↑(List.length (List.map encK B)) : Int)))] ∧
  OSpec prog 112
  [IVal.v (Value.slice none 0 0), i64 (IntKind.wrap IntKind.i64 (IntKind.wrap IntKind.i64 ((0 : Int) + (↑(List.length (List.map encK A)) : Int)) + (↑(List.length (List.map encK B)) : Int)))] 75
  18 [])
  (Tree.br true
  (Tree.need (0 = 0 ∧ true = true ∧ cellsOk (List.map encK A) = true ∧ 0 + List.length (List.map encK A) ≤ 1000000)
  (Tree.br true
  (Tree.need
  (List.length ([] ++ List.map encK A) = 0 + List.length (List.map encK A) ∧
  cellsOk ([] ++ List.map encK A) = true ∧ cellsOk (List.map encK B) = true ∧ 0 + List.length (List.map encK A) + List.length (List.map encK B) ≤ 1000000)
  (Tree.br false
  (Tree.stop
  (LState.mk
  [(28, AVal.imm (IVal.v (Value.bool false))), (27, AVal.imm (IVal.v (Value.int IntKind.i64 (2 : Int)))), (34, AVal.imm (IVal.v (Value.int IntKind.i64 (2 : Int)))),
  (6, AVal.own 54 (0 + List.length (List.map encK A) + List.length (List.map encK B))),
  (33, AVal.own 54 (0 + List.length (List.map encK A) + List.length (List.map encK B))), (32, AVal.imm (slE 18 encK B)),
  (31, AVal.own 44 (0 + List.length (List.map encK A))), (8, AVal.imm (slE 18 encK B)), (30, AVal.imm (slE 18 encK B)),
  (29, AVal.ref false (slE 18 encK B) 0), (26, AVal.imm (IVal.v (Value.int IntKind.i64 (2 : Int)))),
  (25, AVal.imm (IVal.sl false false 1 [slE 18 encK A, slE 18 encK B])), (24, AVal.own 33 0),
  (23, AVal.imm (IVal.v (Value.int IntKind.i64 (IntKind.wrap IntKind.i64 (IntKind.wrap IntKind.i64 ((0 : Int) + (↑(List.length (List.map encK A)) : Int)) + (↑(List.length (List.map encK B)) : Int)))))),
  (12, AVal.imm (IVal.v (Value.bool false))), (11, AVal.imm (IVal.v (Value.int IntKind.i64 (2 : Int)))), (22, AVal.imm (IVal.v (Value.int IntKind.i64 (2 : Int)))),
  (20,
  AVal.imm (IVal.v (Value.bool (decide (IntKind.wrap IntKind.i64 (IntKind.wrap IntKind.i64 ((0 : Int) + (↑(List.length (List.map encK A)) : Int)) + (↑(List.length (List.map encK B)) : Int)) < (0 : Int)))))),
  (19, AVal.imm (IVal.v (Value.int IntKind.i64 (IntKind.wrap IntKind.i64 (IntKind.wrap IntKind.i64 ((0 : Int) + (↑(List.length (List.map encK A)) : Int)) + (↑(List.length (List.map encK B)) : Int)))))),
  (3, AVal.imm (IVal.v (Value.int IntKind.i64 (IntKind.wrap IntKind.i64 (IntKind.wrap IntKind.i64 ((0 : Int) + (↑(List.length (List.map encK A)) : Int)) + (↑(List.length (List.map encK B)) : Int)))))),
  (18, AVal.imm (IVal.v (Value.int IntKind.i64 (IntKind.wrap IntKind.i64 (IntKind.wrap IntKind.i64 ((0 : Int) + (↑(List.length (List.map encK A)) : Int)) + (↑(List.length (List.map encK B)) : Int)))))),
  (17, AVal.imm (IVal.v (Value.int IntKind.i64 (↑(List.length (List.map encK B)) : Int)))), (16, AVal.imm (slE 18 encK B)),
  (15, AVal.imm (IVal.v (Value.int IntKind.i64 (IntKind.wrap IntKind.i64 ((0 : Int) + (↑(List.length (List.map encK A)) : Int)))))), (5, AVal.imm (slE 18 encK B)),
  (14, AVal.imm (slE 18 encK B)), (13, AVal.ref false (slE 18 encK B) 0), (10, AVal.imm (IVal.v (Value.int IntKind.i64 (2 : Int)))),
  (9, AVal.imm (IVal.sl false false 1 [slE 18 encK A, slE 18 encK B])), (2, AVal.imm (IVal.v (Value.slice none 0 0))),
  (0, AVal.imm (IVal.sl false false 1 [slE 18 encK A, slE 18 encK B]))]
  [(54, Entry.row 75 18 ([] ++ List.map encK A ++ List.map encK B))] 36 59 [])
  12 0 (Op.indexAddr 151 (Operand.tmp 25) (Operand.tmp 27)))
  (Tree.need (List.length ([] ++ List.map encK A ++ List.map encK B) = 0 + List.length (List.map encK A) + List.length (List.map encK B))
  (Tree.done Exit.ret (lretO 75 18 ([] ++ List.map encK A ++ List.map encK B))))))
  (Tree.need (List.length ([] ++ List.map encK A) = 0 + List.length (List.map encK A)) (Tree.done Exit.ret (lretO 75 18 ([] ++ List.map encK A))))))
  (Tree.need (0 = 0) (Tree.done Exit.ret (lretO 75 18 [])))))))
  (Tree.stop
  (LState.mk
  [(23, AVal.imm (IVal.v (Value.int IntKind.i64 (IntKind.wrap IntKind.i64 ((0 : Int) + (↑(List.length (List.map encK A)) : Int)))))), (12, AVal.imm (IVal.v (Value.bool true))),
  (11, AVal.imm (IVal.v (Value.int IntKind.i64 (1 : Int)))), (22, AVal.imm (IVal.v (Value.int IntKind.i64 (1 : Int)))),
  (20, AVal.imm (IVal.v (Value.bool (decide (IntKind.wrap IntKind.i64 ((0 : Int) + (↑(List.length (List.map encK A)) : Int)) < (0 : Int)))))),
  (19, AVal.imm (IVal.v (Value.int IntKind.i64 (IntKind.wrap IntKind.i64 ((0 : Int) + (↑(List.length (List.map encK A)) : Int)))))),
  (3, AVal.imm (IVal.v (Value.int IntKind.i64 (IntKind.wrap IntKind.i64 ((0 : Int) + (↑(List.length (List.map encK A)) : Int)))))),
  (18, AVal.imm (IVal.v (Value.int IntKind.i64 (IntKind.wrap IntKind.i64 ((0 : Int) + (↑(List.length (List.map encK A)) : Int)))))),
  (17, AVal.imm (IVal.v (Value.int IntKind.i64 (↑(List.length (List.map encK A)) : Int)))), (16, AVal.imm (slE 18 encK A)), (15, AVal.imm (IVal.v (Value.int IntKind.i64 (0 : Int)))),
  (5, AVal.imm (slE 18 encK A)), (14, AVal.imm (slE 18 encK A)), (13, AVal.ref false (slE 18 encK A) 0), (10, AVal.imm (IVal.v (Value.int IntKind.i64 (2 : Int)))),
  (9, AVal.imm (IVal.sl false false 1 [slE 18 encK A, slE 18 encK B])), (2, AVal.imm (IVal.v (Value.slice none 0 0))),
  (0, AVal.imm (IVal.sl false false 1 [slE 18 encK A, slE 18 encK B]))]
  [] 36 19 [])
  9 1 (Op.call (Call.mk (Callee.value (Operand.func 112)) (Array.mk [Operand.const (Value.slice none 0 0), Operand.tmp 23]) (Array.mk [24, 3]))))))
  (Tree.stop
  (LState.mk
  [(23, AVal.imm (IVal.v (Value.int IntKind.i64 (0 : Int)))), (12, AVal.imm (IVal.v (Value.bool true))), (11, AVal.imm (IVal.v (Value.int IntKind.i64 (0 : Int)))),
  (10, AVal.imm (IVal.v (Value.int IntKind.i64 (2 : Int)))), (9, AVal.imm (IVal.sl false false 1 [slE 18 encK A, slE 18 encK B])),
  (3, AVal.imm (IVal.v (Value.int IntKind.i64 (0 : Int)))), (2, AVal.imm (IVal.v (Value.slice none 0 0))),
  (0, AVal.imm (IVal.sl false false 1 [slE 18 encK A, slE 18 encK B]))]
  [] 36 6 [])
  9 1 (Op.call (Call.mk (Callee.value (Operand.func 112)) (Array.mk [Operand.const (Value.slice none 0 0), Operand.tmp 23]) (Array.mk [24, 3])))) := by kernel_rfl
theorem o93 (A B : List RKey) (hA : A.length ≤ 400000) (hB : B.length ≤ 400000) : OSpec prog 93 [.sl false false 1 [slE 18 encK A, slE 18 encK B]] 75 18 ((A ++ B).map encK) := by
  have e1 : IntKind.i64.wrap ((0 : Int) + ((A.map encK).length : Int)) = (A.length : Int) := by rw [List.length_map, IntWalk.i64_in _ (by omega)]; omega
  have e2 : IntKind.i64.wrap ((A.length : Int) + ((B.map encK).length : Int)) = ((A.length + B.length : Nat) : Int) := by rw [List.length_map, IntWalk.i64_in _ (by omega)]; omega
  refine OSpec.tree Proofs.Tryz.f93 (T93 A B) (by kernel_rfl) (by kernel_rfl) ?_
  rw [t93]
  simp only [e1, e2]
  refine ⟨fun _ => ⟨fun h1 => ?_, fun h1 => ⟨fun _ => ⟨fun h2 => ?_, fun h2 => ⟨fun h => (by cases h), fun _ => need_sat ⟨ILeL.refl _, o112' _ ?_ ?_⟩ ⟨fun _ => need_sat ?_ ⟨fun _ => need_sat ?_ ⟨fun h => (by cases h), fun _ => need_sat ?_ (lretO_ex ?_)⟩, fun h => (by cases h)⟩, fun h => (by cases h)⟩⟩⟩, fun h => (by cases h)⟩⟩, fun h => (by cases h)⟩
  · simp at h1; omega
  · simp at h2; omega
  · omega
  · omega
  · exact ⟨trivial, trivial, cellsOk_map encK (fun _ => rfl) _, by simp; omega⟩
  · exact ⟨by simp, cellsOk_map encK (fun _ => rfl) _, cellsOk_map encK (fun _ => rfl) _, by simp; omega⟩
  · simp
  · simp
end Gp
namespace Gp
def P65 (S : List Origin) (i : Nat) : Bool := decide (cmpO (S.getD i default) (S.getD (i + 1) default) = 0)
def I65 (S : List Origin) (i : Nat) : LState := { t := [(9, .imm (i64 (i + 1 : Nat))), (8, .own 5 S.length), (2, .imm (fnV 48))], s := [(5, .row 68 6 (S.map encO))], m := 37, n := 6 }
def R65 (S : List Origin) (i : Nat) : LState := { t := [(6, .own 5 S.length), (7, .imm (bo true))], s := [(5, .row 68 6 (S.map encO))], m := 37, n := 6 }
def E65 (S : List Origin) : LState := { t := [(8, .own 5 S.length)], s := [(5, .row 68 6 (S.map encO))], m := 37, n := 6 }
def fin65 : Exit → Fin
  | .normal => ⟨[], [9, 8, 2], [5]⟩
  | .ret => ⟨[], [6, 7], [5]⟩
  | _ => ⟨[], [8], [5]⟩
def L65 (S : List Origin) : Tree := Lfirst (P65 S) (S.length - 1) 0 (R65 S) (E65 S)
def T65r (S : List Origin) (i : Nat) : Tell :=
  Tell.mk (fun x x_1 => false) (fun x x_1 => Orc.no) (fun x => Tree.fail 1000003 0) (fun x => 0) (fun x => ([], []))
  (oget
  [(10, 6, 5, Orc.elem (encO (List.getD S (Int.toNat (IntKind.wrap IntKind.i64 ((↑(i + 1) : Int) - (1 : Int)))) default))),
  (10, 6, 9, Orc.elem (encO (List.getD S (i + 1) default))),
  (10, 6, 10,
  Orc.call [encO (List.getD S (Int.toNat (IntKind.wrap IntKind.i64 ((↑(i + 1) : Int) - (1 : Int)))) default), encO (List.getD S (i + 1) default)]
  (i64 (cmpO (List.getD S (Int.toNat (IntKind.wrap IntKind.i64 ((↑(i + 1) : Int) - (1 : Int)))) default) (List.getD S (i + 1) default))))])
  fun x x_1 => Tree.fail 1000003 0
theorem t65r (S : List Origin) (i : Nat) : levL prog Proofs.Tryz.f65 4 (I65 S i) (T65r S i) fin65 =
  Tree.br (decide ((↑(i + 1) : Int) < (↑(List.length S) : Int)))
  (Tree.need ((0 : Int) ≤ IntKind.wrap IntKind.i64 ((↑(i + 1) : Int) - (1 : Int)) ∧ Int.toNat (IntKind.wrap IntKind.i64 ((↑(i + 1) : Int) - (1 : Int))) < List.length S)
  (Tree.need ((List.map encO S)[Int.toNat (IntKind.wrap IntKind.i64 ((↑(i + 1) : Int) - (1 : Int)))]? = some (encO (List.getD S (Int.toNat (IntKind.wrap IntKind.i64 ((↑(i + 1) : Int) - (1 : Int)))) default)))
  (Tree.need ((0 : Int) ≤ (↑(i + 1) : Int) ∧ i + 1 < List.length S)
  (Tree.need ((List.map encO S)[i + 1]? = some (encO (List.getD S (i + 1) default)))
  (Tree.need
  (ILeL [encO (List.getD S (Int.toNat (IntKind.wrap IntKind.i64 ((↑(i + 1) : Int) - (1 : Int)))) default), encO (List.getD S (i + 1) default)]
  [encO (List.getD S (Int.toNat (IntKind.wrap IntKind.i64 ((↑(i + 1) : Int) - (1 : Int)))) default), encO (List.getD S (i + 1) default)] ∧
  ASpec prog 48 [encO (List.getD S (Int.toNat (IntKind.wrap IntKind.i64 ((↑(i + 1) : Int) - (1 : Int)))) default), encO (List.getD S (i + 1) default)]
  (i64 (cmpO (List.getD S (Int.toNat (IntKind.wrap IntKind.i64 ((↑(i + 1) : Int) - (1 : Int)))) default) (List.getD S (i + 1) default))))
  (Tree.br (decide (cmpO (List.getD S (Int.toNat (IntKind.wrap IntKind.i64 ((↑(i + 1) : Int) - (1 : Int)))) default) (List.getD S (i + 1) default) = (0 : Int)))
  (Tree.done Exit.ret (LState.mk [(6, AVal.own 5 (List.length S)), (7, AVal.imm (IVal.v (Value.bool true)))] [(5, Entry.row 68 6 (List.map encO S))] 37 25 []))
  (Tree.done Exit.normal
  (LState.mk [(9, AVal.imm (IVal.v (Value.int IntKind.i64 (IntKind.wrap IntKind.i64 ((↑(i + 1) : Int) + (1 : Int)))))), (8, AVal.own 5 (List.length S)), (2, AVal.imm (fnV 48))]
  [(5, Entry.row 68 6 (List.map encO S))] 37 25 []))))))))
  (Tree.done (Exit.exit 0) (LState.mk [(8, AVal.own 5 (List.length S))] [(5, Entry.row 68 6 (List.map encO S))] 37 10 [])) := by kernel_rfl
theorem l65 (S : List Origin) (hl : S.length ≤ 2 ^ 60) (σ : LState) (h : LSub σ (I65 S 0)) : LoopOk prog [] (bodyOf Proofs.Tryz.f65) 4 σ (L65 S) := by
  refine LoopOk.first (P65 S) (S.length - 1) 0 (I65 S) (R65 S) (E65 S) (T65r S) fin65 (by kernel_rfl) h fun i hi hz => ?_
  rw [t65r]
  refine ⟨fun h1 => need_sat ?_ (need_sat (elem_need' ?_) (need_sat ?_ (need_sat (elem_need' ?_) (need_sat ⟨ILeL.refl _, c48 _ _⟩ ⟨fun h2 => ?_, fun h2 => ?_⟩)))), fun h1 => ?_⟩
  all_goals have e1 : IntKind.i64.wrap (((i + 1 : Nat) : Int) - 1) = (i : Int) := by rw [IntWalk.i64_in _ (by omega)]; omega
  · have hlt : i + 1 < S.length := by simp at h1; omega
    rw [e1]; omega
  · have hlt : i + 1 < S.length := by simp at h1; omega
    exact ⟨by rw [e1]; omega, rfl⟩
  · have hlt : i + 1 < S.length := by simp at h1; omega
    omega
  · have hlt : i + 1 < S.length := by simp at h1; omega
    exact ⟨hlt, rfl⟩
  · have hlt : i + 1 < S.length := by simp at h1; omega
    rw [e1, Int.toNat_natCast] at h2
    exact ⟨by omega, h2, ⟨⟨rfl, rfl, trivial⟩, ⟨rfl, trivial⟩, rfl, rfl, rfl⟩⟩
  · have hlt : i + 1 < S.length := by simp at h1; omega
    rw [e1, Int.toNat_natCast] at h2
    exact ⟨by omega, h2, ⟨⟨congrArg (fun n => AVal.imm (i64 n)) (i64_succ (by omega)), rfl, rfl, trivial⟩, ⟨rfl, trivial⟩, rfl, rfl, rfl⟩⟩
  · have hlt : S.length ≤ i + 1 := by simp at h1; omega
    exact ⟨rfl, by omega, ⟨⟨rfl, trivial⟩, ⟨rfl, trivial⟩, rfl, rfl, rfl⟩⟩
def T65 (A B : List Origin) : Tell :=
  Tell.mk (fun r i => r == 1 && i == 2) (fun x x_1 => Orc.no) (fun x => L65 (sorted ltO (A ++ B))) (fun x => 0) (fun x => ([9, 8, 2], [5]))
  (oget
  [(2, 1, 3, Orc.callo [IVal.sl false false 1 [slE 6 encO A, slE 6 encO B]] 68 6 (List.map encO (A ++ B))),
  (7, 2, 2, Orc.callw [fnV 48] (IVal.tup []) (List.map encO (sorted ltO (A ++ B))))])
  fun x x_1 => L65 (sorted ltO (A ++ B))
theorem t65 (A B : List Origin) : levF prog Proofs.Tryz.f65 [slE 6 encO A, slE 6 encO B, fnV 48] (T65 A B) =
  Tree.need
  (ILeL [IVal.sl true false 1 [slE 6 encO A, slE 6 encO B]] [IVal.sl false false 1 [slE 6 encO A, slE 6 encO B]] ∧
  OSpec prog 89 [IVal.sl false false 1 [slE 6 encO A, slE 6 encO B]] 68 6 (List.map encO (A ++ B)))
  (Tree.need
  (List.length (List.map encO (A ++ B)) = List.length (List.map encO (A ++ B)) ∧
  ILeL [fnV 48] [fnV 48] ∧ WSpec prog 90 68 6 (List.map encO (A ++ B)) [fnV 48] (IVal.tup []) (List.map encO (sorted ltO (A ++ B))))
  (Tree.loop 4
  (LState.mk [(9, AVal.imm (IVal.v (Value.int IntKind.i64 (1 : Int)))), (8, AVal.own 5 (List.length (List.map encO (A ++ B)))), (2, AVal.imm (fnV 48))]
  [(5, Entry.row 68 6 (List.map encO (sorted ltO (A ++ B))))] 37 11 [])
  (Tree.br (anyI (P65 (sorted ltO (A ++ B))) 0 (List.length (sorted ltO (A ++ B)) - 1))
  (Tree.done Exit.ret (R65 (sorted ltO (A ++ B)) (firstI (P65 (sorted ltO (A ++ B))) 0 (List.length (sorted ltO (A ++ B)) - 1)))) (Tree.done (Exit.exit 0) (E65 (sorted ltO (A ++ B)))))
  (Tree.br (anyI (P65 (sorted ltO (A ++ B))) 0 (List.length (sorted ltO (A ++ B)) - 1))
  (Tree.need (eqs [(List.length (sorted ltO (A ++ B)), List.length (List.map encO (sorted ltO (A ++ B))))]) (Tree.done Exit.ret (lret (IVal.tup [IVal.sl true false 6 (List.map encO (sorted ltO (A ++ B))), bo true]))))
  (Tree.need (eqs [(List.length (sorted ltO (A ++ B)), List.length (List.map encO (sorted ltO (A ++ B))))])
  (Tree.done Exit.ret (lret (IVal.tup [IVal.sl true false 6 (List.map encO (sorted ltO (A ++ B))), IVal.v (Value.bool false)]))))))) := by kernel_rfl
def dupO (S : List Origin) : Bool := anyI (P65 S) 0 (S.length - 1)
theorem c65 (A B : List Origin) (hA : A.length ≤ 400000) (hB : B.length ≤ 400000) : ASpec prog 65 [slE 6 encO A, slE 6 encO B, fnV 48] (.tup [slE 6 encO (sorted ltO (A ++ B)), bo (dupO (sorted ltO (A ++ B)))]) := by
  have hlen : (sorted ltO (A ++ B)).length = A.length + B.length := by rw [sorted_length, List.length_append]
  refine ASpec.treeW Proofs.Tryz.f65 (T65 A B) (by kernel_rfl) (by kernel_rfl) (t65 A B) ?_
  refine need_sat ⟨(by repeat' first | exact ILeL.refl _ | exact ILe.refl _ | exact ILe.nil _ _ _ | exact ILe.sl (fun h => by cases h) (fun h => h) (ILeL.refl _) | apply ILeL.cons | apply ILe.agg | apply ILe.tup), o89 _ _ ?_ ?_⟩ (need_sat ⟨(by simp), ILeL.refl _, w90 _ ?_⟩ ⟨?_, ⟨fun h1 => need_sat ?_ ⟨_, rfl, ?_⟩, fun h1 => need_sat ?_ ⟨_, rfl, ?_⟩⟩⟩)
  · exact hA
  · exact hB
  · rw [List.length_append]; omega
  · exact l65 _ (by omega) _ ⟨⟨rfl, congrArg (AVal.own 5) (by rw [List.length_map, sorted_length]), rfl, trivial⟩, ⟨rfl, trivial⟩, rfl, rfl, rfl⟩
  · exact ⟨by simp, trivial⟩
  · refine .tup (.cons (ile_sl (.refl _)) (.cons ?_ (.refl _)))
    rw [show dupO (sorted ltO (A ++ B)) = true from h1]; exact .refl _
  · exact ⟨by simp, trivial⟩
  · refine .tup (.cons (ile_sl (.refl _)) (.cons ?_ (.refl _)))
    rw [show dupO (sorted ltO (A ++ B)) = false from h1]; exact .refl _
def P66 (S : List Attest) (i : Nat) : Bool := decide (cmpT (S.getD i default) (S.getD (i + 1) default) = 0)
def I66 (S : List Attest) (i : Nat) : LState := { t := [(9, .imm (i64 (i + 1 : Nat))), (8, .own 5 S.length), (2, .imm (fnV 51))], s := [(5, .row 57 2 (S.map encT))], m := 37, n := 6 }
def R66 (S : List Attest) (i : Nat) : LState := { t := [(6, .own 5 S.length), (7, .imm (bo true))], s := [(5, .row 57 2 (S.map encT))], m := 37, n := 6 }
def E66 (S : List Attest) : LState := { t := [(8, .own 5 S.length)], s := [(5, .row 57 2 (S.map encT))], m := 37, n := 6 }
def fin66 : Exit → Fin
  | .normal => ⟨[], [9, 8, 2], [5]⟩
  | .ret => ⟨[], [6, 7], [5]⟩
  | _ => ⟨[], [8], [5]⟩
def L66 (S : List Attest) : Tree := Lfirst (P66 S) (S.length - 1) 0 (R66 S) (E66 S)
def T66r (S : List Attest) (i : Nat) : Tell :=
  Tell.mk (fun x x_1 => false) (fun x x_1 => Orc.no) (fun x => Tree.fail 1000003 0) (fun x => 0) (fun x => ([], []))
  (oget
  [(10, 6, 5, Orc.elem (encT (List.getD S (Int.toNat (IntKind.wrap IntKind.i64 ((↑(i + 1) : Int) - (1 : Int)))) default))),
  (10, 6, 9, Orc.elem (encT (List.getD S (i + 1) default))),
  (10, 6, 10,
  Orc.call [encT (List.getD S (Int.toNat (IntKind.wrap IntKind.i64 ((↑(i + 1) : Int) - (1 : Int)))) default), encT (List.getD S (i + 1) default)]
  (i64 (cmpI (List.getD S (Int.toNat (IntKind.wrap IntKind.i64 ((↑(i + 1) : Int) - (1 : Int)))) default).cust (List.getD S (i + 1) default).cust)))])
  fun x x_1 => Tree.fail 1000003 0
theorem t66r (S : List Attest) (i : Nat) : levL prog Proofs.Tryz.f66 4 (I66 S i) (T66r S i) fin66 =
  Tree.br (decide ((↑(i + 1) : Int) < (↑(List.length S) : Int)))
  (Tree.need ((0 : Int) ≤ IntKind.wrap IntKind.i64 ((↑(i + 1) : Int) - (1 : Int)) ∧ Int.toNat (IntKind.wrap IntKind.i64 ((↑(i + 1) : Int) - (1 : Int))) < List.length S)
  (Tree.need ((List.map encT S)[Int.toNat (IntKind.wrap IntKind.i64 ((↑(i + 1) : Int) - (1 : Int)))]? = some (encT (List.getD S (Int.toNat (IntKind.wrap IntKind.i64 ((↑(i + 1) : Int) - (1 : Int)))) default)))
  (Tree.need ((0 : Int) ≤ (↑(i + 1) : Int) ∧ i + 1 < List.length S)
  (Tree.need ((List.map encT S)[i + 1]? = some (encT (List.getD S (i + 1) default)))
  (Tree.need
  (ILeL [encT (List.getD S (Int.toNat (IntKind.wrap IntKind.i64 ((↑(i + 1) : Int) - (1 : Int)))) default), encT (List.getD S (i + 1) default)]
  [encT (List.getD S (Int.toNat (IntKind.wrap IntKind.i64 ((↑(i + 1) : Int) - (1 : Int)))) default), encT (List.getD S (i + 1) default)] ∧
  ASpec prog 51 [encT (List.getD S (Int.toNat (IntKind.wrap IntKind.i64 ((↑(i + 1) : Int) - (1 : Int)))) default), encT (List.getD S (i + 1) default)]
  (i64 (cmpI (List.getD S (Int.toNat (IntKind.wrap IntKind.i64 ((↑(i + 1) : Int) - (1 : Int)))) default).cust (List.getD S (i + 1) default).cust)))
  (Tree.br (decide (cmpI (List.getD S (Int.toNat (IntKind.wrap IntKind.i64 ((↑(i + 1) : Int) - (1 : Int)))) default).cust (List.getD S (i + 1) default).cust = (0 : Int)))
  (Tree.done Exit.ret (LState.mk [(6, AVal.own 5 (List.length S)), (7, AVal.imm (IVal.v (Value.bool true)))] [(5, Entry.row 57 2 (List.map encT S))] 37 25 []))
  (Tree.done Exit.normal
  (LState.mk [(9, AVal.imm (IVal.v (Value.int IntKind.i64 (IntKind.wrap IntKind.i64 ((↑(i + 1) : Int) + (1 : Int)))))), (8, AVal.own 5 (List.length S)), (2, AVal.imm (fnV 51))]
  [(5, Entry.row 57 2 (List.map encT S))] 37 25 []))))))))
  (Tree.done (Exit.exit 0) (LState.mk [(8, AVal.own 5 (List.length S))] [(5, Entry.row 57 2 (List.map encT S))] 37 10 [])) := by kernel_rfl
theorem l66 (S : List Attest) (hl : S.length ≤ 2 ^ 60) (σ : LState) (h : LSub σ (I66 S 0)) : LoopOk prog [] (bodyOf Proofs.Tryz.f66) 4 σ (L66 S) := by
  refine LoopOk.first (P66 S) (S.length - 1) 0 (I66 S) (R66 S) (E66 S) (T66r S) fin66 (by kernel_rfl) h fun i hi hz => ?_
  rw [t66r]
  refine ⟨fun h1 => need_sat ?_ (need_sat (elem_need' ?_) (need_sat ?_ (need_sat (elem_need' ?_) (need_sat ⟨ILeL.refl _, c51 _ _⟩ ⟨fun h2 => ?_, fun h2 => ?_⟩)))), fun h1 => ?_⟩
  all_goals have e1 : IntKind.i64.wrap (((i + 1 : Nat) : Int) - 1) = (i : Int) := by rw [IntWalk.i64_in _ (by omega)]; omega
  · have hlt : i + 1 < S.length := by simp at h1; omega
    rw [e1]; omega
  · have hlt : i + 1 < S.length := by simp at h1; omega
    exact ⟨by rw [e1]; omega, rfl⟩
  · have hlt : i + 1 < S.length := by simp at h1; omega
    omega
  · have hlt : i + 1 < S.length := by simp at h1; omega
    exact ⟨hlt, rfl⟩
  · have hlt : i + 1 < S.length := by simp at h1; omega
    rw [e1, Int.toNat_natCast] at h2
    exact ⟨by omega, h2, ⟨⟨rfl, rfl, trivial⟩, ⟨rfl, trivial⟩, rfl, rfl, rfl⟩⟩
  · have hlt : i + 1 < S.length := by simp at h1; omega
    rw [e1, Int.toNat_natCast] at h2
    exact ⟨by omega, h2, ⟨⟨congrArg (fun n => AVal.imm (i64 n)) (i64_succ (by omega)), rfl, rfl, trivial⟩, ⟨rfl, trivial⟩, rfl, rfl, rfl⟩⟩
  · have hlt : S.length ≤ i + 1 := by simp at h1; omega
    exact ⟨rfl, by omega, ⟨⟨rfl, trivial⟩, ⟨rfl, trivial⟩, rfl, rfl, rfl⟩⟩
def T66 (A B : List Attest) : Tell :=
  Tell.mk (fun r i => r == 1 && i == 2) (fun x x_1 => Orc.no) (fun x => L66 (sorted ltT (A ++ B))) (fun x => 0) (fun x => ([9, 8, 2], [5]))
  (oget
  [(2, 1, 3, Orc.callo [IVal.sl false false 1 [slE 2 encT A, slE 2 encT B]] 57 2 (List.map encT (A ++ B))),
  (7, 2, 2, Orc.callw [fnV 51] (IVal.tup []) (List.map encT (sorted ltT (A ++ B))))])
  fun x x_1 => L66 (sorted ltT (A ++ B))
theorem t66 (A B : List Attest) : levF prog Proofs.Tryz.f66 [slE 2 encT A, slE 2 encT B, fnV 51] (T66 A B) =
  Tree.need
  (ILeL [IVal.sl true false 1 [slE 2 encT A, slE 2 encT B]] [IVal.sl false false 1 [slE 2 encT A, slE 2 encT B]] ∧
  OSpec prog 91 [IVal.sl false false 1 [slE 2 encT A, slE 2 encT B]] 57 2 (List.map encT (A ++ B)))
  (Tree.need
  (List.length (List.map encT (A ++ B)) = List.length (List.map encT (A ++ B)) ∧
  ILeL [fnV 51] [fnV 51] ∧ WSpec prog 92 57 2 (List.map encT (A ++ B)) [fnV 51] (IVal.tup []) (List.map encT (sorted ltT (A ++ B))))
  (Tree.loop 4
  (LState.mk [(9, AVal.imm (IVal.v (Value.int IntKind.i64 (1 : Int)))), (8, AVal.own 5 (List.length (List.map encT (A ++ B)))), (2, AVal.imm (fnV 51))]
  [(5, Entry.row 57 2 (List.map encT (sorted ltT (A ++ B))))] 37 11 [])
  (Tree.br (anyI (P66 (sorted ltT (A ++ B))) 0 (List.length (sorted ltT (A ++ B)) - 1))
  (Tree.done Exit.ret (R66 (sorted ltT (A ++ B)) (firstI (P66 (sorted ltT (A ++ B))) 0 (List.length (sorted ltT (A ++ B)) - 1)))) (Tree.done (Exit.exit 0) (E66 (sorted ltT (A ++ B)))))
  (Tree.br (anyI (P66 (sorted ltT (A ++ B))) 0 (List.length (sorted ltT (A ++ B)) - 1))
  (Tree.need (eqs [(List.length (sorted ltT (A ++ B)), List.length (List.map encT (sorted ltT (A ++ B))))]) (Tree.done Exit.ret (lret (IVal.tup [IVal.sl true false 2 (List.map encT (sorted ltT (A ++ B))), bo true]))))
  (Tree.need (eqs [(List.length (sorted ltT (A ++ B)), List.length (List.map encT (sorted ltT (A ++ B))))])
  (Tree.done Exit.ret (lret (IVal.tup [IVal.sl true false 2 (List.map encT (sorted ltT (A ++ B))), IVal.v (Value.bool false)]))))))) := by kernel_rfl
def dupT (S : List Attest) : Bool := anyI (P66 S) 0 (S.length - 1)
theorem c66 (A B : List Attest) (hA : A.length ≤ 400000) (hB : B.length ≤ 400000) : ASpec prog 66 [slE 2 encT A, slE 2 encT B, fnV 51] (.tup [slE 2 encT (sorted ltT (A ++ B)), bo (dupT (sorted ltT (A ++ B)))]) := by
  have hlen : (sorted ltT (A ++ B)).length = A.length + B.length := by rw [sorted_length, List.length_append]
  refine ASpec.treeW Proofs.Tryz.f66 (T66 A B) (by kernel_rfl) (by kernel_rfl) (t66 A B) ?_
  refine need_sat ⟨(by repeat' first | exact ILeL.refl _ | exact ILe.refl _ | exact ILe.nil _ _ _ | exact ILe.sl (fun h => by cases h) (fun h => h) (ILeL.refl _) | apply ILeL.cons | apply ILe.agg | apply ILe.tup), o91 _ _ ?_ ?_⟩ (need_sat ⟨(by simp), ILeL.refl _, w92 _ ?_⟩ ⟨?_, ⟨fun h1 => need_sat ?_ ⟨_, rfl, ?_⟩, fun h1 => need_sat ?_ ⟨_, rfl, ?_⟩⟩⟩)
  · exact hA
  · exact hB
  · rw [List.length_append]; omega
  · exact l66 _ (by omega) _ ⟨⟨rfl, congrArg (AVal.own 5) (by rw [List.length_map, sorted_length]), rfl, trivial⟩, ⟨rfl, trivial⟩, rfl, rfl, rfl⟩
  · exact ⟨by simp, trivial⟩
  · refine .tup (.cons (ile_sl (.refl _)) (.cons ?_ (.refl _)))
    rw [show dupT (sorted ltT (A ++ B)) = true from h1]; exact .refl _
  · exact ⟨by simp, trivial⟩
  · refine .tup (.cons (ile_sl (.refl _)) (.cons ?_ (.refl _)))
    rw [show dupT (sorted ltT (A ++ B)) = false from h1]; exact .refl _
def P67 (S : List RKey) (i : Nat) : Bool := decide (cmpK (S.getD i default) (S.getD (i + 1) default) = 0)
def I67 (S : List RKey) (i : Nat) : LState := { t := [(9, .imm (i64 (i + 1 : Nat))), (8, .own 5 S.length), (2, .imm (fnV 54))], s := [(5, .row 75 18 (S.map encK))], m := 37, n := 6 }
def R67 (S : List RKey) (i : Nat) : LState := { t := [(6, .own 5 S.length), (7, .imm (bo true))], s := [(5, .row 75 18 (S.map encK))], m := 37, n := 6 }
def E67 (S : List RKey) : LState := { t := [(8, .own 5 S.length)], s := [(5, .row 75 18 (S.map encK))], m := 37, n := 6 }
def fin67 : Exit → Fin
  | .normal => ⟨[], [9, 8, 2], [5]⟩
  | .ret => ⟨[], [6, 7], [5]⟩
  | _ => ⟨[], [8], [5]⟩
def L67 (S : List RKey) : Tree := Lfirst (P67 S) (S.length - 1) 0 (R67 S) (E67 S)
def T67r (S : List RKey) (i : Nat) : Tell :=
  Tell.mk (fun x x_1 => false) (fun x x_1 => Orc.no) (fun x => Tree.fail 1000003 0) (fun x => 0) (fun x => ([], []))
  (oget
  [(10, 6, 5, Orc.elem (encK (List.getD S (Int.toNat (IntKind.wrap IntKind.i64 ((↑(i + 1) : Int) - (1 : Int)))) default))),
  (10, 6, 9, Orc.elem (encK (List.getD S (i + 1) default))),
  (10, 6, 10,
  Orc.call [encK (List.getD S (Int.toNat (IntKind.wrap IntKind.i64 ((↑(i + 1) : Int) - (1 : Int)))) default), encK (List.getD S (i + 1) default)]
  (i64 (cmpK (List.getD S (Int.toNat (IntKind.wrap IntKind.i64 ((↑(i + 1) : Int) - (1 : Int)))) default) (List.getD S (i + 1) default))))])
  fun x x_1 => Tree.fail 1000003 0
theorem t67r (S : List RKey) (i : Nat) : levL prog Proofs.Tryz.f67 4 (I67 S i) (T67r S i) fin67 =
  Tree.br (decide ((↑(i + 1) : Int) < (↑(List.length S) : Int)))
  (Tree.need ((0 : Int) ≤ IntKind.wrap IntKind.i64 ((↑(i + 1) : Int) - (1 : Int)) ∧ Int.toNat (IntKind.wrap IntKind.i64 ((↑(i + 1) : Int) - (1 : Int))) < List.length S)
  (Tree.need ((List.map encK S)[Int.toNat (IntKind.wrap IntKind.i64 ((↑(i + 1) : Int) - (1 : Int)))]? = some (encK (List.getD S (Int.toNat (IntKind.wrap IntKind.i64 ((↑(i + 1) : Int) - (1 : Int)))) default)))
  (Tree.need ((0 : Int) ≤ (↑(i + 1) : Int) ∧ i + 1 < List.length S)
  (Tree.need ((List.map encK S)[i + 1]? = some (encK (List.getD S (i + 1) default)))
  (Tree.need
  (ILeL [encK (List.getD S (Int.toNat (IntKind.wrap IntKind.i64 ((↑(i + 1) : Int) - (1 : Int)))) default), encK (List.getD S (i + 1) default)]
  [encK (List.getD S (Int.toNat (IntKind.wrap IntKind.i64 ((↑(i + 1) : Int) - (1 : Int)))) default), encK (List.getD S (i + 1) default)] ∧
  ASpec prog 54 [encK (List.getD S (Int.toNat (IntKind.wrap IntKind.i64 ((↑(i + 1) : Int) - (1 : Int)))) default), encK (List.getD S (i + 1) default)]
  (i64 (cmpK (List.getD S (Int.toNat (IntKind.wrap IntKind.i64 ((↑(i + 1) : Int) - (1 : Int)))) default) (List.getD S (i + 1) default))))
  (Tree.br (decide (cmpK (List.getD S (Int.toNat (IntKind.wrap IntKind.i64 ((↑(i + 1) : Int) - (1 : Int)))) default) (List.getD S (i + 1) default) = (0 : Int)))
  (Tree.done Exit.ret (LState.mk [(6, AVal.own 5 (List.length S)), (7, AVal.imm (IVal.v (Value.bool true)))] [(5, Entry.row 75 18 (List.map encK S))] 37 25 []))
  (Tree.done Exit.normal
  (LState.mk [(9, AVal.imm (IVal.v (Value.int IntKind.i64 (IntKind.wrap IntKind.i64 ((↑(i + 1) : Int) + (1 : Int)))))), (8, AVal.own 5 (List.length S)), (2, AVal.imm (fnV 54))]
  [(5, Entry.row 75 18 (List.map encK S))] 37 25 []))))))))
  (Tree.done (Exit.exit 0) (LState.mk [(8, AVal.own 5 (List.length S))] [(5, Entry.row 75 18 (List.map encK S))] 37 10 [])) := by kernel_rfl
theorem l67 (S : List RKey) (hl : S.length ≤ 2 ^ 60) (σ : LState) (h : LSub σ (I67 S 0)) : LoopOk prog [] (bodyOf Proofs.Tryz.f67) 4 σ (L67 S) := by
  refine LoopOk.first (P67 S) (S.length - 1) 0 (I67 S) (R67 S) (E67 S) (T67r S) fin67 (by kernel_rfl) h fun i hi hz => ?_
  rw [t67r]
  refine ⟨fun h1 => need_sat ?_ (need_sat (elem_need' ?_) (need_sat ?_ (need_sat (elem_need' ?_) (need_sat ⟨ILeL.refl _, c54 _ _⟩ ⟨fun h2 => ?_, fun h2 => ?_⟩)))), fun h1 => ?_⟩
  all_goals have e1 : IntKind.i64.wrap (((i + 1 : Nat) : Int) - 1) = (i : Int) := by rw [IntWalk.i64_in _ (by omega)]; omega
  · have hlt : i + 1 < S.length := by simp at h1; omega
    rw [e1]; omega
  · have hlt : i + 1 < S.length := by simp at h1; omega
    exact ⟨by rw [e1]; omega, rfl⟩
  · have hlt : i + 1 < S.length := by simp at h1; omega
    omega
  · have hlt : i + 1 < S.length := by simp at h1; omega
    exact ⟨hlt, rfl⟩
  · have hlt : i + 1 < S.length := by simp at h1; omega
    rw [e1, Int.toNat_natCast] at h2
    exact ⟨by omega, h2, ⟨⟨rfl, rfl, trivial⟩, ⟨rfl, trivial⟩, rfl, rfl, rfl⟩⟩
  · have hlt : i + 1 < S.length := by simp at h1; omega
    rw [e1, Int.toNat_natCast] at h2
    exact ⟨by omega, h2, ⟨⟨congrArg (fun n => AVal.imm (i64 n)) (i64_succ (by omega)), rfl, rfl, trivial⟩, ⟨rfl, trivial⟩, rfl, rfl, rfl⟩⟩
  · have hlt : S.length ≤ i + 1 := by simp at h1; omega
    exact ⟨rfl, by omega, ⟨⟨rfl, trivial⟩, ⟨rfl, trivial⟩, rfl, rfl, rfl⟩⟩
def T67 (A B : List RKey) : Tell :=
  Tell.mk (fun r i => r == 1 && i == 2) (fun x x_1 => Orc.no) (fun x => L67 (sorted ltK (A ++ B))) (fun x => 0) (fun x => ([9, 8, 2], [5]))
  (oget
  [(2, 1, 3, Orc.callo [IVal.sl false false 1 [slE 18 encK A, slE 18 encK B]] 75 18 (List.map encK (A ++ B))),
  (7, 2, 2, Orc.callw [fnV 54] (IVal.tup []) (List.map encK (sorted ltK (A ++ B))))])
  fun x x_1 => L67 (sorted ltK (A ++ B))
theorem t67 (A B : List RKey) : levF prog Proofs.Tryz.f67 [slE 18 encK A, slE 18 encK B, fnV 54] (T67 A B) =
  Tree.need
  (ILeL [IVal.sl true false 1 [slE 18 encK A, slE 18 encK B]] [IVal.sl false false 1 [slE 18 encK A, slE 18 encK B]] ∧
  OSpec prog 93 [IVal.sl false false 1 [slE 18 encK A, slE 18 encK B]] 75 18 (List.map encK (A ++ B)))
  (Tree.need
  (List.length (List.map encK (A ++ B)) = List.length (List.map encK (A ++ B)) ∧
  ILeL [fnV 54] [fnV 54] ∧ WSpec prog 94 75 18 (List.map encK (A ++ B)) [fnV 54] (IVal.tup []) (List.map encK (sorted ltK (A ++ B))))
  (Tree.loop 4
  (LState.mk [(9, AVal.imm (IVal.v (Value.int IntKind.i64 (1 : Int)))), (8, AVal.own 5 (List.length (List.map encK (A ++ B)))), (2, AVal.imm (fnV 54))]
  [(5, Entry.row 75 18 (List.map encK (sorted ltK (A ++ B))))] 37 11 [])
  (Tree.br (anyI (P67 (sorted ltK (A ++ B))) 0 (List.length (sorted ltK (A ++ B)) - 1))
  (Tree.done Exit.ret (R67 (sorted ltK (A ++ B)) (firstI (P67 (sorted ltK (A ++ B))) 0 (List.length (sorted ltK (A ++ B)) - 1)))) (Tree.done (Exit.exit 0) (E67 (sorted ltK (A ++ B)))))
  (Tree.br (anyI (P67 (sorted ltK (A ++ B))) 0 (List.length (sorted ltK (A ++ B)) - 1))
  (Tree.need (eqs [(List.length (sorted ltK (A ++ B)), List.length (List.map encK (sorted ltK (A ++ B))))]) (Tree.done Exit.ret (lret (IVal.tup [IVal.sl true false 18 (List.map encK (sorted ltK (A ++ B))), bo true]))))
  (Tree.need (eqs [(List.length (sorted ltK (A ++ B)), List.length (List.map encK (sorted ltK (A ++ B))))])
  (Tree.done Exit.ret (lret (IVal.tup [IVal.sl true false 18 (List.map encK (sorted ltK (A ++ B))), IVal.v (Value.bool false)]))))))) := by kernel_rfl
def dupK (S : List RKey) : Bool := anyI (P67 S) 0 (S.length - 1)
theorem c67 (A B : List RKey) (hA : A.length ≤ 400000) (hB : B.length ≤ 400000) : ASpec prog 67 [slE 18 encK A, slE 18 encK B, fnV 54] (.tup [slE 18 encK (sorted ltK (A ++ B)), bo (dupK (sorted ltK (A ++ B)))]) := by
  have hlen : (sorted ltK (A ++ B)).length = A.length + B.length := by rw [sorted_length, List.length_append]
  refine ASpec.treeW Proofs.Tryz.f67 (T67 A B) (by kernel_rfl) (by kernel_rfl) (t67 A B) ?_
  refine need_sat ⟨(by repeat' first | exact ILeL.refl _ | exact ILe.refl _ | exact ILe.nil _ _ _ | exact ILe.sl (fun h => by cases h) (fun h => h) (ILeL.refl _) | apply ILeL.cons | apply ILe.agg | apply ILe.tup), o93 _ _ ?_ ?_⟩ (need_sat ⟨(by simp), ILeL.refl _, w94 _ ?_⟩ ⟨?_, ⟨fun h1 => need_sat ?_ ⟨_, rfl, ?_⟩, fun h1 => need_sat ?_ ⟨_, rfl, ?_⟩⟩⟩)
  · exact hA
  · exact hB
  · rw [List.length_append]; omega
  · exact l67 _ (by omega) _ ⟨⟨rfl, congrArg (AVal.own 5) (by rw [List.length_map, sorted_length]), rfl, trivial⟩, ⟨rfl, trivial⟩, rfl, rfl, rfl⟩
  · exact ⟨by simp, trivial⟩
  · refine .tup (.cons (ile_sl (.refl _)) (.cons ?_ (.refl _)))
    rw [show dupK (sorted ltK (A ++ B)) = true from h1]; exact .refl _
  · exact ⟨by simp, trivial⟩
  · refine .tup (.cons (ile_sl (.refl _)) (.cons ?_ (.refl _)))
    rw [show dupK (sorted ltK (A ++ B)) = false from h1]; exact .refl _
end Gp
namespace Gp
def posO (l : List Origin) (x : Origin) : Nat := bs (fun h => ltO (l.getD h default) x) l.length 0 l.length
def foundO (l : List Origin) (x : Origin) : Bool := decide (posO l x < l.length) && decide (cmpO (l.getD (posO l x) default) x = 0)
def I85 (l : List Origin) (x : Origin) (i j : Nat) : LState := { t := [(10, .imm (i64 j)), (9, .imm (i64 i)), (8, .imm (i64 l.length)), (4, .ptr 0 0), (2, .imm (fnV 48)), (0, .imm (slE 6 encO l))], s := [(0, .box 68 (.imm (encO x)))], m := 49, n := 1 }
def E85 (l : List Origin) (x : Origin) (i : Nat) : LState := { t := [(9, .imm (i64 i)), (8, .imm (i64 l.length)), (4, .ptr 0 0), (2, .imm (fnV 48)), (0, .imm (slE 6 encO l))], s := [(0, .box 68 (.imm (encO x)))], m := 49, n := 1 }
def fin85 : Exit → Fin
  | .normal => ⟨[], [10, 9, 8, 4, 2, 0], [0]⟩
  | _ => ⟨[], [9, 8, 4, 2, 0], [0]⟩
def T85r (l : List Origin) (x : Origin) (i j : Nat) : Tell :=
  Tell.mk (fun x x_1 => false) (fun x x_1 => Orc.no) (fun x => Tree.fail 1000003 0) (fun x => 0) (fun x => ([], []))
  (oget
  [(11, 5, 3, Orc.elem (encO (List.getD l (Int.toNat (IntKind.wrap IntKind.i64 (Int.fdiv (IntKind.wrap IntKind.u64 (IntKind.wrap IntKind.i64 ((↑i : Int) + (↑j : Int)))) (2 : Int)))) default))),
  (11, 5, 6,
  Orc.call [encO (List.getD l (Int.toNat (IntKind.wrap IntKind.i64 (Int.fdiv (IntKind.wrap IntKind.u64 (IntKind.wrap IntKind.i64 ((↑i : Int) + (↑j : Int)))) (2 : Int)))) default), encO x]
  (i64 (cmpO (List.getD l (Int.toNat (IntKind.wrap IntKind.i64 (Int.fdiv (IntKind.wrap IntKind.u64 (IntKind.wrap IntKind.i64 ((↑i : Int) + (↑j : Int)))) (2 : Int)))) default) x)))])
  fun x x_1 => Tree.fail 1000003 0
theorem t85r (l : List Origin) (x : Origin) (i j : Nat) : levL prog Proofs.Tryz.f85 3 (I85 l x i j) (T85r l x i j) fin85 =
  Tree.br (decide ((↑i : Int) < (↑j : Int)))
  (Tree.need ((0 : Int) ≤ (1 : Int))
  (Tree.need
  ((0 : Int) ≤ IntKind.wrap IntKind.i64 (Int.fdiv (IntKind.wrap IntKind.u64 (IntKind.wrap IntKind.i64 ((↑i : Int) + (↑j : Int)))) (2 : Int)) ∧
  (List.map encO l)[Int.toNat (IntKind.wrap IntKind.i64 (Int.fdiv (IntKind.wrap IntKind.u64 (IntKind.wrap IntKind.i64 ((↑i : Int) + (↑j : Int)))) (2 : Int)))]? =
  some (encO (List.getD l (Int.toNat (IntKind.wrap IntKind.i64 (Int.fdiv (IntKind.wrap IntKind.u64 (IntKind.wrap IntKind.i64 ((↑i : Int) + (↑j : Int)))) (2 : Int)))) default)))
  (Tree.need
  (ILeL [encO (List.getD l (Int.toNat (IntKind.wrap IntKind.i64 (Int.fdiv (IntKind.wrap IntKind.u64 (IntKind.wrap IntKind.i64 ((↑i : Int) + (↑j : Int)))) (2 : Int)))) default), encO x]
  [encO (List.getD l (Int.toNat (IntKind.wrap IntKind.i64 (Int.fdiv (IntKind.wrap IntKind.u64 (IntKind.wrap IntKind.i64 ((↑i : Int) + (↑j : Int)))) (2 : Int)))) default), encO x] ∧
  ASpec prog 48 [encO (List.getD l (Int.toNat (IntKind.wrap IntKind.i64 (Int.fdiv (IntKind.wrap IntKind.u64 (IntKind.wrap IntKind.i64 ((↑i : Int) + (↑j : Int)))) (2 : Int)))) default), encO x]
  (i64 (cmpO (List.getD l (Int.toNat (IntKind.wrap IntKind.i64 (Int.fdiv (IntKind.wrap IntKind.u64 (IntKind.wrap IntKind.i64 ((↑i : Int) + (↑j : Int)))) (2 : Int)))) default) x)))
  (Tree.br (decide (cmpO (List.getD l (Int.toNat (IntKind.wrap IntKind.i64 (Int.fdiv (IntKind.wrap IntKind.u64 (IntKind.wrap IntKind.i64 ((↑i : Int) + (↑j : Int)))) (2 : Int)))) default) x < (0 : Int)))
  (Tree.done Exit.normal
  (LState.mk
  [(10, AVal.imm (i64 (↑j : Int))),
  (9, AVal.imm (IVal.v (Value.int IntKind.i64 (IntKind.wrap IntKind.i64 (IntKind.wrap IntKind.i64 (Int.fdiv (IntKind.wrap IntKind.u64 (IntKind.wrap IntKind.i64 ((↑i : Int) + (↑j : Int)))) (2 : Int)) + (1 : Int)))))),
  (8, AVal.imm (i64 (↑(List.length l) : Int))), (4, AVal.ptr 0 0), (2, AVal.imm (fnV 48)), (0, AVal.imm (slE 6 encO l))]
  [(0, Entry.box 68 (AVal.imm (encO x)))] 49 22 []))
  (Tree.done Exit.normal
  (LState.mk
  [(10, AVal.imm (IVal.v (Value.int IntKind.i64 (IntKind.wrap IntKind.i64 (Int.fdiv (IntKind.wrap IntKind.u64 (IntKind.wrap IntKind.i64 ((↑i : Int) + (↑j : Int)))) (2 : Int)))))), (9, AVal.imm (i64 (↑i : Int))),
  (8, AVal.imm (i64 (↑(List.length l) : Int))), (4, AVal.ptr 0 0), (2, AVal.imm (fnV 48)), (0, AVal.imm (slE 6 encO l))]
  [(0, Entry.box 68 (AVal.imm (encO x)))] 49 21 []))))))
  (Tree.done (Exit.exit 0)
  (LState.mk [(9, AVal.imm (i64 (↑i : Int))), (8, AVal.imm (i64 (↑(List.length l) : Int))), (4, AVal.ptr 0 0), (2, AVal.imm (fnV 48)), (0, AVal.imm (slE 6 encO l))]
  [(0, Entry.box 68 (AVal.imm (encO x)))] 49 4 [])) := by kernel_rfl
theorem l85 (l : List Origin) (x : Origin) (hl : l.length ≤ 2 ^ 61) (σ : LState) (h : LSub σ (I85 l x 0 l.length)) : LoopOk prog [] (bodyOf Proofs.Tryz.f85) 3 σ (.done (.exit 0) (E85 l x (posO l x))) := by
  refine LoopOk.of_levL (γ := { g : Nat × Nat × Nat // g.1 ≤ g.2.1 ∧ g.2.1 ≤ l.length ∧ g.2.1 - g.1 ≤ g.2.2 ∧ bs (fun h => ltO (l.getD h default) x) g.2.2 g.1 g.2.1 = posO l x })
    (fun g => T85r l x g.1.1 g.1.2.1) fin85 (fun g => I85 l x g.1.1 g.1.2.1) (fun g => g.1.2.1 - g.1.1) ⟨(0, l.length, l.length), by simp, by simp, by simp, rfl⟩ (by kernel_rfl) h ?_
  rintro ⟨⟨i, j, f'⟩, q1, q2, q3, q4⟩
  simp only at q1 q2 q3 q4
  simp only []
  have e1 := i64_half (i := i) (j := j) (by omega)
  rw [t85r]
  simp only [e1, Int.toNat_natCast]
  refine ⟨fun h1 => ?_, fun h1 => ?_⟩
  · have hlt : i < j := by simp at h1; omega
    cases f' with
    | zero => omega
    | succ f' =>
      rw [bs, if_pos hlt] at q4
      refine ⟨by omega, fun _ => ⟨⟨by omega, getD_map _ _ _ _ (by omega)⟩, fun _ => ⟨⟨ILeL.refl _, c48 _ _⟩, fun _ => ⟨fun h2 => ?_, fun h2 => ?_⟩⟩⟩⟩
      · rw [if_pos (show ltO _ _ = true from h2)] at q4
        refine ⟨⟨((i + j) / 2 + 1, j, f'), by simp only; omega, q2, by simp only; omega, q4⟩, by simp only; omega, ⟨rfl, ?_, rfl, rfl, rfl, rfl, trivial⟩, ⟨rfl, trivial⟩, rfl, rfl, rfl⟩
        exact congrArg (fun n => AVal.imm (i64 n)) (i64_succ (by omega))
      · rw [if_neg (fun hc => by rw [show ltO _ _ = false from h2] at hc; cases hc)] at q4
        exact ⟨⟨(i, (i + j) / 2, f'), by simp only; omega, by simp only; omega, by simp only; omega, q4⟩, by simp only; omega, ⟨rfl, rfl, rfl, rfl, rfl, rfl, trivial⟩, ⟨rfl, trivial⟩, rfl, rfl, rfl⟩
  · have hge : ¬ i < j := by simp at h1; omega
    have : bs (fun h => ltO (l.getD h default) x) f' i j = i := by
      cases f' with
      | zero => rfl
      | succ f' => rw [bs, if_neg hge]
    rw [this] at q4
    rw [← q4]
    exact ⟨rfl, ⟨rfl, rfl, rfl, rfl, rfl, trivial⟩, ⟨rfl, trivial⟩, rfl, rfl, rfl⟩
def T85 (l : List Origin) (x : Origin) : Tell :=
  Tell.mk (fun x x_1 => false) (fun x x_1 => Orc.no) (fun x_1 => Tree.done (Exit.exit 0) (E85 l x (posO l x))) (fun x => 0) (fun x => ([10, 9, 8, 4, 2, 0], [0]))
  (oget [(1, 8, 8, Orc.elem (encO (List.getD l (posO l x) default))), (1, 8, 11, Orc.call [encO (List.getD l (posO l x) default), encO x] (i64 (cmpO (List.getD l (posO l x) default) x)))])
  fun x_1 x_2 => Tree.done (Exit.exit 0) (E85 l x (posO l x))
theorem t85 (l : List Origin) (x : Origin) : levF prog Proofs.Tryz.f85 [slE 6 encO l, encO x, fnV 48] (T85 l x) =
  Tree.loop 3
  (LState.mk
  [(10, AVal.imm (IVal.v (Value.int IntKind.i64 (↑(List.length (List.map encO l)) : Int)))), (9, AVal.imm (IVal.v (Value.int IntKind.i64 (0 : Int)))),
  (8, AVal.imm (IVal.v (Value.int IntKind.i64 (↑(List.length (List.map encO l)) : Int)))), (4, AVal.ptr 0 0), (2, AVal.imm (fnV 48)), (0, AVal.imm (slE 6 encO l))]
  [(0, Entry.box 68 (AVal.imm (encO x)))] 49 9 [])
  (Tree.done (Exit.exit 0) (E85 l x (posO l x)))
  (Tree.br (decide ((↑(posO l x) : Int) < (↑(List.length l) : Int)))
  (Tree.need ((0 : Int) ≤ (↑(posO l x) : Int) ∧ (List.map encO l)[posO l x]? = some (encO (List.getD l (posO l x) default)))
  (Tree.need (ILeL [encO (List.getD l (posO l x) default), encO x] [encO (List.getD l (posO l x) default), encO x] ∧ ASpec prog 48 [encO (List.getD l (posO l x) default), encO x] (i64 (cmpO (List.getD l (posO l x) default) x)))
  (Tree.done Exit.ret (lret (IVal.tup [i64 (↑(posO l x) : Int), IVal.v (Value.bool (decide (cmpO (List.getD l (posO l x) default) x = (0 : Int))))])))))
  (Tree.done Exit.ret (lret (IVal.tup [i64 (↑(posO l x) : Int), IVal.v (Value.bool false)])))) := by kernel_rfl
theorem posO_le (l : List Origin) (x : Origin) : posO l x ≤ l.length := (bs_bnd _ _ _ _ (Nat.zero_le _)).2
theorem c85 (l : List Origin) (x : Origin) (hl : l.length ≤ 2 ^ 61) : ASpec prog 85 [slE 6 encO l, encO x, fnV 48] (.tup [i64 (posO l x), bo (foundO l x)]) := by
  refine ASpec.treeW Proofs.Tryz.f85 (T85 l x) (by kernel_rfl) (by kernel_rfl) (t85 l x) ?_
  refine ⟨?_, ⟨fun h1 => need_sat (elem_need ?_) (need_sat ⟨ILeL.refl _, c48 _ _⟩ ⟨_, rfl, ?_⟩), fun h1 => ⟨_, rfl, ?_⟩⟩⟩
  · exact l85 l x hl _ ⟨⟨congrArg (fun n => AVal.imm (i64 n)) (by simp), rfl, congrArg (fun n => AVal.imm (i64 n)) (by simp), rfl, rfl, rfl, trivial⟩, ⟨rfl, trivial⟩, rfl, rfl, rfl⟩
  · have : posO l x < l.length := by simp at h1; omega
    exact ⟨by omega, by omega, rfl⟩
  · have : posO l x < l.length := by simp at h1; omega
    refine .tup (.cons (.refl _) (.cons ?_ (.refl _)))
    rw [foundO, decide_eq_true this]; exact .refl _
  · have : ¬ posO l x < l.length := by simp at h1; omega
    refine .tup (.cons (.refl _) (.cons ?_ (.refl _)))
    rw [foundO, decide_eq_false this]; exact .refl _
def posT (l : List Attest) (x : Attest) : Nat := bs (fun h => ltT (l.getD h default) x) l.length 0 l.length
def foundT (l : List Attest) (x : Attest) : Bool := decide (posT l x < l.length) && decide (cmpT (l.getD (posT l x) default) x = 0)
def I86 (l : List Attest) (x : Attest) (i j : Nat) : LState := { t := [(10, .imm (i64 j)), (9, .imm (i64 i)), (8, .imm (i64 l.length)), (4, .ptr 0 0), (2, .imm (fnV 51)), (0, .imm (slE 2 encT l))], s := [(0, .box 57 (.imm (encT x)))], m := 49, n := 1 }
def E86 (l : List Attest) (x : Attest) (i : Nat) : LState := { t := [(9, .imm (i64 i)), (8, .imm (i64 l.length)), (4, .ptr 0 0), (2, .imm (fnV 51)), (0, .imm (slE 2 encT l))], s := [(0, .box 57 (.imm (encT x)))], m := 49, n := 1 }
def fin86 : Exit → Fin
  | .normal => ⟨[], [10, 9, 8, 4, 2, 0], [0]⟩
  | _ => ⟨[], [9, 8, 4, 2, 0], [0]⟩
def T86r (l : List Attest) (x : Attest) (i j : Nat) : Tell :=
  Tell.mk (fun x x_1 => false) (fun x x_1 => Orc.no) (fun x => Tree.fail 1000003 0) (fun x => 0) (fun x => ([], []))
  (oget
  [(11, 5, 3, Orc.elem (encT (List.getD l (Int.toNat (IntKind.wrap IntKind.i64 (Int.fdiv (IntKind.wrap IntKind.u64 (IntKind.wrap IntKind.i64 ((↑i : Int) + (↑j : Int)))) (2 : Int)))) default))),
  (11, 5, 6,
  Orc.call [encT (List.getD l (Int.toNat (IntKind.wrap IntKind.i64 (Int.fdiv (IntKind.wrap IntKind.u64 (IntKind.wrap IntKind.i64 ((↑i : Int) + (↑j : Int)))) (2 : Int)))) default), encT x]
  (i64 (cmpI (List.getD l (Int.toNat (IntKind.wrap IntKind.i64 (Int.fdiv (IntKind.wrap IntKind.u64 (IntKind.wrap IntKind.i64 ((↑i : Int) + (↑j : Int)))) (2 : Int)))) default).cust x.cust)))])
  fun x x_1 => Tree.fail 1000003 0
theorem t86r (l : List Attest) (x : Attest) (i j : Nat) : levL prog Proofs.Tryz.f86 3 (I86 l x i j) (T86r l x i j) fin86 =
  Tree.br (decide ((↑i : Int) < (↑j : Int)))
  (Tree.need ((0 : Int) ≤ (1 : Int))
  (Tree.need
  ((0 : Int) ≤ IntKind.wrap IntKind.i64 (Int.fdiv (IntKind.wrap IntKind.u64 (IntKind.wrap IntKind.i64 ((↑i : Int) + (↑j : Int)))) (2 : Int)) ∧
  (List.map encT l)[Int.toNat (IntKind.wrap IntKind.i64 (Int.fdiv (IntKind.wrap IntKind.u64 (IntKind.wrap IntKind.i64 ((↑i : Int) + (↑j : Int)))) (2 : Int)))]? =
  some (encT (List.getD l (Int.toNat (IntKind.wrap IntKind.i64 (Int.fdiv (IntKind.wrap IntKind.u64 (IntKind.wrap IntKind.i64 ((↑i : Int) + (↑j : Int)))) (2 : Int)))) default)))
  (Tree.need
  (ILeL [encT (List.getD l (Int.toNat (IntKind.wrap IntKind.i64 (Int.fdiv (IntKind.wrap IntKind.u64 (IntKind.wrap IntKind.i64 ((↑i : Int) + (↑j : Int)))) (2 : Int)))) default), encT x]
  [encT (List.getD l (Int.toNat (IntKind.wrap IntKind.i64 (Int.fdiv (IntKind.wrap IntKind.u64 (IntKind.wrap IntKind.i64 ((↑i : Int) + (↑j : Int)))) (2 : Int)))) default), encT x] ∧
  ASpec prog 51 [encT (List.getD l (Int.toNat (IntKind.wrap IntKind.i64 (Int.fdiv (IntKind.wrap IntKind.u64 (IntKind.wrap IntKind.i64 ((↑i : Int) + (↑j : Int)))) (2 : Int)))) default), encT x]
  (i64 (cmpI (List.getD l (Int.toNat (IntKind.wrap IntKind.i64 (Int.fdiv (IntKind.wrap IntKind.u64 (IntKind.wrap IntKind.i64 ((↑i : Int) + (↑j : Int)))) (2 : Int)))) default).cust x.cust)))
  (Tree.br (decide (cmpI (List.getD l (Int.toNat (IntKind.wrap IntKind.i64 (Int.fdiv (IntKind.wrap IntKind.u64 (IntKind.wrap IntKind.i64 ((↑i : Int) + (↑j : Int)))) (2 : Int)))) default).cust x.cust < (0 : Int)))
  (Tree.done Exit.normal
  (LState.mk
  [(10, AVal.imm (i64 (↑j : Int))),
  (9, AVal.imm (IVal.v (Value.int IntKind.i64 (IntKind.wrap IntKind.i64 (IntKind.wrap IntKind.i64 (Int.fdiv (IntKind.wrap IntKind.u64 (IntKind.wrap IntKind.i64 ((↑i : Int) + (↑j : Int)))) (2 : Int)) + (1 : Int)))))),
  (8, AVal.imm (i64 (↑(List.length l) : Int))), (4, AVal.ptr 0 0), (2, AVal.imm (fnV 51)), (0, AVal.imm (slE 2 encT l))]
  [(0, Entry.box 57 (AVal.imm (encT x)))] 49 22 []))
  (Tree.done Exit.normal
  (LState.mk
  [(10, AVal.imm (IVal.v (Value.int IntKind.i64 (IntKind.wrap IntKind.i64 (Int.fdiv (IntKind.wrap IntKind.u64 (IntKind.wrap IntKind.i64 ((↑i : Int) + (↑j : Int)))) (2 : Int)))))), (9, AVal.imm (i64 (↑i : Int))),
  (8, AVal.imm (i64 (↑(List.length l) : Int))), (4, AVal.ptr 0 0), (2, AVal.imm (fnV 51)), (0, AVal.imm (slE 2 encT l))]
  [(0, Entry.box 57 (AVal.imm (encT x)))] 49 21 []))))))
  (Tree.done (Exit.exit 0)
  (LState.mk [(9, AVal.imm (i64 (↑i : Int))), (8, AVal.imm (i64 (↑(List.length l) : Int))), (4, AVal.ptr 0 0), (2, AVal.imm (fnV 51)), (0, AVal.imm (slE 2 encT l))]
  [(0, Entry.box 57 (AVal.imm (encT x)))] 49 4 [])) := by kernel_rfl
theorem l86 (l : List Attest) (x : Attest) (hl : l.length ≤ 2 ^ 61) (σ : LState) (h : LSub σ (I86 l x 0 l.length)) : LoopOk prog [] (bodyOf Proofs.Tryz.f86) 3 σ (.done (.exit 0) (E86 l x (posT l x))) := by
  refine LoopOk.of_levL (γ := { g : Nat × Nat × Nat // g.1 ≤ g.2.1 ∧ g.2.1 ≤ l.length ∧ g.2.1 - g.1 ≤ g.2.2 ∧ bs (fun h => ltT (l.getD h default) x) g.2.2 g.1 g.2.1 = posT l x })
    (fun g => T86r l x g.1.1 g.1.2.1) fin86 (fun g => I86 l x g.1.1 g.1.2.1) (fun g => g.1.2.1 - g.1.1) ⟨(0, l.length, l.length), by simp, by simp, by simp, rfl⟩ (by kernel_rfl) h ?_
  rintro ⟨⟨i, j, f'⟩, q1, q2, q3, q4⟩
  simp only at q1 q2 q3 q4
  simp only []
  have e1 := i64_half (i := i) (j := j) (by omega)
  rw [t86r]
  simp only [e1, Int.toNat_natCast]
  refine ⟨fun h1 => ?_, fun h1 => ?_⟩
  · have hlt : i < j := by simp at h1; omega
    cases f' with
    | zero => omega
    | succ f' =>
      rw [bs, if_pos hlt] at q4
      refine ⟨by omega, fun _ => ⟨⟨by omega, getD_map _ _ _ _ (by omega)⟩, fun _ => ⟨⟨ILeL.refl _, c51 _ _⟩, fun _ => ⟨fun h2 => ?_, fun h2 => ?_⟩⟩⟩⟩
      · rw [if_pos (show ltT _ _ = true from h2)] at q4
        refine ⟨⟨((i + j) / 2 + 1, j, f'), by simp only; omega, q2, by simp only; omega, q4⟩, by simp only; omega, ⟨rfl, ?_, rfl, rfl, rfl, rfl, trivial⟩, ⟨rfl, trivial⟩, rfl, rfl, rfl⟩
        exact congrArg (fun n => AVal.imm (i64 n)) (i64_succ (by omega))
      · rw [if_neg (fun hc => by rw [show ltT _ _ = false from h2] at hc; cases hc)] at q4
        exact ⟨⟨(i, (i + j) / 2, f'), by simp only; omega, by simp only; omega, by simp only; omega, q4⟩, by simp only; omega, ⟨rfl, rfl, rfl, rfl, rfl, rfl, trivial⟩, ⟨rfl, trivial⟩, rfl, rfl, rfl⟩
  · have hge : ¬ i < j := by simp at h1; omega
    have : bs (fun h => ltT (l.getD h default) x) f' i j = i := by
      cases f' with
      | zero => rfl
      | succ f' => rw [bs, if_neg hge]
    rw [this] at q4
    rw [← q4]
    exact ⟨rfl, ⟨rfl, rfl, rfl, rfl, rfl, trivial⟩, ⟨rfl, trivial⟩, rfl, rfl, rfl⟩
def T86 (l : List Attest) (x : Attest) : Tell :=
  Tell.mk (fun x x_1 => false) (fun x x_1 => Orc.no) (fun x_1 => Tree.done (Exit.exit 0) (E86 l x (posT l x))) (fun x => 0) (fun x => ([10, 9, 8, 4, 2, 0], [0]))
  (oget
  [(1, 8, 8, Orc.elem (encT (List.getD l (posT l x) default))),
  (1, 8, 11, Orc.call [encT (List.getD l (posT l x) default), encT x] (i64 (cmpI (List.getD l (posT l x) default).cust x.cust)))])
  fun x_1 x_2 => Tree.done (Exit.exit 0) (E86 l x (posT l x))
theorem t86 (l : List Attest) (x : Attest) : levF prog Proofs.Tryz.f86 [slE 2 encT l, encT x, fnV 51] (T86 l x) =
  Tree.loop 3
  (LState.mk
  [(10, AVal.imm (IVal.v (Value.int IntKind.i64 (↑(List.length (List.map encT l)) : Int)))), (9, AVal.imm (IVal.v (Value.int IntKind.i64 (0 : Int)))),
  (8, AVal.imm (IVal.v (Value.int IntKind.i64 (↑(List.length (List.map encT l)) : Int)))), (4, AVal.ptr 0 0), (2, AVal.imm (fnV 51)), (0, AVal.imm (slE 2 encT l))]
  [(0, Entry.box 57 (AVal.imm (encT x)))] 49 9 [])
  (Tree.done (Exit.exit 0) (E86 l x (posT l x)))
  (Tree.br (decide ((↑(posT l x) : Int) < (↑(List.length l) : Int)))
  (Tree.need ((0 : Int) ≤ (↑(posT l x) : Int) ∧ (List.map encT l)[posT l x]? = some (encT (List.getD l (posT l x) default)))
  (Tree.need
  (ILeL [encT (List.getD l (posT l x) default), encT x] [encT (List.getD l (posT l x) default), encT x] ∧ ASpec prog 51 [encT (List.getD l (posT l x) default), encT x] (i64 (cmpI (List.getD l (posT l x) default).cust x.cust)))
  (Tree.done Exit.ret (lret (IVal.tup [i64 (↑(posT l x) : Int), IVal.v (Value.bool (decide (cmpI (List.getD l (posT l x) default).cust x.cust = (0 : Int))))])))))
  (Tree.done Exit.ret (lret (IVal.tup [i64 (↑(posT l x) : Int), IVal.v (Value.bool false)])))) := by kernel_rfl
theorem posT_le (l : List Attest) (x : Attest) : posT l x ≤ l.length := (bs_bnd _ _ _ _ (Nat.zero_le _)).2
theorem c86 (l : List Attest) (x : Attest) (hl : l.length ≤ 2 ^ 61) : ASpec prog 86 [slE 2 encT l, encT x, fnV 51] (.tup [i64 (posT l x), bo (foundT l x)]) := by
  refine ASpec.treeW Proofs.Tryz.f86 (T86 l x) (by kernel_rfl) (by kernel_rfl) (t86 l x) ?_
  refine ⟨?_, ⟨fun h1 => need_sat (elem_need ?_) (need_sat ⟨ILeL.refl _, c51 _ _⟩ ⟨_, rfl, ?_⟩), fun h1 => ⟨_, rfl, ?_⟩⟩⟩
  · exact l86 l x hl _ ⟨⟨congrArg (fun n => AVal.imm (i64 n)) (by simp), rfl, congrArg (fun n => AVal.imm (i64 n)) (by simp), rfl, rfl, rfl, trivial⟩, ⟨rfl, trivial⟩, rfl, rfl, rfl⟩
  · have : posT l x < l.length := by simp at h1; omega
    exact ⟨by omega, by omega, rfl⟩
  · have : posT l x < l.length := by simp at h1; omega
    refine .tup (.cons (.refl _) (.cons ?_ (.refl _)))
    rw [foundT, decide_eq_true this]; exact .refl _
  · have : ¬ posT l x < l.length := by simp at h1; omega
    refine .tup (.cons (.refl _) (.cons ?_ (.refl _)))
    rw [foundT, decide_eq_false this]; exact .refl _
def posK (l : List RKey) (x : RKey) : Nat := bs (fun h => ltK (l.getD h default) x) l.length 0 l.length
def foundK (l : List RKey) (x : RKey) : Bool := decide (posK l x < l.length) && decide (cmpK (l.getD (posK l x) default) x = 0)
def I88 (l : List RKey) (x : RKey) (i j : Nat) : LState := { t := [(10, .imm (i64 j)), (9, .imm (i64 i)), (8, .imm (i64 l.length)), (4, .ptr 0 0), (2, .imm (fnV 54)), (0, .imm (slE 18 encK l))], s := [(0, .box 75 (.imm (encK x)))], m := 49, n := 1 }
def E88 (l : List RKey) (x : RKey) (i : Nat) : LState := { t := [(9, .imm (i64 i)), (8, .imm (i64 l.length)), (4, .ptr 0 0), (2, .imm (fnV 54)), (0, .imm (slE 18 encK l))], s := [(0, .box 75 (.imm (encK x)))], m := 49, n := 1 }
def fin88 : Exit → Fin
  | .normal => ⟨[], [10, 9, 8, 4, 2, 0], [0]⟩
  | _ => ⟨[], [9, 8, 4, 2, 0], [0]⟩
def T88r (l : List RKey) (x : RKey) (i j : Nat) : Tell :=
  Tell.mk (fun x x_1 => false) (fun x x_1 => Orc.no) (fun x => Tree.fail 1000003 0) (fun x => 0) (fun x => ([], []))
  (oget
  [(11, 5, 3, Orc.elem (encK (List.getD l (Int.toNat (IntKind.wrap IntKind.i64 (Int.fdiv (IntKind.wrap IntKind.u64 (IntKind.wrap IntKind.i64 ((↑i : Int) + (↑j : Int)))) (2 : Int)))) default))),
  (11, 5, 6,
  Orc.call [encK (List.getD l (Int.toNat (IntKind.wrap IntKind.i64 (Int.fdiv (IntKind.wrap IntKind.u64 (IntKind.wrap IntKind.i64 ((↑i : Int) + (↑j : Int)))) (2 : Int)))) default), encK x]
  (i64 (cmpK (List.getD l (Int.toNat (IntKind.wrap IntKind.i64 (Int.fdiv (IntKind.wrap IntKind.u64 (IntKind.wrap IntKind.i64 ((↑i : Int) + (↑j : Int)))) (2 : Int)))) default) x)))])
  fun x x_1 => Tree.fail 1000003 0
theorem t88r (l : List RKey) (x : RKey) (i j : Nat) : levL prog Proofs.Tryz.f88 3 (I88 l x i j) (T88r l x i j) fin88 =
  Tree.br (decide ((↑i : Int) < (↑j : Int)))
  (Tree.need ((0 : Int) ≤ (1 : Int))
  (Tree.need
  ((0 : Int) ≤ IntKind.wrap IntKind.i64 (Int.fdiv (IntKind.wrap IntKind.u64 (IntKind.wrap IntKind.i64 ((↑i : Int) + (↑j : Int)))) (2 : Int)) ∧
  (List.map encK l)[Int.toNat (IntKind.wrap IntKind.i64 (Int.fdiv (IntKind.wrap IntKind.u64 (IntKind.wrap IntKind.i64 ((↑i : Int) + (↑j : Int)))) (2 : Int)))]? =
  some (encK (List.getD l (Int.toNat (IntKind.wrap IntKind.i64 (Int.fdiv (IntKind.wrap IntKind.u64 (IntKind.wrap IntKind.i64 ((↑i : Int) + (↑j : Int)))) (2 : Int)))) default)))
  (Tree.need
  (ILeL [encK (List.getD l (Int.toNat (IntKind.wrap IntKind.i64 (Int.fdiv (IntKind.wrap IntKind.u64 (IntKind.wrap IntKind.i64 ((↑i : Int) + (↑j : Int)))) (2 : Int)))) default), encK x]
  [encK (List.getD l (Int.toNat (IntKind.wrap IntKind.i64 (Int.fdiv (IntKind.wrap IntKind.u64 (IntKind.wrap IntKind.i64 ((↑i : Int) + (↑j : Int)))) (2 : Int)))) default), encK x] ∧
  ASpec prog 54 [encK (List.getD l (Int.toNat (IntKind.wrap IntKind.i64 (Int.fdiv (IntKind.wrap IntKind.u64 (IntKind.wrap IntKind.i64 ((↑i : Int) + (↑j : Int)))) (2 : Int)))) default), encK x]
  (i64 (cmpK (List.getD l (Int.toNat (IntKind.wrap IntKind.i64 (Int.fdiv (IntKind.wrap IntKind.u64 (IntKind.wrap IntKind.i64 ((↑i : Int) + (↑j : Int)))) (2 : Int)))) default) x)))
  (Tree.br (decide (cmpK (List.getD l (Int.toNat (IntKind.wrap IntKind.i64 (Int.fdiv (IntKind.wrap IntKind.u64 (IntKind.wrap IntKind.i64 ((↑i : Int) + (↑j : Int)))) (2 : Int)))) default) x < (0 : Int)))
  (Tree.done Exit.normal
  (LState.mk
  [(10, AVal.imm (i64 (↑j : Int))),
  (9, AVal.imm (IVal.v (Value.int IntKind.i64 (IntKind.wrap IntKind.i64 (IntKind.wrap IntKind.i64 (Int.fdiv (IntKind.wrap IntKind.u64 (IntKind.wrap IntKind.i64 ((↑i : Int) + (↑j : Int)))) (2 : Int)) + (1 : Int)))))),
  (8, AVal.imm (i64 (↑(List.length l) : Int))), (4, AVal.ptr 0 0), (2, AVal.imm (fnV 54)), (0, AVal.imm (slE 18 encK l))]
  [(0, Entry.box 75 (AVal.imm (encK x)))] 49 22 []))
  (Tree.done Exit.normal
  (LState.mk
  [(10, AVal.imm (IVal.v (Value.int IntKind.i64 (IntKind.wrap IntKind.i64 (Int.fdiv (IntKind.wrap IntKind.u64 (IntKind.wrap IntKind.i64 ((↑i : Int) + (↑j : Int)))) (2 : Int)))))), (9, AVal.imm (i64 (↑i : Int))),
  (8, AVal.imm (i64 (↑(List.length l) : Int))), (4, AVal.ptr 0 0), (2, AVal.imm (fnV 54)), (0, AVal.imm (slE 18 encK l))]
  [(0, Entry.box 75 (AVal.imm (encK x)))] 49 21 []))))))
  (Tree.done (Exit.exit 0)
  (LState.mk [(9, AVal.imm (i64 (↑i : Int))), (8, AVal.imm (i64 (↑(List.length l) : Int))), (4, AVal.ptr 0 0), (2, AVal.imm (fnV 54)), (0, AVal.imm (slE 18 encK l))]
  [(0, Entry.box 75 (AVal.imm (encK x)))] 49 4 [])) := by kernel_rfl
theorem l88 (l : List RKey) (x : RKey) (hl : l.length ≤ 2 ^ 61) (σ : LState) (h : LSub σ (I88 l x 0 l.length)) : LoopOk prog [] (bodyOf Proofs.Tryz.f88) 3 σ (.done (.exit 0) (E88 l x (posK l x))) := by
  refine LoopOk.of_levL (γ := { g : Nat × Nat × Nat // g.1 ≤ g.2.1 ∧ g.2.1 ≤ l.length ∧ g.2.1 - g.1 ≤ g.2.2 ∧ bs (fun h => ltK (l.getD h default) x) g.2.2 g.1 g.2.1 = posK l x })
    (fun g => T88r l x g.1.1 g.1.2.1) fin88 (fun g => I88 l x g.1.1 g.1.2.1) (fun g => g.1.2.1 - g.1.1) ⟨(0, l.length, l.length), by simp, by simp, by simp, rfl⟩ (by kernel_rfl) h ?_
  rintro ⟨⟨i, j, f'⟩, q1, q2, q3, q4⟩
  simp only at q1 q2 q3 q4
  simp only []
  have e1 := i64_half (i := i) (j := j) (by omega)
  rw [t88r]
  simp only [e1, Int.toNat_natCast]
  refine ⟨fun h1 => ?_, fun h1 => ?_⟩
  · have hlt : i < j := by simp at h1; omega
    cases f' with
    | zero => omega
    | succ f' =>
      rw [bs, if_pos hlt] at q4
      refine ⟨by omega, fun _ => ⟨⟨by omega, getD_map _ _ _ _ (by omega)⟩, fun _ => ⟨⟨ILeL.refl _, c54 _ _⟩, fun _ => ⟨fun h2 => ?_, fun h2 => ?_⟩⟩⟩⟩
      · rw [if_pos (show ltK _ _ = true from h2)] at q4
        refine ⟨⟨((i + j) / 2 + 1, j, f'), by simp only; omega, q2, by simp only; omega, q4⟩, by simp only; omega, ⟨rfl, ?_, rfl, rfl, rfl, rfl, trivial⟩, ⟨rfl, trivial⟩, rfl, rfl, rfl⟩
        exact congrArg (fun n => AVal.imm (i64 n)) (i64_succ (by omega))
      · rw [if_neg (fun hc => by rw [show ltK _ _ = false from h2] at hc; cases hc)] at q4
        exact ⟨⟨(i, (i + j) / 2, f'), by simp only; omega, by simp only; omega, by simp only; omega, q4⟩, by simp only; omega, ⟨rfl, rfl, rfl, rfl, rfl, rfl, trivial⟩, ⟨rfl, trivial⟩, rfl, rfl, rfl⟩
  · have hge : ¬ i < j := by simp at h1; omega
    have : bs (fun h => ltK (l.getD h default) x) f' i j = i := by
      cases f' with
      | zero => rfl
      | succ f' => rw [bs, if_neg hge]
    rw [this] at q4
    rw [← q4]
    exact ⟨rfl, ⟨rfl, rfl, rfl, rfl, rfl, trivial⟩, ⟨rfl, trivial⟩, rfl, rfl, rfl⟩
def T88 (l : List RKey) (x : RKey) : Tell :=
  Tell.mk (fun x x_1 => false) (fun x x_1 => Orc.no) (fun x_1 => Tree.done (Exit.exit 0) (E88 l x (posK l x))) (fun x => 0) (fun x => ([10, 9, 8, 4, 2, 0], [0]))
  (oget [(1, 8, 8, Orc.elem (encK (List.getD l (posK l x) default))), (1, 8, 11, Orc.call [encK (List.getD l (posK l x) default), encK x] (i64 (cmpK (List.getD l (posK l x) default) x)))])
  fun x_1 x_2 => Tree.done (Exit.exit 0) (E88 l x (posK l x))
theorem t88 (l : List RKey) (x : RKey) : levF prog Proofs.Tryz.f88 [slE 18 encK l, encK x, fnV 54] (T88 l x) =
  Tree.loop 3
  (LState.mk
  [(10, AVal.imm (IVal.v (Value.int IntKind.i64 (↑(List.length (List.map encK l)) : Int)))), (9, AVal.imm (IVal.v (Value.int IntKind.i64 (0 : Int)))),
  (8, AVal.imm (IVal.v (Value.int IntKind.i64 (↑(List.length (List.map encK l)) : Int)))), (4, AVal.ptr 0 0), (2, AVal.imm (fnV 54)), (0, AVal.imm (slE 18 encK l))]
  [(0, Entry.box 75 (AVal.imm (encK x)))] 49 9 [])
  (Tree.done (Exit.exit 0) (E88 l x (posK l x)))
  (Tree.br (decide ((↑(posK l x) : Int) < (↑(List.length l) : Int)))
  (Tree.need ((0 : Int) ≤ (↑(posK l x) : Int) ∧ (List.map encK l)[posK l x]? = some (encK (List.getD l (posK l x) default)))
  (Tree.need (ILeL [encK (List.getD l (posK l x) default), encK x] [encK (List.getD l (posK l x) default), encK x] ∧ ASpec prog 54 [encK (List.getD l (posK l x) default), encK x] (i64 (cmpK (List.getD l (posK l x) default) x)))
  (Tree.done Exit.ret (lret (IVal.tup [i64 (↑(posK l x) : Int), IVal.v (Value.bool (decide (cmpK (List.getD l (posK l x) default) x = (0 : Int))))])))))
  (Tree.done Exit.ret (lret (IVal.tup [i64 (↑(posK l x) : Int), IVal.v (Value.bool false)])))) := by kernel_rfl
theorem posK_le (l : List RKey) (x : RKey) : posK l x ≤ l.length := (bs_bnd _ _ _ _ (Nat.zero_le _)).2
theorem c88 (l : List RKey) (x : RKey) (hl : l.length ≤ 2 ^ 61) : ASpec prog 88 [slE 18 encK l, encK x, fnV 54] (.tup [i64 (posK l x), bo (foundK l x)]) := by
  refine ASpec.treeW Proofs.Tryz.f88 (T88 l x) (by kernel_rfl) (by kernel_rfl) (t88 l x) ?_
  refine ⟨?_, ⟨fun h1 => need_sat (elem_need ?_) (need_sat ⟨ILeL.refl _, c54 _ _⟩ ⟨_, rfl, ?_⟩), fun h1 => ⟨_, rfl, ?_⟩⟩⟩
  · exact l88 l x hl _ ⟨⟨congrArg (fun n => AVal.imm (i64 n)) (by simp), rfl, congrArg (fun n => AVal.imm (i64 n)) (by simp), rfl, rfl, rfl, trivial⟩, ⟨rfl, trivial⟩, rfl, rfl, rfl⟩
  · have : posK l x < l.length := by simp at h1; omega
    exact ⟨by omega, by omega, rfl⟩
  · have : posK l x < l.length := by simp at h1; omega
    refine .tup (.cons (.refl _) (.cons ?_ (.refl _)))
    rw [foundK, decide_eq_true this]; exact .refl _
  · have : ¬ posK l x < l.length := by simp at h1; omega
    refine .tup (.cons (.refl _) (.cons ?_ (.refl _)))
    rw [foundK, decide_eq_false this]; exact .refl _
end Gp
