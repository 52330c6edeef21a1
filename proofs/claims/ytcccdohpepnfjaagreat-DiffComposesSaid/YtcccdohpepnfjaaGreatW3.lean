/- Part 3 of the walk and of the plain law of DiffComposes. -/
import Derived.Test.YtcccdohpepnfjaaGreatW2
set_option maxRecDepth 100000
set_option maxHeartbeats 0
set_option linter.unusedVariables false
set_option linter.unusedSimpArgs false
open Go Go.Abs
namespace Gp
def ltO_k {κ : Kd} (a b : κ.ty) : Bool := decide (κ.c a b < 0)
def ltO (a b : Origin) : Bool := ltO_k (κ := .O) a b
def ltT (a b : Attest) : Bool := ltO_k (κ := .T) a b
def ltK (a b : RKey) : Bool := ltO_k (κ := .K) a b
def J117_k {κ : Kd} (l0 : Abs.Loc) (a b i j : Nat) (x : List κ.ty) : LState := { t := [(9, .imm (i64 j)), (8, .imm (i64 i)), (3, .imm (fnV κ.n48)), (2, .imm (i64 b)), (1, .imm (i64 a)), (0, .own 0 x.length)], s := [(0, .brow l0 κ.n68 κ.n6 (x.map κ.e))], m := 53, n := 1 }
def I117_k {κ : Kd} (l0 : Abs.Loc) (a b i : Nat) (x : List κ.ty) : LState := { t := [(8, .imm (i64 i)), (3, .imm (fnV κ.n48)), (2, .imm (i64 b)), (1, .imm (i64 a)), (0, .own 0 x.length)], s := [(0, .brow l0 κ.n68 κ.n6 (x.map κ.e))], m := 53, n := 1 }
def finJ117_k : Exit → Fin
  | .normal => ⟨[], [9, 8, 3, 2, 1, 0], [0]⟩
  | _ => ⟨[], [8, 3, 2, 1, 0], [0]⟩
def TJ117r_k {κ : Kd} (l0 : Abs.Loc) (a b i j : Nat) (x : List κ.ty) : Tell :=
  Tell.mk (fun x x_1 => false) (fun x x_1 => Orc.no) (fun x => Tree.fail 1000003 0) (fun x => 0) (fun x => ([], []))
  (oget
  [(1, 4, 8, Orc.elem (κ.e (List.getD x j default))), (1, 4, 13, Orc.elem (κ.e (List.getD x (Int.toNat (IntKind.wrap IntKind.i64 ((↑j : Int) - (1 : Int)))) default))),
  (1, 4, 14,
  Orc.call [κ.e (List.getD x j default), κ.e (List.getD x (Int.toNat (IntKind.wrap IntKind.i64 ((↑j : Int) - (1 : Int)))) default)]
  (i64 (κ.c (List.getD x j default) (List.getD x (Int.toNat (IntKind.wrap IntKind.i64 ((↑j : Int) - (1 : Int)))) default)))),
  (18, 6, 9, Orc.elem (κ.e (List.getD x (Int.toNat (IntKind.wrap IntKind.i64 ((↑j : Int) - (1 : Int)))) default))), (18, 6, 13, Orc.elem (κ.e (List.getD x j default))),
  (18, 6, 15, Orc.elem (IVal.tup [])), (18, 6, 17, Orc.elem (IVal.tup []))])
  fun x x_1 => Tree.fail 1000003 0
theorem tJ117r_k {κ : Kd} (l0 : Abs.Loc) (a b i j : Nat) (x : List κ.ty) : levL prog κ.f117 4 (J117_k l0 a b i j x) (TJ117r_k l0 a b i j x) finJ117_k =
  Tree.br (decide ((↑a : Int) < (↑j : Int)))
  (Tree.need ((0 : Int) ≤ (↑j : Int) ∧ j < List.length x)
  (Tree.need ((List.map κ.e x)[j]? = some (κ.e (List.getD x j default)))
  (Tree.need ((0 : Int) ≤ IntKind.wrap IntKind.i64 ((↑j : Int) - (1 : Int)) ∧ Int.toNat (IntKind.wrap IntKind.i64 ((↑j : Int) - (1 : Int))) < List.length x)
  (Tree.need ((List.map κ.e x)[Int.toNat (IntKind.wrap IntKind.i64 ((↑j : Int) - (1 : Int)))]? = some (κ.e (List.getD x (Int.toNat (IntKind.wrap IntKind.i64 ((↑j : Int) - (1 : Int)))) default)))
  (Tree.need
  (ILeL [κ.e (List.getD x j default), κ.e (List.getD x (Int.toNat (IntKind.wrap IntKind.i64 ((↑j : Int) - (1 : Int)))) default)]
  [κ.e (List.getD x j default), κ.e (List.getD x (Int.toNat (IntKind.wrap IntKind.i64 ((↑j : Int) - (1 : Int)))) default)] ∧
  ASpec prog κ.n48 [κ.e (List.getD x j default), κ.e (List.getD x (Int.toNat (IntKind.wrap IntKind.i64 ((↑j : Int) - (1 : Int)))) default)]
  (i64 (κ.c (List.getD x j default) (List.getD x (Int.toNat (IntKind.wrap IntKind.i64 ((↑j : Int) - (1 : Int)))) default))))
  (Tree.br (decide (κ.c (List.getD x j default) (List.getD x (Int.toNat (IntKind.wrap IntKind.i64 ((↑j : Int) - (1 : Int)))) default) < (0 : Int)))
  (Tree.need ((0 : Int) ≤ IntKind.wrap IntKind.i64 ((↑j : Int) - (1 : Int)) ∧ Int.toNat (IntKind.wrap IntKind.i64 ((↑j : Int) - (1 : Int))) < List.length x)
  (Tree.need ((List.map κ.e x)[Int.toNat (IntKind.wrap IntKind.i64 ((↑j : Int) - (1 : Int)))]? = some (κ.e (List.getD x (Int.toNat (IntKind.wrap IntKind.i64 ((↑j : Int) - (1 : Int)))) default)))
  (Tree.need ((0 : Int) ≤ (↑j : Int) ∧ j < List.length x)
  (Tree.need ((List.map κ.e x)[j]? = some (κ.e (List.getD x j default)))
  (Tree.need ((0 : Int) ≤ (↑j : Int) ∧ j < List.length x)
  (Tree.need (j < List.length (List.map κ.e x))
  (Tree.need ((0 : Int) ≤ IntKind.wrap IntKind.i64 ((↑j : Int) - (1 : Int)) ∧ Int.toNat (IntKind.wrap IntKind.i64 ((↑j : Int) - (1 : Int))) < List.length x)
  (Tree.need (Int.toNat (IntKind.wrap IntKind.i64 ((↑j : Int) - (1 : Int))) < List.length (List.set (List.map κ.e x) j (κ.e (List.getD x (Int.toNat (IntKind.wrap IntKind.i64 ((↑j : Int) - (1 : Int)))) default))))
  (Tree.done Exit.normal
  (LState.mk
  [(9, AVal.imm (IVal.v (Value.int IntKind.i64 (IntKind.wrap IntKind.i64 ((↑j : Int) - (1 : Int)))))), (8, AVal.imm (i64 (↑i : Int))), (3, AVal.imm (fnV κ.n48)),
  (2, AVal.imm (i64 (↑b : Int))), (1, AVal.imm (i64 (↑a : Int))), (0, AVal.own 0 (List.length x))]
  [(0,
  Entry.brow l0 κ.n68 κ.n6
  (List.set (List.set (List.map κ.e x) j (κ.e (List.getD x (Int.toNat (IntKind.wrap IntKind.i64 ((↑j : Int) - (1 : Int)))) default))) (Int.toNat (IntKind.wrap IntKind.i64 ((↑j : Int) - (1 : Int))))
  (κ.e (List.getD x j default))))]
  53 39 []))))))))))
  (Tree.done (Exit.exit 2)
  (LState.mk [(8, AVal.imm (i64 (↑i : Int))), (3, AVal.imm (fnV κ.n48)), (2, AVal.imm (i64 (↑b : Int))), (1, AVal.imm (i64 (↑a : Int))), (0, AVal.own 0 (List.length x))]
  [(0, Entry.brow l0 κ.n68 κ.n6 (List.map κ.e x))] 53 18 []))))))))
  (Tree.done (Exit.exit 2)
  (LState.mk [(8, AVal.imm (i64 (↑i : Int))), (3, AVal.imm (fnV κ.n48)), (2, AVal.imm (i64 (↑b : Int))), (1, AVal.imm (i64 (↑a : Int))), (0, AVal.own 0 (List.length x))]
  [(0, Entry.brow l0 κ.n68 κ.n6 (List.map κ.e x))] 53 18 [])) := by cases κ <;> kernel_rfl
theorem lJ117_k {κ : Kd} (l0 : Abs.Loc) (a b i j : Nat) (x : List κ.ty) (hj : j < x.length) (hl : x.length ≤ 2 ^ 61) (σ : LState) (h : LSub σ (J117_k l0 a b i j x)) : LoopOk prog [] (bodyOf κ.f117) 4 σ (.done (.exit 2) (I117_k l0 a b i (insJ (ltO_k (κ := κ)) a j x))) := by
  refine LoopOk.of_levL (γ := { g : Nat × List κ.ty // g.1 < g.2.length ∧ g.2.length = x.length ∧ insJ (ltO_k (κ := κ)) a g.1 g.2 = insJ (ltO_k (κ := κ)) a j x }) (fun g => TJ117r_k l0 a b i g.1.1 g.1.2) finJ117_k (fun g => J117_k l0 a b i g.1.1 g.1.2) (fun g => g.1.1) ⟨(j, x), hj, rfl, rfl⟩ (by cases κ <;> kernel_rfl) h ?_
  rintro ⟨⟨j, y⟩, q1, q2, q3⟩
  simp only at q1 q2 q3
  simp only []
  have e1 : 0 < j → IntKind.i64.wrap ((j : Int) - 1) = ((j - 1 : Nat) : Int) := fun h => by rw [IntWalk.i64_in _ (by omega)]; omega
  rw [tJ117r_k]
  refine ⟨fun h1 => need_sat ?_ (need_sat (elem_need' ?_) (need_sat ?_ (need_sat (elem_need' ?_) (need_sat ⟨ILeL.refl _, Kd.cby _ _⟩ ⟨fun h2 => need_sat ?_ (need_sat (elem_need' ?_) (need_sat ?_ (need_sat (elem_need' ?_) (need_sat ?_ (need_sat ?_ (need_sat ?_ (need_sat ?_ ?_))))))), fun h2 => ?_⟩)))), fun h1 => ?_⟩
  · omega
  · omega
  · rw [e1 (by simp at h1; omega)]; omega
  · rw [e1 (by simp at h1; omega)]; omega
  · rw [e1 (by simp at h1; omega)]; omega
  · rw [e1 (by simp at h1; omega)]; omega
  · omega
  · omega
  · omega
  · simpa using q1
  · rw [e1 (by simp at h1; omega)]; omega
  · rw [e1 (by simp at h1; omega)]; simp; omega
  · have hj : 0 < j := by simp at h1; omega
    have haj : a < j := by simp at h1; omega
    rw [e1 hj, Int.toNat_natCast] at h2 ⊢
    obtain ⟨k, rfl⟩ : ∃ k, j = k + 1 := ⟨j - 1, by omega⟩
    rw [insJ, if_pos ⟨haj, h2⟩] at q3
    refine ⟨⟨(k, swp y (k + 1) k), by simp only [swp_length]; omega, by simp only [swp_length]; omega, q3⟩, by simp only; omega, ?_⟩
    refine ⟨⟨rfl, rfl, rfl, rfl, rfl, congrArg (AVal.own 0) (swp_length _ _ _).symm, trivial⟩, ⟨?_, trivial⟩, rfl, rfl, rfl⟩
    refine congrArg (fun l => some (Entry.brow l0 κ.n68 κ.n6 l)) ?_
    simp only [swp, List.map_set, Nat.add_sub_cancel]
  · have hj : 0 < j := by simp at h1; omega
    rw [e1 hj, Int.toNat_natCast] at h2
    obtain ⟨k, rfl⟩ : ∃ k, j = k + 1 := ⟨j - 1, by omega⟩
    rw [insJ, if_neg (fun hc => by have hc2 := hc.2; rw [show (ltO_k (κ := κ)) (y.getD (k + 1) default) (y.getD k default) = false from h2] at hc2; cases hc2)] at q3
    rw [← q3]
    exact ⟨rfl, ⟨rfl, rfl, rfl, rfl, rfl, trivial⟩, ⟨rfl, trivial⟩, rfl, rfl, rfl⟩
  · have q4 : insJ (ltO_k (κ := κ)) a j y = y := by
      cases j with
      | zero => rfl
      | succ k => rw [insJ, if_neg (fun hc => by have := hc.1; simp at h1; omega)]
    rw [q4] at q3
    rw [← q3]
    exact ⟨rfl, ⟨rfl, rfl, rfl, rfl, rfl, trivial⟩, ⟨rfl, trivial⟩, rfl, rfl, rfl⟩
def E117_k {κ : Kd} (l0 : Abs.Loc) (x : List κ.ty) : LState := { t := [], s := [(0, .brow l0 κ.n68 κ.n6 (x.map κ.e))], m := 53, n := 1 }
def fin117_k : Exit → Fin
  | .normal => ⟨[], [8, 3, 2, 1, 0], [0]⟩
  | _ => ⟨[], [], [0]⟩
def T117r_k {κ : Kd} (l0 : Abs.Loc) (a b i : Nat) (x y : List κ.ty) : Tell :=
  Tell.mk (fun x x_1 => false) (fun x x_1 => Orc.no) (fun x => Tree.done (Exit.exit 2) (I117_k l0 a b i y)) (fun x => 0) (fun x => ([9, 8, 3, 2, 1, 0], [0]))
  (fun x x_1 x_2 => Orc.no) fun x x_1 => Tree.done (Exit.exit 2) (I117_k l0 a b i y)
theorem t117r_k {κ : Kd} (l0 : Abs.Loc) (a b i : Nat) (x y : List κ.ty) : levL prog κ.f117 1 (I117_k l0 a b i x) (T117r_k l0 a b i x y) fin117_k =
  Tree.br (decide ((↑i : Int) < (↑b : Int)))
  (Tree.loop 4
  (LState.mk
  [(9, AVal.imm (i64 (↑i : Int))), (8, AVal.imm (i64 (↑i : Int))), (3, AVal.imm (fnV κ.n48)), (2, AVal.imm (i64 (↑b : Int))), (1, AVal.imm (i64 (↑a : Int))),
  (0, AVal.own 0 (List.length x))]
  [(0, Entry.brow l0 κ.n68 κ.n6 (List.map κ.e x))] 53 6 [])
  (Tree.done (Exit.exit 2) (I117_k l0 a b i y))
  (Tree.done Exit.normal
  (LState.mk
  [(8, AVal.imm (IVal.v (Value.int IntKind.i64 (IntKind.wrap IntKind.i64 ((↑i : Int) + (1 : Int)))))), (3, AVal.imm (fnV κ.n48)), (2, AVal.imm (i64 (↑b : Int))), (1, AVal.imm (i64 (↑a : Int))),
  (0, AVal.own 0 (List.length y))]
  [(0, Entry.brow l0 κ.n68 κ.n6 (List.map κ.e y))] 53 4 [])))
  (Tree.done (Exit.exit 0) (LState.mk [] [(0, Entry.brow l0 κ.n68 κ.n6 (List.map κ.e x))] 53 4 [])) := by cases κ <;> kernel_rfl
def T117_k {κ : Kd} (l0 : Abs.Loc) (l y : List κ.ty) (a b : Nat) : Tell :=
  Tell.mk (fun x x_1 => false) (fun x x_1 => Orc.no) (fun x => Tree.done (Exit.exit 0) (E117_k l0 y)) (fun x => 0) (fun x => ([8, 3, 2, 1, 0], [0])) (fun x x_1 x_2 => Orc.no)
  fun x x_1 => Tree.done (Exit.exit 0) (E117_k l0 y)
theorem t117_k {κ : Kd} (l0 : Abs.Loc) (l y : List κ.ty) (a b : Nat) : levW prog κ.f117 l0 κ.n68 κ.n6 (l.map κ.e) [i64 a, i64 b, fnV κ.n48] (T117_k l0 l y a b) =
  Tree.loop 1
  (LState.mk
  [(8, AVal.imm (IVal.v (Value.int IntKind.i64 (IntKind.wrap IntKind.i64 ((↑a : Int) + (1 : Int)))))), (3, AVal.imm (fnV κ.n48)), (2, AVal.imm (i64 (↑b : Int))), (1, AVal.imm (i64 (↑a : Int))),
  (0, AVal.own 0 (List.length (List.map κ.e l)))]
  [(0, Entry.brow l0 κ.n68 κ.n6 (List.map κ.e l))] 53 4 [])
  (Tree.done (Exit.exit 0) (E117_k l0 y)) (Tree.need (eqs []) (Tree.done Exit.ret (lretW l0 κ.n68 κ.n6 (IVal.tup []) (List.map κ.e y)))) := by cases κ <;> kernel_rfl
theorem l117_k {κ : Kd} (l0 : Abs.Loc) (a b : Nat) (l : List κ.ty) (hb : b ≤ l.length) (hl : l.length ≤ 2 ^ 61) (ha : a ≤ 2 ^ 61) (σ : LState) (h : LSub σ (I117_k l0 a b (a + 1) l)) : LoopOk prog [] (bodyOf κ.f117) 1 σ (.done (.exit 0) (E117_k l0 (ins (ltO_k (κ := κ)) a b l))) := by
  refine LoopOk.count (b - (a + 1)) 0 (fun n => I117_k l0 a b (a + 1 + n) (insR (ltO_k (κ := κ)) a l n)) (E117_k l0 (ins (ltO_k (κ := κ)) a b l)) (fun n => T117r_k l0 a b (a + 1 + n) (insR (ltO_k (κ := κ)) a l n) (insR (ltO_k (κ := κ)) a l (n + 1))) fin117_k (by cases κ <;> kernel_rfl) h fun n hn => ?_
  rw [t117r_k]
  refine ⟨fun h1 => ⟨?_, ?_⟩, fun h1 => ?_⟩
  · have hlt : a + 1 + n < b := by simp at h1; omega
    have hlen := insR_length (ltO_k (κ := κ)) a l n (by omega)
    exact lJ117_k l0 a b (a + 1 + n) (a + 1 + n) _ (by omega) (by omega) _ ⟨⟨rfl, rfl, rfl, rfl, rfl, rfl, trivial⟩, ⟨rfl, trivial⟩, rfl, rfl, rfl⟩
  · have hlt : a + 1 + n < b := by simp at h1; omega
    refine ⟨by omega, ⟨?_, rfl, rfl, rfl, rfl, trivial⟩, ⟨rfl, trivial⟩, rfl, rfl, rfl⟩
    exact congrArg (fun n => AVal.imm (i64 n)) (by rw [IntWalk.i64_in _ (by omega)]; omega)
  · have hge : b ≤ a + 1 + n := by simp at h1; omega
    have : n = b - (a + 1) := by omega
    subst this
    exact ⟨rfl, by omega, ⟨trivial, ⟨rfl, trivial⟩, rfl, rfl, rfl⟩⟩
theorem w117_k {κ : Kd} (l : List κ.ty) (a b : Nat) (hb : b ≤ l.length) (hl : l.length ≤ 2 ^ 61) (ha : a ≤ 2 ^ 61) : WSpec prog κ.n117 κ.n68 κ.n6 (l.map κ.e) [i64 a, i64 b, fnV κ.n48] (.tup []) ((ins (ltO_k (κ := κ)) a b l).map κ.e) := by
  refine WSpec.tree κ.f117 (fun l0 => T117_k l0 l (ins (ltO_k (κ := κ)) a b l) a b) (by cases κ <;> kernel_rfl) (by cases κ <;> kernel_rfl) (by cases κ <;> kernel_rfl) fun l0 => ?_
  rw [t117_k]
  refine ⟨?_, need_sat ?_ (lretW_ex ?_ ?_)⟩
  · refine l117_k l0 a b l hb hl ha _ ⟨⟨congrArg (fun n => AVal.imm (i64 n)) (by rw [IntWalk.i64_in _ (by omega)]; omega), rfl, rfl, rfl, by simp [tl], trivial⟩, ⟨rfl, trivial⟩, rfl, rfl, rfl⟩
  · exact trivial
  · rfl
  · exact .refl _
end Gp
