/- Part 5 of the walk and of the plain law of DiffComposes. -/
import Derived.Test.YtcccdohpepnfjaaGreatW4
import Derived.Shelf.Spec.SlicesGrow
set_option maxRecDepth 100000
set_option maxHeartbeats 0
set_option linter.unusedVariables false
set_option linter.unusedSimpArgs false
open Go Go.Abs
namespace Gp
theorem sat_brd {Λ : Nat → LState → Tree → Prop} {Q : Exit → LState → Prop} {p : Prop} {_ : Decidable p} {t f : Tree} (h1 : p → t.sat Λ Q) (h2 : ¬ p → f.sat Λ Q) : (Tree.br (decide p) t f).sat Λ Q := ⟨fun h => h1 (of_decide_eq_true h), fun h => h2 (of_decide_eq_false h)⟩
theorem sat_loops {Λ : Nat → LState → Tree → Prop} {Q : Exit → LState → Prop} {b : Bool} {k : Nat} {s1 s2 : LState} {L T : Tree} (h : T.sat Λ Q) (h1 : b = true → Λ k s1 L) (h2 : b = false → Λ k s2 L) : (Tree.br b (.loop k s1 L T) (.loop k s2 L T)).sat Λ Q := ⟨fun hb => ⟨h1 hb, h⟩, fun hb => ⟨h2 hb, h⟩⟩
theorem w118n_k {κ : Kd} : ∀ N (l : List κ.ty) (a m b : Nat), b - a ≤ N → a < m → m < b → b ≤ l.length → l.length ≤ 2 ^ 61 → WSpec prog κ.n118 κ.n68 κ.n6 (l.map κ.e) [i64 a, i64 m, i64 b, fnV κ.n48] (.tup []) ((symF (ltO_k (κ := κ)) a m b l).map κ.e)
  | 0, l, a, m, b, h0, h1, h2, h3, hl => by omega
  | N + 1, l, a, m, b, h0, h1, h2, h3, hl => by
    have ih := w118n_k (κ := κ) N
    obtain ⟨s, hs⟩ : ∃ s, s = symS (ltO_k (κ := κ)) a m b l := ⟨_, rfl⟩
    have hb1 : (if (a + b) / 2 < m then (a + b) / 2 + m - b else a) ≤ s ∧ s ≤ (if (a + b) / 2 < m then (a + b) / 2 else m) := by
      rw [hs]; exact bs_bnd _ _ _ _ (by split <;> omega)
    have hm0 : IntKind.i64.wrap ((m : Int) - (a : Int)) = ((m - a : Nat) : Int) := i64_sub (by omega) (by omega)
    have hm1 : IntKind.i64.wrap ((b : Int) - (m : Int)) = ((b - m : Nat) : Int) := i64_sub (by omega) (by omega)
    have hmid := i64_half (i := a) (j := b) (by omega)
    have hn : IntKind.i64.wrap ((((a + b) / 2 : Nat) : Int) + (m : Int)) = (((a + b) / 2 + m : Nat) : Int) := i64_add (by omega)
    have hq : IntKind.i64.wrap ((((a + b) / 2 + m : Nat) : Int) - 1) = (((a + b) / 2 + m - 1 : Nat) : Int) := by rw [IntWalk.i64_in _ (by omega)]; omega
    have s1 : a ≤ s := by have := hb1.1; split at this <;> omega
    have s2 : s ≤ m := by have := hb1.2; split at this <;> omega
    have s3 : s ≤ (a + b) / 2 := by have := hb1.2; split at this <;> omega
    have e2 : (a + b) / 2 + m - s ≤ b := by have := hb1.1; split at this <;> omega
    have he : IntKind.i64.wrap ((((a + b) / 2 + m : Nat) : Int) - (s : Int)) = (((a + b) / 2 + m - s : Nat) : Int) := i64_sub (by omega) (by omega)
    refine WSpec.tree κ.f118 (fun l0 => T118_k l0 a m b (bs (fun h => (ltO_k (κ := κ)) (l.getD h default) (l.getD a default)) (b - m) m b) (bs (fun h => !(ltO_k (κ := κ)) (l.getD m default) (l.getD h default)) (m - a) a m) ((a + b) / 2 + m) ((a + b) / 2) s l
      (bubU a l (bs (fun h => (ltO_k (κ := κ)) (l.getD h default) (l.getD a default)) (b - m) m b - 1 - a)) (bubD m l (m - bs (fun h => !(ltO_k (κ := κ)) (l.getD m default) (l.getD h default)) (m - a) a m))) (by cases κ <;> kernel_rfl) (by cases κ <;> kernel_rfl) (by cases κ <;> kernel_rfl) fun l0 => ?_
    rw [t118_k]
    have hfuel : b - a = (b - a - 1) + 1 := by omega
    refine ⟨fun g1 => ⟨?_, ?_, trivial, fun _ => lretW_ex ?_ (.refl _)⟩, fun g1 => ⟨fun g2 => ⟨?_, ?_, trivial, fun _ => lretW_ex ?_ (.refl _)⟩, fun g2 => ⟨by omega, fun _ => ?_⟩⟩⟩
    · exact lA118_k l0 a m b (b - m) l (by omega) (by omega) h3 hl (Nat.le_refl _) _ ⟨⟨rfl, rfl, rfl, rfl, by simp [tl], trivial⟩, ⟨rfl, trivial⟩, rfl, rfl, rfl⟩
    · have hbb := bs_bnd (fun h => (ltO_k (κ := κ)) (l.getD h default) (l.getD a default)) (b - m) m b (by omega)
      exact lB118_k l0 a _ l (by omega) (by omega) hl _ ⟨⟨rfl, rfl, rfl, trivial⟩, ⟨rfl, trivial⟩, rfl, rfl, rfl⟩
    · have g1 : m - a = 1 := by rw [hm0] at g1; simp at g1; omega
      rw [symF, hfuel, sym, if_pos g1]
    · exact lC118_k l0 m a m (m - a) l (by omega) (by omega) (by omega) hl (Nat.le_refl _) _ ⟨⟨rfl, rfl, rfl, rfl, by simp [tl], trivial⟩, ⟨rfl, trivial⟩, rfl, rfl, rfl⟩
    · have hbb := bs_bnd (fun h => !(ltO_k (κ := κ)) (l.getD m default) (l.getD h default)) (m - a) a m (by omega)
      exact lD118_k l0 m _ l (by omega) (by omega) hl _ ⟨⟨rfl, rfl, rfl, trivial⟩, ⟨rfl, trivial⟩, rfl, rfl, rfl⟩
    · have g1 : ¬ m - a = 1 := by rw [hm0] at g1; simp at g1; omega
      have g2 : b - m = 1 := by rw [hm1] at g2; simp at g2; omega
      rw [symF, hfuel, sym, if_neg g1, if_pos g2]
    · have g1 : ¬ m - a = 1 := by rw [hm0] at g1; simp at g1; omega
      have g2 : ¬ b - m = 1 := by rw [hm1] at g2; simp at g2; omega
      have hres : symF (ltO_k (κ := κ)) a m b l = (if (a + b) / 2 < (a + b) / 2 + m - s ∧ (a + b) / 2 + m - s < b then symF (ltO_k (κ := κ)) ((a + b) / 2) ((a + b) / 2 + m - s) b (if a < s ∧ s < (a + b) / 2 then symF (ltO_k (κ := κ)) a s ((a + b) / 2) (symR m s ((a + b) / 2 + m - s) l) else symR m s ((a + b) / 2 + m - s) l) else (if a < s ∧ s < (a + b) / 2 then symF (ltO_k (κ := κ)) a s ((a + b) / 2) (symR m s ((a + b) / 2 + m - s) l) else symR m s ((a + b) / 2 + m - s) l)) := by
        rw [symF, hfuel, sym, if_neg g1, if_neg g2]
        simp only [← hs]
        have k1 : ∀ x, (if a < s ∧ s < (a + b) / 2 then sym (ltO_k (κ := κ)) (b - a - 1) a s ((a + b) / 2) x else x) = (if a < s ∧ s < (a + b) / 2 then symF (ltO_k (κ := κ)) a s ((a + b) / 2) x else x) := fun x => by
          split
          · rename_i hc; exact symF_eq _ (by omega) hc.1 hc.2
          · rfl
        rw [k1]
        split
        · rename_i hc; exact symF_eq _ (by omega) hc.1 hc.2
        · rfl
      refine sat_loops ?_ ?_ ?_
      · simp only [he, Int.toNat_natCast, R118_k, symR]
        repeat' first
          | refine sat_brd (fun _ => ?_) (fun _ => ?_)
          | refine ⟨⟨?_, ILeL.refl _, ?_⟩, fun _ => ?_⟩
          | refine ⟨trivial, fun _ => lretW_ex ?_ (.refl _)⟩
          | fail
        all_goals try simp only [hres, R118_k, symR]
        all_goals repeat' split
        all_goals first
          | omega
          | rfl
          | exact w123_k l s m _ (by omega) (by omega) (by omega) hl
          | exact List.length_map _
          | (rw [List.length_map, rot_length]; done)
          | (rw [List.length_map, symF_length _ (by omega) (by omega) (by omega)]; done)
          | (rw [List.length_map, symF_length _ (by omega) (by omega) (by rw [rot_length]; omega), rot_length]; done)
          | exact ih _ _ _ _ (by omega) (by omega) (by omega) (by omega) (by omega)
          | exact ih _ _ _ _ (by omega) (by omega) (by omega) (by rw [rot_length]; omega) (by rw [rot_length]; omega)
          | exact ih _ _ _ _ (by omega) (by omega) (by omega) (by rw [symF_length _ (by omega) (by omega) (by omega)]; omega) (by rw [symF_length _ (by omega) (by omega) (by omega)]; omega)
          | exact ih _ _ _ _ (by omega) (by omega) (by omega) (by rw [symF_length _ (by omega) (by omega) (by rw [rot_length]; omega), rot_length]; omega) (by rw [symF_length _ (by omega) (by omega) (by rw [rot_length]; omega), rot_length]; omega)
      · intro g3
        have g3 : (a + b) / 2 < m := by have g3 := of_decide_eq_true g3; rw [hmid] at g3; omega
        have hstart : IntKind.i64.wrap ((((a + b) / 2 + m : Nat) : Int) - (b : Int)) = (((a + b) / 2 + m - b : Nat) : Int) := i64_sub (by omega) (by omega)
        have hsd : s = bs (fun c => !(ltO_k (κ := κ)) (l.getD ((a + b) / 2 + m - 1 - c) default) (l.getD c default)) (b - a) ((a + b) / 2 + m - b) ((a + b) / 2) := by rw [hs, symS, if_pos g3, if_pos g3]
        have := lE118_k l0 a m b ((a + b) / 2 + m - 1) ((a + b) / 2 + m) ((a + b) / 2) ((a + b) / 2 + m - b) ((a + b) / 2) (b - a) l (by omega) (by omega) (by omega) (by omega) hl (by omega)
        rw [← hsd] at this
        refine this _ ?_
        simp only [hmid, hn, hq, hstart]
        exact ⟨⟨rfl, rfl, rfl, rfl, rfl, rfl, rfl, rfl, rfl, by simp [tl], trivial⟩, ⟨rfl, trivial⟩, rfl, rfl, rfl⟩
      · intro g3
        have g3 : ¬ (a + b) / 2 < m := by have g3 := of_decide_eq_false g3; rw [hmid] at g3; omega
        have hsd : s = bs (fun c => !(ltO_k (κ := κ)) (l.getD ((a + b) / 2 + m - 1 - c) default) (l.getD c default)) (b - a) a m := by rw [hs, symS, if_neg g3, if_neg g3]
        have := lE118_k l0 a m b ((a + b) / 2 + m - 1) ((a + b) / 2 + m) ((a + b) / 2) a m (b - a) l (by omega) (by omega) (by omega) (by omega) hl (by omega)
        rw [← hsd] at this
        refine this _ ?_
        simp only [hmid, hn, hq]
        exact ⟨⟨rfl, rfl, rfl, rfl, rfl, rfl, rfl, rfl, rfl, by simp [tl], trivial⟩, ⟨rfl, trivial⟩, rfl, rfl, rfl⟩
theorem w118_k {κ : Kd} (l : List κ.ty) (a m b : Nat) (h1 : a < m) (h2 : m < b) (h3 : b ≤ l.length) (hl : l.length ≤ 2 ^ 61) : WSpec prog κ.n118 κ.n68 κ.n6 (l.map κ.e) [i64 a, i64 m, i64 b, fnV κ.n48] (.tup []) ((symF (ltO_k (κ := κ)) a m b l).map κ.e) := w118n_k (b - a) l a m b (Nat.le_refl _) h1 h2 h3 hl
theorem w118'_k {κ : Kd} (l : List κ.ty) (a m b : Int) (h0 : 0 ≤ a) (h1 : a < m) (h2 : m < b) (h3 : b ≤ l.length) (hl : l.length ≤ 2 ^ 61) : WSpec prog κ.n118 κ.n68 κ.n6 (l.map κ.e) [i64 a, i64 m, i64 b, fnV κ.n48] (.tup []) ((symF (ltO_k (κ := κ)) a.toNat m.toNat b.toNat l).map κ.e) := by
  obtain ⟨a, rfl⟩ := Int.eq_ofNat_of_zero_le h0
  obtain ⟨m, rfl⟩ := Int.eq_ofNat_of_zero_le (show 0 ≤ m by omega)
  obtain ⟨b, rfl⟩ := Int.eq_ofNat_of_zero_le (show 0 ≤ b by omega)
  exact w118_k l a m b (by omega) (by omega) (by omega) hl
end Gp
namespace Gp
def IA109_k {κ : Kd} (l0 : Abs.Loc) (n a : Nat) (x : List κ.ty) : LState := { t := [(8, .imm (i64 (a + 20 : Nat))), (7, .imm (i64 a)), (6, .imm (i64 20)), (2, .imm (fnV κ.n48)), (1, .imm (i64 n)), (0, .own 0 x.length)], s := [(0, .brow l0 κ.n68 κ.n6 (x.map κ.e))], m := 63, n := 1 }
def EA109_k {κ : Kd} (l0 : Abs.Loc) (n : Nat) (r : Nat × List κ.ty) : LState := { t := [(7, .imm (i64 r.1)), (6, .imm (i64 20)), (2, .imm (fnV κ.n48)), (1, .imm (i64 n)), (0, .own 0 r.2.length)], s := [(0, .brow l0 κ.n68 κ.n6 (r.2.map κ.e))], m := 63, n := 1 }
def finA109_k : Exit → Fin
  | .normal => ⟨[], [8, 7, 6, 2, 1, 0], [0]⟩
  | _ => ⟨[], [7, 6, 2, 1, 0], [0]⟩
def TA109r_k {κ : Kd} (l0 : Abs.Loc) (n a : Nat) (x : List κ.ty) : Tell :=
  Tell.mk (fun x x_1 => false) (fun x x_1 => Orc.no) (fun x => Tree.fail 1000003 0) (fun x => 0) (fun x => ([], []))
  (oget [(4, 3, 4, Orc.callw [i64 (↑a : Int), i64 (↑(a + 20) : Int), fnV κ.n48] (IVal.tup []) (List.map κ.e (ins (ltO_k (κ := κ)) a (a + 20) x)))]) fun x x_1 => Tree.fail 1000003 0
theorem tA109r_k {κ : Kd} (l0 : Abs.Loc) (n a : Nat) (x : List κ.ty) : levL prog κ.f109 2 (IA109_k l0 n a x) (TA109r_k l0 n a x) finA109_k =
  Tree.br (decide ((↑(a + 20) : Int) ≤ (↑n : Int)))
  (Tree.need
  (List.length (List.map κ.e x) = List.length x ∧
  ILeL [i64 (↑a : Int), i64 (↑(a + 20) : Int), fnV κ.n48] [i64 (↑a : Int), i64 (↑(a + 20) : Int), fnV κ.n48] ∧
  WSpec prog κ.n117 κ.n68 κ.n6 (List.map κ.e x) [i64 (↑a : Int), i64 (↑(a + 20) : Int), fnV κ.n48] (IVal.tup []) (List.map κ.e (ins (ltO_k (κ := κ)) a (a + 20) x)))
  (Tree.done Exit.normal
  (LState.mk
  [(8, AVal.imm (IVal.v (Value.int IntKind.i64 (IntKind.wrap IntKind.i64 ((↑(a + 20) : Int) + (20 : Int)))))), (7, AVal.imm (i64 (↑(a + 20) : Int))), (6, AVal.imm (i64 (20 : Int))),
  (2, AVal.imm (fnV κ.n48)), (1, AVal.imm (i64 (↑n : Int))), (0, AVal.own 0 (List.length x))]
  [(0, Entry.brow l0 κ.n68 κ.n6 (List.map κ.e (ins (ltO_k (κ := κ)) a (a + 20) x)))] 63 15 [])))
  (Tree.done (Exit.exit 0)
  (LState.mk [(7, AVal.imm (i64 (↑a : Int))), (6, AVal.imm (i64 (20 : Int))), (2, AVal.imm (fnV κ.n48)), (1, AVal.imm (i64 (↑n : Int))), (0, AVal.own 0 (List.length x))]
  [(0, Entry.brow l0 κ.n68 κ.n6 (List.map κ.e x))] 63 4 [])) := by cases κ <;> kernel_rfl
def IB109_k {κ : Kd} (l0 : Abs.Loc) (n s a : Nat) (x : List κ.ty) : LState := { t := [(8, .imm (i64 (a + 2 * s : Nat))), (7, .imm (i64 a)), (6, .imm (i64 s)), (2, .imm (fnV κ.n48)), (1, .imm (i64 n)), (0, .own 0 x.length)], s := [(0, .brow l0 κ.n68 κ.n6 (x.map κ.e))], m := 63, n := 1 }
def EB109_k {κ : Kd} (l0 : Abs.Loc) (n s : Nat) (r : Nat × List κ.ty) : LState := { t := [(7, .imm (i64 r.1)), (6, .imm (i64 s)), (2, .imm (fnV κ.n48)), (1, .imm (i64 n)), (0, .own 0 r.2.length)], s := [(0, .brow l0 κ.n68 κ.n6 (r.2.map κ.e))], m := 63, n := 1 }
def TB109r_k {κ : Kd} (l0 : Abs.Loc) (n s a : Nat) (x : List κ.ty) : Tell :=
  Tell.mk (fun x x_1 => false) (fun x x_1 => Orc.no) (fun x => Tree.fail 1000003 0) (fun x => 0) (fun x => ([], []))
  (oget
  [(4, 10, 7,
  Orc.callw [i64 (↑a : Int), i64 (IntKind.wrap IntKind.i64 ((↑a : Int) + (↑s : Int))), i64 (↑(a + 2 * s) : Int), fnV κ.n48] (IVal.tup [])
  (List.map κ.e (symF (ltO_k (κ := κ)) (Int.toNat (↑a : Int)) (Int.toNat (IntKind.wrap IntKind.i64 ((↑a : Int) + (↑s : Int)))) (Int.toNat (↑(a + 2 * s) : Int)) x)))])
  fun x x_1 => Tree.fail 1000003 0
theorem tB109r_k {κ : Kd} (l0 : Abs.Loc) (n s a : Nat) (x : List κ.ty) : levL prog κ.f109 9 (IB109_k l0 n s a x) (TB109r_k l0 n s a x) finA109_k =
  Tree.br (decide ((↑(a + 2 * s) : Int) ≤ (↑n : Int)))
  (Tree.need
  (List.length (List.map κ.e x) = List.length x ∧
  ILeL [i64 (↑a : Int), IVal.v (Value.int IntKind.i64 (IntKind.wrap IntKind.i64 ((↑a : Int) + (↑s : Int)))), i64 (↑(a + 2 * s) : Int), fnV κ.n48]
  [i64 (↑a : Int), i64 (IntKind.wrap IntKind.i64 ((↑a : Int) + (↑s : Int))), i64 (↑(a + 2 * s) : Int), fnV κ.n48] ∧
  WSpec prog κ.n118 κ.n68 κ.n6 (List.map κ.e x) [i64 (↑a : Int), i64 (IntKind.wrap IntKind.i64 ((↑a : Int) + (↑s : Int))), i64 (↑(a + 2 * s) : Int), fnV κ.n48] (IVal.tup [])
  (List.map κ.e (symF (ltO_k (κ := κ)) a (Int.toNat (IntKind.wrap IntKind.i64 ((↑a : Int) + (↑s : Int)))) (a + 2 * s) x)))
  (Tree.done Exit.normal
  (LState.mk
  [(8, AVal.imm (IVal.v (Value.int IntKind.i64 (IntKind.wrap IntKind.i64 ((↑(a + 2 * s) : Int) + IntKind.wrap IntKind.i64 ((2 : Int) * (↑s : Int))))))), (7, AVal.imm (i64 (↑(a + 2 * s) : Int))),
  (6, AVal.imm (i64 (↑s : Int))), (2, AVal.imm (fnV κ.n48)), (1, AVal.imm (i64 (↑n : Int))), (0, AVal.own 0 (List.length x))]
  [(0, Entry.brow l0 κ.n68 κ.n6 (List.map κ.e (symF (ltO_k (κ := κ)) a (Int.toNat (IntKind.wrap IntKind.i64 ((↑a : Int) + (↑s : Int)))) (a + 2 * s) x)))] 63 19 [])))
  (Tree.done (Exit.exit 4)
  (LState.mk [(7, AVal.imm (i64 (↑a : Int))), (6, AVal.imm (i64 (↑s : Int))), (2, AVal.imm (fnV κ.n48)), (1, AVal.imm (i64 (↑n : Int))), (0, AVal.own 0 (List.length x))]
  [(0, Entry.brow l0 κ.n68 κ.n6 (List.map κ.e x))] 63 4 [])) := by cases κ <;> kernel_rfl
def IC109_k {κ : Kd} (l0 : Abs.Loc) (n s : Nat) (x : List κ.ty) : LState := { t := [(6, .imm (i64 s)), (2, .imm (fnV κ.n48)), (1, .imm (i64 n)), (0, .own 0 x.length)], s := [(0, .brow l0 κ.n68 κ.n6 (x.map κ.e))], m := 63, n := 1 }
def EC109_k {κ : Kd} (l0 : Abs.Loc) (x : List κ.ty) : LState := { t := [], s := [(0, .brow l0 κ.n68 κ.n6 (x.map κ.e))], m := 63, n := 1 }
def finC109_k : Exit → Fin
  | .normal => ⟨[], [6, 2, 1, 0], [0]⟩
  | _ => ⟨[], [], [0]⟩
def TC109r_k {κ : Kd} (l0 : Abs.Loc) (n s : Nat) (x : List κ.ty) (r : Nat × List κ.ty) : Tell :=
  Tell.mk (fun x x_1 => false) (fun x x_1 => Orc.no) (fun x => Tree.done (Exit.exit 4) (EB109_k l0 n s r)) (fun x => 0) (fun x => ([8, 7, 6, 2, 1, 0], [0]))
  (oget
  [(8, 15, 5,
  Orc.callw [i64 (↑r.fst : Int), i64 (IntKind.wrap IntKind.i64 ((↑r.fst : Int) + (↑s : Int))), i64 (↑n : Int), fnV κ.n48] (IVal.tup [])
  (List.map κ.e (symF (ltO_k (κ := κ)) (Int.toNat (↑r.fst : Int)) (Int.toNat (IntKind.wrap IntKind.i64 ((↑r.fst : Int) + (↑s : Int)))) (Int.toNat (↑n : Int)) r.snd)))])
  fun x x_1 => Tree.done (Exit.exit 4) (EB109_k l0 n s r)
theorem tC109r_k {κ : Kd} (l0 : Abs.Loc) (n s : Nat) (x : List κ.ty) (r : Nat × List κ.ty) : levL prog κ.f109 7 (IC109_k l0 n s x) (TC109r_k l0 n s x r) finC109_k =
  Tree.br (decide ((↑s : Int) < (↑n : Int)))
  (Tree.loop 9
  (LState.mk
  [(8, AVal.imm (IVal.v (Value.int IntKind.i64 (IntKind.wrap IntKind.i64 ((2 : Int) * (↑s : Int)))))), (7, AVal.imm (IVal.v (Value.int IntKind.i64 (0 : Int)))), (6, AVal.imm (i64 (↑s : Int))),
  (2, AVal.imm (fnV κ.n48)), (1, AVal.imm (i64 (↑n : Int))), (0, AVal.own 0 (List.length x))]
  [(0, Entry.brow l0 κ.n68 κ.n6 (List.map κ.e x))] 63 8 [])
  (Tree.done (Exit.exit 4) (EB109_k l0 n s r))
  (Tree.br (decide (IntKind.wrap IntKind.i64 ((↑r.fst : Int) + (↑s : Int)) < (↑n : Int)))
  (Tree.need
  (List.length (List.map κ.e r.snd) = List.length r.snd ∧
  ILeL [i64 (↑r.fst : Int), IVal.v (Value.int IntKind.i64 (IntKind.wrap IntKind.i64 ((↑r.fst : Int) + (↑s : Int)))), i64 (↑n : Int), fnV κ.n48]
  [i64 (↑r.fst : Int), i64 (IntKind.wrap IntKind.i64 ((↑r.fst : Int) + (↑s : Int))), i64 (↑n : Int), fnV κ.n48] ∧
  WSpec prog κ.n118 κ.n68 κ.n6 (List.map κ.e r.snd) [i64 (↑r.fst : Int), i64 (IntKind.wrap IntKind.i64 ((↑r.fst : Int) + (↑s : Int))), i64 (↑n : Int), fnV κ.n48] (IVal.tup [])
  (List.map κ.e (symF (ltO_k (κ := κ)) r.fst (Int.toNat (IntKind.wrap IntKind.i64 ((↑r.fst : Int) + (↑s : Int)))) n r.snd)))
  (Tree.done Exit.normal
  (LState.mk
  [(6, AVal.imm (IVal.v (Value.int IntKind.i64 (IntKind.wrap IntKind.i64 ((↑s : Int) * (2 : Int)))))), (2, AVal.imm (fnV κ.n48)), (1, AVal.imm (i64 (↑n : Int))),
  (0, AVal.own 0 (List.length r.snd))]
  [(0, Entry.brow l0 κ.n68 κ.n6 (List.map κ.e (symF (ltO_k (κ := κ)) r.fst (Int.toNat (IntKind.wrap IntKind.i64 ((↑r.fst : Int) + (↑s : Int)))) n r.snd)))] 63 17 [])))
  (Tree.done Exit.normal
  (LState.mk
  [(6, AVal.imm (IVal.v (Value.int IntKind.i64 (IntKind.wrap IntKind.i64 ((↑s : Int) * (2 : Int)))))), (2, AVal.imm (fnV κ.n48)), (1, AVal.imm (i64 (↑n : Int))),
  (0, AVal.own 0 (List.length r.snd))]
  [(0, Entry.brow l0 κ.n68 κ.n6 (List.map κ.e r.snd))] 63 11 []))))
  (Tree.done (Exit.exit 2) (LState.mk [] [(0, Entry.brow l0 κ.n68 κ.n6 (List.map κ.e x))] 63 4 [])) := by cases κ <;> kernel_rfl
def T109_k {κ : Kd} (l0 : Abs.Loc) (n : Nat) (l : List κ.ty) (r : Nat × List κ.ty) (y : List κ.ty) : Tell :=
  Tell.mk (fun x x_1 => false) (fun x x_1 => Orc.no)
  (fun k =>
  match k with
  | 2 => Tree.done (Exit.exit 0) (EA109_k l0 n r)
  | x => Tree.done (Exit.exit 2) (EC109_k l0 y))
  (fun x => 0)
  (fun k =>
  match k with
  | 2 => ([8, 7, 6, 2, 1, 0], [0])
  | x => ([6, 2, 1, 0], [0]))
  (oget [(1, 6, 4, Orc.callw [i64 (↑r.fst : Int), i64 (↑n : Int), fnV κ.n48] (IVal.tup []) (List.map κ.e (ins (ltO_k (κ := κ)) r.fst n r.snd)))]) fun x k =>
  match k with
  | 2 => Tree.done (Exit.exit 0) (EA109_k l0 n r)
  | x => Tree.done (Exit.exit 2) (EC109_k l0 y)
theorem t109_k {κ : Kd} (l0 : Abs.Loc) (n : Nat) (l : List κ.ty) (r : Nat × List κ.ty) (y : List κ.ty) : levW prog κ.f109 l0 κ.n68 κ.n6 (l.map κ.e) [i64 n, fnV κ.n48] (T109_k l0 n l r y) =
  Tree.loop 2
  (LState.mk
  [(8, AVal.imm (IVal.v (Value.int IntKind.i64 (20 : Int)))), (7, AVal.imm (IVal.v (Value.int IntKind.i64 (0 : Int)))), (6, AVal.imm (IVal.v (Value.int IntKind.i64 (20 : Int)))),
  (2, AVal.imm (fnV κ.n48)), (1, AVal.imm (i64 (↑n : Int))), (0, AVal.own 0 (List.length (List.map κ.e l)))]
  [(0, Entry.brow l0 κ.n68 κ.n6 (List.map κ.e l))] 63 5 [])
  (Tree.done (Exit.exit 0) (EA109_k l0 n r))
  (Tree.need
  (List.length (List.map κ.e r.snd) = List.length r.snd ∧
  ILeL [i64 (↑r.fst : Int), i64 (↑n : Int), fnV κ.n48] [i64 (↑r.fst : Int), i64 (↑n : Int), fnV κ.n48] ∧
  WSpec prog κ.n117 κ.n68 κ.n6 (List.map κ.e r.snd) [i64 (↑r.fst : Int), i64 (↑n : Int), fnV κ.n48] (IVal.tup []) (List.map κ.e (ins (ltO_k (κ := κ)) r.fst n r.snd)))
  (Tree.loop 7
  (LState.mk [(6, AVal.imm (i64 (20 : Int))), (2, AVal.imm (fnV κ.n48)), (1, AVal.imm (i64 (↑n : Int))), (0, AVal.own 0 (List.length r.snd))]
  [(0, Entry.brow l0 κ.n68 κ.n6 (List.map κ.e (ins (ltO_k (κ := κ)) r.fst n r.snd)))] 63 6 [])
  (Tree.done (Exit.exit 2) (EC109_k l0 y)) (Tree.need (eqs []) (Tree.done Exit.ret (lretW l0 κ.n68 κ.n6 (IVal.tup []) (List.map κ.e y)))))) := by cases κ <;> kernel_rfl
theorem lA109_k {κ : Kd} (l0 : Abs.Loc) (n f : Nat) (l : List κ.ty) (hf : n < f) (hn : n ≤ l.length) (hl : l.length ≤ 2 ^ 60) (σ : LState) (h : LSub σ (IA109_k l0 n 0 l)) : LoopOk prog [] (bodyOf κ.f109) 2 σ (.done (.exit 0) (EA109_k l0 n (blkE (ltO_k (κ := κ)) n f 0 l))) := by
  refine LoopOk.of_levL (γ := { g : Nat × Nat × List κ.ty // g.1 ≤ n ∧ n < g.1 + g.2.1 ∧ g.2.2.length = l.length ∧ blkE (ltO_k (κ := κ)) n g.2.1 g.1 g.2.2 = blkE (ltO_k (κ := κ)) n f 0 l })
    (fun g => TA109r_k l0 n g.1.1 g.1.2.2) finA109_k (fun g => IA109_k l0 n g.1.1 g.1.2.2) (fun g => n - g.1.1) ⟨(0, f, l), by simp, by simpa using hf, rfl, rfl⟩ (by cases κ <;> kernel_rfl) h ?_
  rintro ⟨⟨a, f', x⟩, q1, q2, q3, q4⟩
  simp only at q1 q2 q3 q4
  simp only []
  rw [tA109r_k]
  cases f' with
  | zero => omega
  | succ f' =>
    rw [blkE] at q4
    refine ⟨fun h1 => need_sat ⟨(by simp), ILeL.refl _, w117_k _ _ _ ?_ ?_ ?_⟩ ?_, fun h1 => ?_⟩
    · simp at h1; omega
    · omega
    · omega
    · have hc : a + 20 ≤ n := by simp at h1; omega
      rw [if_pos hc] at q4
      have hlen := ins_length (ltO_k (κ := κ)) a (a + 20) x (by omega)
      have e5 : IntKind.i64.wrap (((a + 20 : Nat) : Int) + 20) = ((a + 20 + 20 : Nat) : Int) := by rw [IntWalk.i64_in _ (by omega)]; omega
      exact ⟨⟨(a + 20, f', ins (ltO_k (κ := κ)) a (a + 20) x), hc, by simp only; omega, by simp only; omega, q4⟩, by simp only; omega, ⟨congrArg (fun n => AVal.imm (i64 n)) e5, rfl, rfl, rfl, rfl, congrArg (AVal.own 0) hlen.symm, trivial⟩, ⟨rfl, trivial⟩, rfl, rfl, rfl⟩
    · have hc : ¬ a + 20 ≤ n := by simp at h1; omega
      rw [if_neg hc] at q4
      rw [← q4]
      exact ⟨rfl, ⟨rfl, rfl, rfl, rfl, rfl, trivial⟩, ⟨rfl, trivial⟩, rfl, rfl, rfl⟩
theorem lB109_k {κ : Kd} (l0 : Abs.Loc) (n s f : Nat) (l : List κ.ty) (hs : 0 < s) (hsn : s < n) (hf : n < f) (hn : n ≤ l.length) (hl : l.length ≤ 2 ^ 60) (σ : LState) (h : LSub σ (IB109_k l0 n s 0 l)) : LoopOk prog [] (bodyOf κ.f109) 9 σ (.done (.exit 4) (EB109_k l0 n s (mrgE (ltO_k (κ := κ)) n s f 0 l))) := by
  refine LoopOk.of_levL (γ := { g : Nat × Nat × List κ.ty // g.1 ≤ n ∧ n < g.1 + g.2.1 ∧ g.2.2.length = l.length ∧ mrgE (ltO_k (κ := κ)) n s g.2.1 g.1 g.2.2 = mrgE (ltO_k (κ := κ)) n s f 0 l })
    (fun g => TB109r_k l0 n s g.1.1 g.1.2.2) finA109_k (fun g => IB109_k l0 n s g.1.1 g.1.2.2) (fun g => n - g.1.1) ⟨(0, f, l), by simp, by simpa using hf, rfl, rfl⟩ (by cases κ <;> kernel_rfl) h ?_
  rintro ⟨⟨a, f', x⟩, q1, q2, q3, q4⟩
  simp only at q1 q2 q3 q4
  simp only []
  have e1 : IntKind.i64.wrap ((a : Int) + (s : Int)) = ((a + s : Nat) : Int) := i64_add (by omega)
  have e2 : IntKind.i64.wrap ((2 : Int) * (s : Int)) = ((2 * s : Nat) : Int) := by rw [IntWalk.i64_in _ (by omega)]; omega
  rw [tB109r_k]
  cases f' with
  | zero => omega
  | succ f' =>
    rw [mrgE] at q4
    refine ⟨fun h1 => need_sat ⟨(by simp), ILeL.refl _, w118'_k _ _ _ _ ?_ ?_ ?_ ?_ ?_⟩ ?_, fun h1 => ?_⟩
    · omega
    · rw [e1]; omega
    · rw [e1]; omega
    · simp at h1; omega
    · omega
    · have hc : a + 2 * s ≤ n := by simp at h1; omega
      rw [if_pos hc] at q4
      have hlen := symF_length (ltO_k (κ := κ)) (l := x) (show a < a + s by omega) (show a + s < a + 2 * s by omega) (by omega)
      simp only [e1, e2, Int.toNat_natCast]
      refine ⟨⟨(a + 2 * s, f', symF (ltO_k (κ := κ)) a (a + s) (a + 2 * s) x), hc, by simp only; omega, by simp only; omega, q4⟩, by simp only; omega, ⟨?_, rfl, rfl, rfl, rfl, congrArg (AVal.own 0) hlen.symm, trivial⟩, ⟨rfl, trivial⟩, rfl, rfl, rfl⟩
      exact congrArg (fun n => AVal.imm (i64 n)) (i64_add (by omega))
    · have hc : ¬ a + 2 * s ≤ n := by simp at h1; omega
      rw [if_neg hc] at q4
      rw [← q4]
      exact ⟨rfl, ⟨rfl, rfl, rfl, rfl, rfl, trivial⟩, ⟨rfl, trivial⟩, rfl, rfl, rfl⟩
theorem lC109_k {κ : Kd} (l0 : Abs.Loc) (n s f : Nat) (l : List κ.ty) (hs : 0 < s) (hs2 : s ≤ 2 ^ 60) (hf : n < s + f) (hn : n = l.length) (hl : l.length ≤ 2 ^ 59) (σ : LState) (h : LSub σ (IC109_k l0 n s l)) : LoopOk prog [] (bodyOf κ.f109) 7 σ (.done (.exit 2) (EC109_k l0 (mrgs (ltO_k (κ := κ)) n f s l))) := by
  refine LoopOk.of_levL (γ := { g : Nat × Nat × List κ.ty // 0 < g.1 ∧ g.1 ≤ 2 ^ 60 ∧ n < g.1 + g.2.1 ∧ g.2.2.length = l.length ∧ mrgs (ltO_k (κ := κ)) n g.2.1 g.1 g.2.2 = mrgs (ltO_k (κ := κ)) n f s l })
    (fun g => TC109r_k l0 n g.1.1 g.1.2.2 (mrgE (ltO_k (κ := κ)) n g.1.1 (n + 1) 0 g.1.2.2)) finC109_k (fun g => IC109_k l0 n g.1.1 g.1.2.2) (fun g => n - g.1.1) ⟨(s, f, l), hs, hs2, hf, rfl, rfl⟩ (by cases κ <;> kernel_rfl) h ?_
  rintro ⟨⟨s, f', x⟩, q0, q1, q2, q3, q4⟩
  simp only at q0 q1 q2 q3 q4
  simp only []
  have e2 : IntKind.i64.wrap ((2 : Int) * (s : Int)) = ((2 * s : Nat) : Int) := by rw [IntWalk.i64_in _ (by omega)]; omega
  have e3 : IntKind.i64.wrap ((s : Int) * (2 : Int)) = ((2 * s : Nat) : Int) := by rw [IntWalk.i64_in _ (by omega)]; omega
  have hE := mrgE_spec (ltO_k (κ := κ)) n s q0 (n + 1) 0 x (by omega) (by omega) (by omega)
  have hlB := lB109_k l0 n s (n + 1) x q0
  have hlen := mrg_length (ltO_k (κ := κ)) n s q0 (l := x) (by omega)
  generalize hr : mrgE (ltO_k (κ := κ)) n s (n + 1) 0 x = r at *
  obtain ⟨r1, r2, r3⟩ := hE
  have e1 : IntKind.i64.wrap ((r.1 : Int) + (s : Int)) = ((r.1 + s : Nat) : Int) := i64_add (by omega)
  rw [tC109r_k]
  refine ⟨fun h1 => ⟨?_, ⟨fun h2 => need_sat ⟨(by simp), ILeL.refl _, w118'_k _ _ _ _ ?_ ?_ ?_ ?_ ?_⟩ ?_, fun h2 => ?_⟩⟩, fun h1 => ?_⟩
  · have hc : s < n := by simp at h1; omega
    refine hlB hc (by omega) (by omega) (by omega) _ ⟨⟨?_, rfl, rfl, rfl, rfl, rfl, trivial⟩, ⟨rfl, trivial⟩, rfl, rfl, rfl⟩
    exact congrArg (fun n => AVal.imm (i64 n)) (e2.trans (by omega))
  · omega
  · rw [e1]; omega
  · rw [e1] at h2 ⊢; simp at h2; omega
  · omega
  · omega
  · have hc : s < n := by simp at h1; omega
    have hd : r.1 + s < n := by rw [e1] at h2; simp at h2; omega
    cases f' with
    | zero => omega
    | succ f' =>
      rw [mrgs, if_pos hc] at q4
      rw [if_pos hd] at r3
      simp only [e1, e3, Int.toNat_natCast, r3]
      exact ⟨⟨(2 * s, f', mrg (ltO_k (κ := κ)) n s (n + 1) 0 x), by simp only; omega, by simp only; omega, by simp only; omega, by simp only; omega, q4⟩, by simp only; omega, ⟨rfl, rfl, rfl, congrArg (AVal.own 0) (by rw [hlen, r2]), trivial⟩, ⟨rfl, trivial⟩, rfl, rfl, rfl⟩
  · have hc : s < n := by simp at h1; omega
    have hd : ¬ r.1 + s < n := by rw [e1] at h2; simp at h2; omega
    cases f' with
    | zero => omega
    | succ f' =>
      rw [mrgs, if_pos hc] at q4
      rw [if_neg hd] at r3
      simp only [e3, r3]
      exact ⟨⟨(2 * s, f', mrg (ltO_k (κ := κ)) n s (n + 1) 0 x), by simp only; omega, by simp only; omega, by simp only; omega, by simp only; omega, q4⟩, by simp only; omega, ⟨rfl, rfl, rfl, rfl, trivial⟩, ⟨rfl, trivial⟩, rfl, rfl, rfl⟩
  · have hc : ¬ s < n := by simp at h1; omega
    have : mrgs (ltO_k (κ := κ)) n f' s x = x := by
      cases f' with
      | zero => rfl
      | succ f' => rw [mrgs, if_neg hc]
    rw [this] at q4
    rw [← q4]
    exact ⟨rfl, ⟨trivial, ⟨rfl, trivial⟩, rfl, rfl, rfl⟩⟩
theorem w109_k {κ : Kd} (l : List κ.ty) (hl : l.length ≤ 2 ^ 59) : WSpec prog κ.n109 κ.n68 κ.n6 (l.map κ.e) [i64 l.length, fnV κ.n48] (.tup []) ((sorted (ltO_k (κ := κ)) l).map κ.e) := by
  have hE := blkE_spec (ltO_k (κ := κ)) l.length (l.length + 1) 0 l (Nat.le_refl _) (by omega) (by omega)
  have hA := fun l0 => lA109_k l0 l.length (l.length + 1) l (by omega) (Nat.le_refl _) (by omega)
  refine WSpec.tree κ.f109 (fun l0 => T109_k l0 l.length l (blkE (ltO_k (κ := κ)) l.length (l.length + 1) 0 l) (sorted (ltO_k (κ := κ)) l)) (by cases κ <;> kernel_rfl) (by cases κ <;> kernel_rfl) (by cases κ <;> kernel_rfl) fun l0 => ?_
  have hA := hA l0
  generalize blkE (ltO_k (κ := κ)) l.length (l.length + 1) 0 l = r at *
  obtain ⟨r1, r2, r3⟩ := hE
  rw [t109_k]
  refine ⟨?_, need_sat ⟨(by simp), ILeL.refl _, w117_k _ _ _ ?_ ?_ ?_⟩ ⟨?_, need_sat ?_ (lretW_ex ?_ ?_)⟩⟩
  · exact hA _ ⟨⟨rfl, rfl, rfl, rfl, rfl, by simp [tl], trivial⟩, ⟨rfl, trivial⟩, rfl, rfl, rfl⟩
  · omega
  · omega
  · omega
  · rw [r3]
    refine lC109_k l0 l.length 20 (l.length + 1) _ (by omega) (by omega) (by omega) ?_ ?_ _ ⟨⟨rfl, rfl, rfl, congrArg (AVal.own 0) ?_, trivial⟩, ⟨rfl, trivial⟩, rfl, rfl, rfl⟩
    · rw [insB_length]
    · rw [insB_length]; exact hl
    · rw [insB_length, r2]
  · exact trivial
  · rfl
  · exact .refl _
theorem w109'_k {κ : Kd} (l : List κ.ty) (n : Int) (hn : n = l.length) (hl : l.length ≤ 2 ^ 59) : WSpec prog κ.n109 κ.n68 κ.n6 (l.map κ.e) [i64 n, fnV κ.n48] (.tup []) ((sorted (ltO_k (κ := κ)) l).map κ.e) := by
  subst hn; exact w109_k l hl
def T90_k {κ : Kd} (l0 : Abs.Loc) (l : List κ.ty) : Tell :=
  Tell.mk (fun x x_1 => false) (fun x x_1 => Orc.no) (fun x => Tree.fail 1000003 0) (fun x => 0) (fun x => ([], []))
  (oget [(1, 0, 4, Orc.callw [i64 (↑(List.length (List.map κ.e l)) : Int), fnV κ.n48] (IVal.tup []) (List.map κ.e (sorted (ltO_k (κ := κ)) l)))]) fun x x_1 => Tree.fail 1000003 0
theorem t90_k {κ : Kd} (l0 : Abs.Loc) (l : List κ.ty) : levW prog κ.f90 l0 κ.n68 κ.n6 (l.map κ.e) [fnV κ.n48] (T90_k l0 l) =
  Tree.need
  (List.length (List.map κ.e l) = List.length (List.map κ.e l) ∧
  ILeL [IVal.v (Value.int IntKind.i64 (↑(List.length (List.map κ.e l)) : Int)), fnV κ.n48] [i64 (↑(List.length (List.map κ.e l)) : Int), fnV κ.n48] ∧
  WSpec prog κ.n109 κ.n68 κ.n6 (List.map κ.e l) [i64 (↑(List.length (List.map κ.e l)) : Int), fnV κ.n48] (IVal.tup []) (List.map κ.e (sorted (ltO_k (κ := κ)) l)))
  (Tree.need (eqs []) (Tree.done Exit.ret (lretW l0 κ.n68 κ.n6 (IVal.tup []) (List.map κ.e (sorted (ltO_k (κ := κ)) l))))) := by cases κ <;> kernel_rfl
theorem w90_k {κ : Kd} (l : List κ.ty) (hl : l.length ≤ 2 ^ 59) : WSpec prog κ.n90 κ.n68 κ.n6 (l.map κ.e) [fnV κ.n48] (.tup []) ((sorted (ltO_k (κ := κ)) l).map κ.e) := by
  refine WSpec.tree κ.f90 (fun l0 => T90_k l0 l) (by cases κ <;> kernel_rfl) (by cases κ <;> kernel_rfl) (by cases κ <;> kernel_rfl) fun l0 => ?_
  rw [t90_k]
  refine need_sat ⟨(by simp), ILeL.refl _, w109'_k _ _ ?_ ?_⟩ (need_sat ?_ (lretW_ex ?_ ?_))
  · simp
  · exact hl
  · exact trivial
  · rfl
  · exact .refl _
theorem w90 (l : List Origin) (hl : l.length ≤ 2 ^ 59) : WSpec prog 90 68 6 (l.map encO) [fnV 48] (.tup []) ((sorted ltO l).map encO) := w90_k (κ := .O) l hl
theorem w92 (l : List Attest) (hl : l.length ≤ 2 ^ 59) : WSpec prog 92 57 2 (l.map encT) [fnV 51] (.tup []) ((sorted ltT l).map encT) := w90_k (κ := .T) l hl
theorem w94 (l : List RKey) (hl : l.length ≤ 2 ^ 59) : WSpec prog 94 75 18 (l.map encK) [fnV 54] (.tup []) ((sorted ltK l).map encK) := w90_k (κ := .K) l hl
end Gp
namespace Gp
theorem heap_alloc_size (w : World) (o : Obj) : (w.alloc o).heap.size = w.heap.size + 1 := by simp
def renGO : Shelf.Ren := ⟨fun x => match x with | 4 => 108 | n => n, fun x => match x with | 22 => 22 | 25 => 68 | n => n, fun n => n⟩
theorem growXO : Proofs.Lays8.n4 prog renGO where
  mixed := by kernel_rfl
  f4 := ⟨"slices.Grow[[]gatepath/api.Origin,gatepath/api.Origin]", by decide, Proofs.Tryz.func108.trans (congrArg some (by kernel_rfl))⟩
  t0 := Proofs.Tryz.underlying0
  a0 := Proofs.Tryz.isAgg0
  z0 := Proofs.Tryz.sizeOf0
  v0 := Proofs.Tryz.zeroValue0
  t3 := Proofs.Tryz.underlying3
  a3 := Proofs.Tryz.isAgg3
  z3 := Proofs.Tryz.sizeOf3
  v3 := Proofs.Tryz.zeroValue3
  t4 := Proofs.Tryz.underlying4
  a4 := Proofs.Tryz.isAgg4
  z4 := Proofs.Tryz.sizeOf4
  v4 := Proofs.Tryz.zeroValue4
  t9 := Proofs.Tryz.underlying9
  a9 := Proofs.Tryz.isAgg9
  z9 := Proofs.Tryz.sizeOf9
  v9 := Proofs.Tryz.zeroValue9
  t20 := Proofs.Tryz.underlying20
  a20 := Proofs.Tryz.isAgg20
  z20 := Proofs.Tryz.sizeOf20
  v20 := Proofs.Tryz.zeroValue20
  t22 := Proofs.Tryz.underlying22
  a22 := Proofs.Tryz.isAgg22
  z22 := Proofs.Tryz.sizeOf22
  v22 := Proofs.Tryz.zeroValue22
theorem o108 (n : Nat) (hn : n ≤ 1000000) : OSpec prog 108 [.v (.slice none 0 0), i64 n] 68 6 [] := by
  refine ⟨by kernel_rfl, fun w F vs hF hcol hargs => ?_⟩
  have hvs : vs = #[.slice none 0 0, .int .i64 n] := by
    rw [IRepL] at hargs
    obtain ⟨u, us, h1, h2, h3⟩ := hargs
    rw [IRepL] at h3
    obtain ⟨u', us', h4, h5, h6⟩ := h3
    rw [IRepL] at h6
    rw [IRep] at h2
    rw [i64, IRep] at h5
    rw [← Array.toList_inj, h1, h4, h6, h2.1, h5.1]
  subst hvs
  by_cases h0 : n = 0
  · subst h0
    refine (Proofs.Any8.slices_Grow_room growXO none 0 0 0 w (by omega) (by omega) (by omega) (by omega)).mono ?_
    rintro e w' ⟨rfl, rfl⟩
    exact ⟨⟨0, 0, 0, true, none⟩, F, rfl, ⟨rfl, rfl, rfl, Nat.le_refl _, fun _ _ => rfl⟩, fun _ _ h => h, fun _ _ h => .inl h, hF, hcol, .inl ⟨rfl, rfl⟩, fun h => by cases h⟩
  · obtain ⟨i0, z, hi0, hs0, hk0, hb0, hz0, hzc⟩ := tel_spec (show tel prog 68 6 = true by kernel_rfl)
    refine (Proofs.Any8.slices_Grow_grow growXO i0 z hi0 hz0 (by omega) none 0 0 n [] w (by omega) (by omega) ?_ (by omega) (by simp) (fun _ => rfl) (fun a h => by cases h)).mono ?_
    · have : n * i0.bytes ≤ 1000000 * 65536 := Nat.mul_le_mul hn hb0
      rw [Nat.zero_add]; omega
    rintro e w' ⟨rfl, rfl⟩
    rw [Nat.zero_add]
    have hge : n ≤ grownCap w n 0 68 := grownCap_ge w _ _ _
    refine ⟨⟨w.heap.size, 0, grownCap w n 0 68, false, none⟩, F, rfl, ⟨rfl, rfl, rfl, by rw [heap_alloc_size]; exact Nat.le_succ _, fun b hb => ?_⟩, fun _ _ h => h, fun _ _ h => .inl h, fun c b h => ?_, hcol, .inr ⟨rfl, #[] ++ Builtin.zeroCells z.cells (n - 0) ++ Builtin.zeroCells z.cells (grownCap w n 0 68 - n), (0, 0), [], ?_, ?_, ?_, Nat.zero_le _, rfl, trivial⟩, fun _ => ⟨Nat.le_refl _, fun c h => ?_⟩⟩
    · exact heap_alloc_old w.drew _ hb
    · have := hF c b h; rw [heap_alloc_size]; show b < w.heap.size + 1; omega
    · exact heap_alloc_new w.drew _
    · intro j _; simp
    · simp only [Array.size_append, size_zeroCells, hzc, Nat.sub_zero]
      have : grownCap w n 0 68 * 6 = n * 6 + (grownCap w n 0 68 - n) * 6 := by rw [← Nat.add_mul]; congr 1; omega
      simp; omega
    · have := hF c w.heap.size h; omega
theorem o108' (n : Int) (h0 : 0 ≤ n) (hn : n ≤ 1000000) : OSpec prog 108 [.v (.slice none 0 0), i64 n] 68 6 [] := by
  obtain ⟨n, rfl⟩ := Int.eq_ofNat_of_zero_le h0
  exact o108 n (by omega)
def T89 (A B : List Origin) : Tell :=
  Tell.mk (fun x x_1 => false) (fun x x_1 => Orc.no) (fun x => Tree.fail 1000003 0) (fun x => 3) (fun x => ([], []))
  (oget
  [(6, 4, 0, Orc.ext [] (IVal.tup [])), (19, 4, 0, Orc.ext [] (IVal.tup [])),
  (32, 9, 1,
  Orc.callo [IVal.v (Value.slice none 0 0), i64 (IntKind.wrap IntKind.i64 (IntKind.wrap IntKind.i64 ((0 : Int) + (↑(List.length (List.map encO A)) : Int)) + (↑(List.length (List.map encO B)) : Int)))] 68
  6 []),
  (39, 12, 0, Orc.ext [] (IVal.tup [])), (49, 12, 0, Orc.ext [] (IVal.tup []))])
  fun x x_1 => Tree.fail 1000003 0
theorem t89 (A B : List Origin) : levO prog Proofs.Tryz.f89 [.sl false false 1 [slE 6 encO A, slE 6 encO B]] (T89 A B) =
  Tree.br true
  (Tree.br (decide (IntKind.wrap IntKind.i64 ((0 : Int) + (↑(List.length (List.map encO A)) : Int)) < (0 : Int))) (Tree.fail 7 0)
  (Tree.br true
  (Tree.br (decide (IntKind.wrap IntKind.i64 (IntKind.wrap IntKind.i64 ((0 : Int) + (↑(List.length (List.map encO A)) : Int)) + (↑(List.length (List.map encO B)) : Int)) < (0 : Int))) (Tree.fail 7 0)
  (Tree.br false
  (Tree.stop
  (LState.mk
  [(12, AVal.imm (IVal.v (Value.bool false))), (11, AVal.imm (IVal.v (Value.int IntKind.i64 (2 : Int)))), (22, AVal.imm (IVal.v (Value.int IntKind.i64 (2 : Int)))),
  (20, AVal.imm (IVal.v (Value.bool (decide (IntKind.wrap IntKind.i64 (IntKind.wrap IntKind.i64 ((0 : Int) + (↑(List.length (List.map encO A)) : Int)) + (↑(List.length (List.map encO B)) : Int)) < (0 : Int)))))),
  (19, AVal.imm (IVal.v (Value.int IntKind.i64 (IntKind.wrap IntKind.i64 (IntKind.wrap IntKind.i64 ((0 : Int) + (↑(List.length (List.map encO A)) : Int)) + (↑(List.length (List.map encO B)) : Int)))))),
  (3, AVal.imm (IVal.v (Value.int IntKind.i64 (IntKind.wrap IntKind.i64 (IntKind.wrap IntKind.i64 ((0 : Int) + (↑(List.length (List.map encO A)) : Int)) + (↑(List.length (List.map encO B)) : Int)))))),
  (18, AVal.imm (IVal.v (Value.int IntKind.i64 (IntKind.wrap IntKind.i64 (IntKind.wrap IntKind.i64 ((0 : Int) + (↑(List.length (List.map encO A)) : Int)) + (↑(List.length (List.map encO B)) : Int)))))),
  (17, AVal.imm (IVal.v (Value.int IntKind.i64 (↑(List.length (List.map encO B)) : Int)))), (16, AVal.imm (slE 6 encO B)),
  (15, AVal.imm (IVal.v (Value.int IntKind.i64 (IntKind.wrap IntKind.i64 ((0 : Int) + (↑(List.length (List.map encO A)) : Int)))))), (5, AVal.imm (slE 6 encO B)),
  (14, AVal.imm (slE 6 encO B)), (13, AVal.ref false (slE 6 encO B) 0), (10, AVal.imm (IVal.v (Value.int IntKind.i64 (2 : Int)))),
  (9, AVal.imm (IVal.sl false false 1 [slE 6 encO A, slE 6 encO B])), (2, AVal.imm (IVal.v (Value.slice none 0 0))),
  (0, AVal.imm (IVal.sl false false 1 [slE 6 encO A, slE 6 encO B]))]
  [] 36 32 [])
  4 0 (Op.indexAddr 145 (Operand.tmp 9) (Operand.tmp 11)))
  (Tree.need
  (ILeL
  [IVal.v (Value.slice none 0 0),
  IVal.v (Value.int IntKind.i64 (IntKind.wrap IntKind.i64 (IntKind.wrap IntKind.i64 ((0 : Int) + (↑(List.length (List.map encO A)) : Int)) + (↑(List.length (List.map encO B)) : Int))))]
  [IVal.v (Value.slice none 0 0), i64 (IntKind.wrap IntKind.i64 (IntKind.wrap IntKind.i64 ((0 : Int) + (↑(List.length (List.map encO A)) : Int)) + (↑(List.length (List.map encO B)) : Int)))] ∧
  OSpec prog 108
  [IVal.v (Value.slice none 0 0), i64 (IntKind.wrap IntKind.i64 (IntKind.wrap IntKind.i64 ((0 : Int) + (↑(List.length (List.map encO A)) : Int)) + (↑(List.length (List.map encO B)) : Int)))] 68
  6 [])
  (Tree.br true
  (Tree.need (0 = 0 ∧ true = true ∧ cellsOk (List.map encO A) = true ∧ 0 + List.length (List.map encO A) ≤ 1000000)
  (Tree.br true
  (Tree.need
  (List.length ([] ++ List.map encO A) = 0 + List.length (List.map encO A) ∧
  cellsOk ([] ++ List.map encO A) = true ∧ cellsOk (List.map encO B) = true ∧ 0 + List.length (List.map encO A) + List.length (List.map encO B) ≤ 1000000)
  (Tree.br false
  (Tree.stop
  (LState.mk
  [(28, AVal.imm (IVal.v (Value.bool false))), (27, AVal.imm (IVal.v (Value.int IntKind.i64 (2 : Int)))), (34, AVal.imm (IVal.v (Value.int IntKind.i64 (2 : Int)))),
  (6, AVal.own 54 (0 + List.length (List.map encO A) + List.length (List.map encO B))),
  (33, AVal.own 54 (0 + List.length (List.map encO A) + List.length (List.map encO B))), (32, AVal.imm (slE 6 encO B)),
  (31, AVal.own 44 (0 + List.length (List.map encO A))), (8, AVal.imm (slE 6 encO B)), (30, AVal.imm (slE 6 encO B)),
  (29, AVal.ref false (slE 6 encO B) 0), (26, AVal.imm (IVal.v (Value.int IntKind.i64 (2 : Int)))),
  (25, AVal.imm (IVal.sl false false 1 [slE 6 encO A, slE 6 encO B])), (24, AVal.own 33 0),
  (23, AVal.imm (IVal.v (Value.int IntKind.i64 (IntKind.wrap IntKind.i64 (IntKind.wrap IntKind.i64 ((0 : Int) + (↑(List.length (List.map encO A)) : Int)) + (↑(List.length (List.map encO B)) : Int)))))),
  (12, AVal.imm (IVal.v (Value.bool false))), (11, AVal.imm (IVal.v (Value.int IntKind.i64 (2 : Int)))), (22, AVal.imm (IVal.v (Value.int IntKind.i64 (2 : Int)))),
  (20,
  AVal.imm (IVal.v (Value.bool (decide (IntKind.wrap IntKind.i64 (IntKind.wrap IntKind.i64 ((0 : Int) + (↑(List.length (List.map encO A)) : Int)) + (↑(List.length (List.map encO B)) : Int)) < (0 : Int)))))),
  (19, AVal.imm (IVal.v (Value.int IntKind.i64 (IntKind.wrap IntKind.i64 (IntKind.wrap IntKind.i64 ((0 : Int) + (↑(List.length (List.map encO A)) : Int)) + (↑(List.length (List.map encO B)) : Int)))))),
  (3, AVal.imm (IVal.v (Value.int IntKind.i64 (IntKind.wrap IntKind.i64 (IntKind.wrap IntKind.i64 ((0 : Int) + (↑(List.length (List.map encO A)) : Int)) + (↑(List.length (List.map encO B)) : Int)))))),
  (18, AVal.imm (IVal.v (Value.int IntKind.i64 (IntKind.wrap IntKind.i64 (IntKind.wrap IntKind.i64 ((0 : Int) + (↑(List.length (List.map encO A)) : Int)) + (↑(List.length (List.map encO B)) : Int)))))),
  (17, AVal.imm (IVal.v (Value.int IntKind.i64 (↑(List.length (List.map encO B)) : Int)))), (16, AVal.imm (slE 6 encO B)),
  (15, AVal.imm (IVal.v (Value.int IntKind.i64 (IntKind.wrap IntKind.i64 ((0 : Int) + (↑(List.length (List.map encO A)) : Int)))))), (5, AVal.imm (slE 6 encO B)),
  (14, AVal.imm (slE 6 encO B)), (13, AVal.ref false (slE 6 encO B) 0), (10, AVal.imm (IVal.v (Value.int IntKind.i64 (2 : Int)))),
  (9, AVal.imm (IVal.sl false false 1 [slE 6 encO A, slE 6 encO B])), (2, AVal.imm (IVal.v (Value.slice none 0 0))),
  (0, AVal.imm (IVal.sl false false 1 [slE 6 encO A, slE 6 encO B]))]
  [(54, Entry.row 68 6 ([] ++ List.map encO A ++ List.map encO B))] 36 59 [])
  12 0 (Op.indexAddr 145 (Operand.tmp 25) (Operand.tmp 27)))
  (Tree.need (List.length ([] ++ List.map encO A ++ List.map encO B) = 0 + List.length (List.map encO A) + List.length (List.map encO B))
  (Tree.done Exit.ret (lretO 68 6 ([] ++ List.map encO A ++ List.map encO B))))))
  (Tree.need (List.length ([] ++ List.map encO A) = 0 + List.length (List.map encO A)) (Tree.done Exit.ret (lretO 68 6 ([] ++ List.map encO A))))))
  (Tree.need (0 = 0) (Tree.done Exit.ret (lretO 68 6 [])))))))
  (Tree.stop
  (LState.mk
  [(23, AVal.imm (IVal.v (Value.int IntKind.i64 (IntKind.wrap IntKind.i64 ((0 : Int) + (↑(List.length (List.map encO A)) : Int)))))), (12, AVal.imm (IVal.v (Value.bool true))),
  (11, AVal.imm (IVal.v (Value.int IntKind.i64 (1 : Int)))), (22, AVal.imm (IVal.v (Value.int IntKind.i64 (1 : Int)))),
  (20, AVal.imm (IVal.v (Value.bool (decide (IntKind.wrap IntKind.i64 ((0 : Int) + (↑(List.length (List.map encO A)) : Int)) < (0 : Int)))))),
  (19, AVal.imm (IVal.v (Value.int IntKind.i64 (IntKind.wrap IntKind.i64 ((0 : Int) + (↑(List.length (List.map encO A)) : Int)))))),
  (3, AVal.imm (IVal.v (Value.int IntKind.i64 (IntKind.wrap IntKind.i64 ((0 : Int) + (↑(List.length (List.map encO A)) : Int)))))),
  (18, AVal.imm (IVal.v (Value.int IntKind.i64 (IntKind.wrap IntKind.i64 ((0 : Int) + (↑(List.length (List.map encO A)) : Int)))))),
  (17, AVal.imm (IVal.v (Value.int IntKind.i64 (↑(List.length (List.map encO A)) : Int)))), (16, AVal.imm (slE 6 encO A)), (15, AVal.imm (IVal.v (Value.int IntKind.i64 (0 : Int)))),
  (5, AVal.imm (slE 6 encO A)), (14, AVal.imm (slE 6 encO A)), (13, AVal.ref false (slE 6 encO A) 0), (10, AVal.imm (IVal.v (Value.int IntKind.i64 (2 : Int)))),
  (9, AVal.imm (IVal.sl false false 1 [slE 6 encO A, slE 6 encO B])), (2, AVal.imm (IVal.v (Value.slice none 0 0))),
  (0, AVal.imm (IVal.sl false false 1 [slE 6 encO A, slE 6 encO B]))]
  [] 36 19 [])
  9 1 (Op.call (Call.mk (Callee.value (Operand.func 108)) (Array.mk [Operand.const (Value.slice none 0 0), Operand.tmp 23]) (Array.mk [22, 3]))))))
  (Tree.stop
  (LState.mk
  [(23, AVal.imm (IVal.v (Value.int IntKind.i64 (0 : Int)))), (12, AVal.imm (IVal.v (Value.bool true))), (11, AVal.imm (IVal.v (Value.int IntKind.i64 (0 : Int)))),
  (10, AVal.imm (IVal.v (Value.int IntKind.i64 (2 : Int)))), (9, AVal.imm (IVal.sl false false 1 [slE 6 encO A, slE 6 encO B])), (3, AVal.imm (IVal.v (Value.int IntKind.i64 (0 : Int)))),
  (2, AVal.imm (IVal.v (Value.slice none 0 0))), (0, AVal.imm (IVal.sl false false 1 [slE 6 encO A, slE 6 encO B]))]
  [] 36 6 [])
  9 1 (Op.call (Call.mk (Callee.value (Operand.func 108)) (Array.mk [Operand.const (Value.slice none 0 0), Operand.tmp 23]) (Array.mk [22, 3])))) := by kernel_rfl
theorem o89 (A B : List Origin) (hA : A.length ≤ 400000) (hB : B.length ≤ 400000) : OSpec prog 89 [.sl false false 1 [slE 6 encO A, slE 6 encO B]] 68 6 ((A ++ B).map encO) := by
  have e1 : IntKind.i64.wrap ((0 : Int) + ((A.map encO).length : Int)) = (A.length : Int) := by rw [List.length_map, IntWalk.i64_in _ (by omega)]; omega
  have e2 : IntKind.i64.wrap ((A.length : Int) + ((B.map encO).length : Int)) = ((A.length + B.length : Nat) : Int) := by rw [List.length_map, IntWalk.i64_in _ (by omega)]; omega
  refine OSpec.tree Proofs.Tryz.f89 (T89 A B) (by kernel_rfl) (by kernel_rfl) ?_
  rw [t89]
  simp only [e1, e2]
  refine ⟨fun _ => ⟨fun h1 => ?_, fun h1 => ⟨fun _ => ⟨fun h2 => ?_, fun h2 => ⟨fun h => (by cases h), fun _ => need_sat ⟨ILeL.refl _, o108' _ ?_ ?_⟩ ⟨fun _ => need_sat ?_ ⟨fun _ => need_sat ?_ ⟨fun h => (by cases h), fun _ => need_sat ?_ (lretO_ex ?_)⟩, fun h => (by cases h)⟩, fun h => (by cases h)⟩⟩⟩, fun h => (by cases h)⟩⟩, fun h => (by cases h)⟩
  · simp at h1; omega
  · simp at h2; omega
  · omega
  · omega
  · exact ⟨trivial, trivial, cellsOk_map encO (fun _ => rfl) _, by simp; omega⟩
  · exact ⟨by simp, cellsOk_map encO (fun _ => rfl) _, cellsOk_map encO (fun _ => rfl) _, by simp; omega⟩
  · simp
  · simp
def renGT : Shelf.Ren := ⟨fun x => match x with | 4 => 110 | n => n, fun x => match x with | 22 => 23 | 25 => 57 | n => n, fun n => n⟩
theorem growXT : Proofs.Lays8.n4 prog renGT where
  mixed := by kernel_rfl
  f4 := ⟨"slices.Grow[[]gatepath/api.Attest,gatepath/api.Attest]", by decide, Proofs.Tryz.func110.trans (congrArg some (by kernel_rfl))⟩
  t0 := Proofs.Tryz.underlying0
  a0 := Proofs.Tryz.isAgg0
  z0 := Proofs.Tryz.sizeOf0
  v0 := Proofs.Tryz.zeroValue0
  t3 := Proofs.Tryz.underlying3
  a3 := Proofs.Tryz.isAgg3
  z3 := Proofs.Tryz.sizeOf3
  v3 := Proofs.Tryz.zeroValue3
  t4 := Proofs.Tryz.underlying4
  a4 := Proofs.Tryz.isAgg4
  z4 := Proofs.Tryz.sizeOf4
  v4 := Proofs.Tryz.zeroValue4
  t9 := Proofs.Tryz.underlying9
  a9 := Proofs.Tryz.isAgg9
  z9 := Proofs.Tryz.sizeOf9
  v9 := Proofs.Tryz.zeroValue9
  t20 := Proofs.Tryz.underlying20
  a20 := Proofs.Tryz.isAgg20
  z20 := Proofs.Tryz.sizeOf20
  v20 := Proofs.Tryz.zeroValue20
  t22 := Proofs.Tryz.underlying23
  a22 := Proofs.Tryz.isAgg23
  z22 := Proofs.Tryz.sizeOf23
  v22 := Proofs.Tryz.zeroValue23
theorem o110 (n : Nat) (hn : n ≤ 1000000) : OSpec prog 110 [.v (.slice none 0 0), i64 n] 57 2 [] := by
  refine ⟨by kernel_rfl, fun w F vs hF hcol hargs => ?_⟩
  have hvs : vs = #[.slice none 0 0, .int .i64 n] := by
    rw [IRepL] at hargs
    obtain ⟨u, us, h1, h2, h3⟩ := hargs
    rw [IRepL] at h3
    obtain ⟨u', us', h4, h5, h6⟩ := h3
    rw [IRepL] at h6
    rw [IRep] at h2
    rw [i64, IRep] at h5
    rw [← Array.toList_inj, h1, h4, h6, h2.1, h5.1]
  subst hvs
  by_cases h0 : n = 0
  · subst h0
    refine (Proofs.Any8.slices_Grow_room growXT none 0 0 0 w (by omega) (by omega) (by omega) (by omega)).mono ?_
    rintro e w' ⟨rfl, rfl⟩
    exact ⟨⟨0, 0, 0, true, none⟩, F, rfl, ⟨rfl, rfl, rfl, Nat.le_refl _, fun _ _ => rfl⟩, fun _ _ h => h, fun _ _ h => .inl h, hF, hcol, .inl ⟨rfl, rfl⟩, fun h => by cases h⟩
  · obtain ⟨i0, z, hi0, hs0, hk0, hb0, hz0, hzc⟩ := tel_spec (show tel prog 57 2 = true by kernel_rfl)
    refine (Proofs.Any8.slices_Grow_grow growXT i0 z hi0 hz0 (by omega) none 0 0 n [] w (by omega) (by omega) ?_ (by omega) (by simp) (fun _ => rfl) (fun a h => by cases h)).mono ?_
    · have : n * i0.bytes ≤ 1000000 * 65536 := Nat.mul_le_mul hn hb0
      rw [Nat.zero_add]; omega
    rintro e w' ⟨rfl, rfl⟩
    rw [Nat.zero_add]
    have hge : n ≤ grownCap w n 0 57 := grownCap_ge w _ _ _
    refine ⟨⟨w.heap.size, 0, grownCap w n 0 57, false, none⟩, F, rfl, ⟨rfl, rfl, rfl, by rw [heap_alloc_size]; exact Nat.le_succ _, fun b hb => ?_⟩, fun _ _ h => h, fun _ _ h => .inl h, fun c b h => ?_, hcol, .inr ⟨rfl, #[] ++ Builtin.zeroCells z.cells (n - 0) ++ Builtin.zeroCells z.cells (grownCap w n 0 57 - n), (0, 0), [], ?_, ?_, ?_, Nat.zero_le _, rfl, trivial⟩, fun _ => ⟨Nat.le_refl _, fun c h => ?_⟩⟩
    · exact heap_alloc_old w.drew _ hb
    · have := hF c b h; rw [heap_alloc_size]; show b < w.heap.size + 1; omega
    · exact heap_alloc_new w.drew _
    · intro j _; simp
    · simp only [Array.size_append, size_zeroCells, hzc, Nat.sub_zero]
      have : grownCap w n 0 57 * 2 = n * 2 + (grownCap w n 0 57 - n) * 2 := by rw [← Nat.add_mul]; congr 1; omega
      simp; omega
    · have := hF c w.heap.size h; omega
theorem o110' (n : Int) (h0 : 0 ≤ n) (hn : n ≤ 1000000) : OSpec prog 110 [.v (.slice none 0 0), i64 n] 57 2 [] := by
  obtain ⟨n, rfl⟩ := Int.eq_ofNat_of_zero_le h0
  exact o110 n (by omega)
def T91 (A B : List Attest) : Tell :=
  Tell.mk (fun x x_1 => false) (fun x x_1 => Orc.no) (fun x => Tree.fail 1000003 0) (fun x => 3) (fun x => ([], []))
  (oget
  [(6, 4, 0, Orc.ext [] (IVal.tup [])), (19, 4, 0, Orc.ext [] (IVal.tup [])),
  (32, 9, 1,
  Orc.callo [IVal.v (Value.slice none 0 0), i64 (IntKind.wrap IntKind.i64 (IntKind.wrap IntKind.i64 ((0 : Int) + (↑(List.length (List.map encT A)) : Int)) + (↑(List.length (List.map encT B)) : Int)))] 57
  2 []),
  (39, 12, 0, Orc.ext [] (IVal.tup [])), (49, 12, 0, Orc.ext [] (IVal.tup []))])
  fun x x_1 => Tree.fail 1000003 0
theorem t91 (A B : List Attest) : levO prog Proofs.Tryz.f91 [.sl false false 1 [slE 2 encT A, slE 2 encT B]] (T91 A B) =
  Tree.br true
  (Tree.br (decide (IntKind.wrap IntKind.i64 ((0 : Int) + (↑(List.length (List.map encT A)) : Int)) < (0 : Int))) (Tree.fail 7 0)
  (Tree.br true
  (Tree.br (decide (IntKind.wrap IntKind.i64 (IntKind.wrap IntKind.i64 ((0 : Int) + (↑(List.length (List.map encT A)) : Int)) + (↑(List.length (List.map encT B)) : Int)) < (0 : Int))) (Tree.fail 7 0)
  (Tree.br false
  (Tree.stop
  (LState.mk
  [(12, AVal.imm (IVal.v (Value.bool false))), (11, AVal.imm (IVal.v (Value.int IntKind.i64 (2 : Int)))), (22, AVal.imm (IVal.v (Value.int IntKind.i64 (2 : Int)))),
  (20, AVal.imm (IVal.v (Value.bool (decide (IntKind.wrap IntKind.i64 (IntKind.wrap IntKind.i64 ((0 : Int) + (↑(List.length (List.map encT A)) : Int)) + (↑(List.length (List.map encT B)) : Int)) < (0 : Int)))))),
  (19, AVal.imm (IVal.v (Value.int IntKind.i64 (IntKind.wrap IntKind.i64 (IntKind.wrap IntKind.i64 ((0 : Int) + (↑(List.length (List.map encT A)) : Int)) + (↑(List.length (List.map encT B)) : Int)))))),
  (3, AVal.imm (IVal.v (Value.int IntKind.i64 (IntKind.wrap IntKind.i64 (IntKind.wrap IntKind.i64 ((0 : Int) + (↑(List.length (List.map encT A)) : Int)) + (↑(List.length (List.map encT B)) : Int)))))),
  (18, AVal.imm (IVal.v (Value.int IntKind.i64 (IntKind.wrap IntKind.i64 (IntKind.wrap IntKind.i64 ((0 : Int) + (↑(List.length (List.map encT A)) : Int)) + (↑(List.length (List.map encT B)) : Int)))))),
  (17, AVal.imm (IVal.v (Value.int IntKind.i64 (↑(List.length (List.map encT B)) : Int)))), (16, AVal.imm (slE 2 encT B)),
  (15, AVal.imm (IVal.v (Value.int IntKind.i64 (IntKind.wrap IntKind.i64 ((0 : Int) + (↑(List.length (List.map encT A)) : Int)))))), (5, AVal.imm (slE 2 encT B)),
  (14, AVal.imm (slE 2 encT B)), (13, AVal.ref false (slE 2 encT B) 0), (10, AVal.imm (IVal.v (Value.int IntKind.i64 (2 : Int)))),
  (9, AVal.imm (IVal.sl false false 1 [slE 2 encT A, slE 2 encT B])), (2, AVal.imm (IVal.v (Value.slice none 0 0))),
  (0, AVal.imm (IVal.sl false false 1 [slE 2 encT A, slE 2 encT B]))]
  [] 36 32 [])
  4 0 (Op.indexAddr 148 (Operand.tmp 9) (Operand.tmp 11)))
  (Tree.need
  (ILeL
  [IVal.v (Value.slice none 0 0),
  IVal.v (Value.int IntKind.i64 (IntKind.wrap IntKind.i64 (IntKind.wrap IntKind.i64 ((0 : Int) + (↑(List.length (List.map encT A)) : Int)) + (↑(List.length (List.map encT B)) : Int))))]
  [IVal.v (Value.slice none 0 0), i64 (IntKind.wrap IntKind.i64 (IntKind.wrap IntKind.i64 ((0 : Int) + (↑(List.length (List.map encT A)) : Int)) + (↑(List.length (List.map encT B)) : Int)))] ∧
  OSpec prog 110
  [IVal.v (Value.slice none 0 0), i64 (IntKind.wrap IntKind.i64 (IntKind.wrap IntKind.i64 ((0 : Int) + (↑(List.length (List.map encT A)) : Int)) + (↑(List.length (List.map encT B)) : Int)))] 57
  2 [])
  (Tree.br true
  (Tree.need (0 = 0 ∧ true = true ∧ cellsOk (List.map encT A) = true ∧ 0 + List.length (List.map encT A) ≤ 1000000)
  (Tree.br true
  (Tree.need
  (List.length ([] ++ List.map encT A) = 0 + List.length (List.map encT A) ∧
  cellsOk ([] ++ List.map encT A) = true ∧ cellsOk (List.map encT B) = true ∧ 0 + List.length (List.map encT A) + List.length (List.map encT B) ≤ 1000000)
  (Tree.br false
  (Tree.stop
  (LState.mk
  [(28, AVal.imm (IVal.v (Value.bool false))), (27, AVal.imm (IVal.v (Value.int IntKind.i64 (2 : Int)))), (34, AVal.imm (IVal.v (Value.int IntKind.i64 (2 : Int)))),
  (6, AVal.own 54 (0 + List.length (List.map encT A) + List.length (List.map encT B))),
  (33, AVal.own 54 (0 + List.length (List.map encT A) + List.length (List.map encT B))), (32, AVal.imm (slE 2 encT B)),
  (31, AVal.own 44 (0 + List.length (List.map encT A))), (8, AVal.imm (slE 2 encT B)), (30, AVal.imm (slE 2 encT B)),
  (29, AVal.ref false (slE 2 encT B) 0), (26, AVal.imm (IVal.v (Value.int IntKind.i64 (2 : Int)))),
  (25, AVal.imm (IVal.sl false false 1 [slE 2 encT A, slE 2 encT B])), (24, AVal.own 33 0),
  (23, AVal.imm (IVal.v (Value.int IntKind.i64 (IntKind.wrap IntKind.i64 (IntKind.wrap IntKind.i64 ((0 : Int) + (↑(List.length (List.map encT A)) : Int)) + (↑(List.length (List.map encT B)) : Int)))))),
  (12, AVal.imm (IVal.v (Value.bool false))), (11, AVal.imm (IVal.v (Value.int IntKind.i64 (2 : Int)))), (22, AVal.imm (IVal.v (Value.int IntKind.i64 (2 : Int)))),
  (20,
  AVal.imm (IVal.v (Value.bool (decide (IntKind.wrap IntKind.i64 (IntKind.wrap IntKind.i64 ((0 : Int) + (↑(List.length (List.map encT A)) : Int)) + (↑(List.length (List.map encT B)) : Int)) < (0 : Int)))))),
  (19, AVal.imm (IVal.v (Value.int IntKind.i64 (IntKind.wrap IntKind.i64 (IntKind.wrap IntKind.i64 ((0 : Int) + (↑(List.length (List.map encT A)) : Int)) + (↑(List.length (List.map encT B)) : Int)))))),
  (3, AVal.imm (IVal.v (Value.int IntKind.i64 (IntKind.wrap IntKind.i64 (IntKind.wrap IntKind.i64 ((0 : Int) + (↑(List.length (List.map encT A)) : Int)) + (↑(List.length (List.map encT B)) : Int)))))),
  (18, AVal.imm (IVal.v (Value.int IntKind.i64 (IntKind.wrap IntKind.i64 (IntKind.wrap IntKind.i64 ((0 : Int) + (↑(List.length (List.map encT A)) : Int)) + (↑(List.length (List.map encT B)) : Int)))))),
  (17, AVal.imm (IVal.v (Value.int IntKind.i64 (↑(List.length (List.map encT B)) : Int)))), (16, AVal.imm (slE 2 encT B)),
  (15, AVal.imm (IVal.v (Value.int IntKind.i64 (IntKind.wrap IntKind.i64 ((0 : Int) + (↑(List.length (List.map encT A)) : Int)))))), (5, AVal.imm (slE 2 encT B)),
  (14, AVal.imm (slE 2 encT B)), (13, AVal.ref false (slE 2 encT B) 0), (10, AVal.imm (IVal.v (Value.int IntKind.i64 (2 : Int)))),
  (9, AVal.imm (IVal.sl false false 1 [slE 2 encT A, slE 2 encT B])), (2, AVal.imm (IVal.v (Value.slice none 0 0))),
  (0, AVal.imm (IVal.sl false false 1 [slE 2 encT A, slE 2 encT B]))]
  [(54, Entry.row 57 2 ([] ++ List.map encT A ++ List.map encT B))] 36 59 [])
  12 0 (Op.indexAddr 148 (Operand.tmp 25) (Operand.tmp 27)))
  (Tree.need (List.length ([] ++ List.map encT A ++ List.map encT B) = 0 + List.length (List.map encT A) + List.length (List.map encT B))
  (Tree.done Exit.ret (lretO 57 2 ([] ++ List.map encT A ++ List.map encT B))))))
  (Tree.need (List.length ([] ++ List.map encT A) = 0 + List.length (List.map encT A)) (Tree.done Exit.ret (lretO 57 2 ([] ++ List.map encT A))))))
  (Tree.need (0 = 0) (Tree.done Exit.ret (lretO 57 2 [])))))))
  (Tree.stop
  (LState.mk
  [(23, AVal.imm (IVal.v (Value.int IntKind.i64 (IntKind.wrap IntKind.i64 ((0 : Int) + (↑(List.length (List.map encT A)) : Int)))))), (12, AVal.imm (IVal.v (Value.bool true))),
  (11, AVal.imm (IVal.v (Value.int IntKind.i64 (1 : Int)))), (22, AVal.imm (IVal.v (Value.int IntKind.i64 (1 : Int)))),
  (20, AVal.imm (IVal.v (Value.bool (decide (IntKind.wrap IntKind.i64 ((0 : Int) + (↑(List.length (List.map encT A)) : Int)) < (0 : Int)))))),
  (19, AVal.imm (IVal.v (Value.int IntKind.i64 (IntKind.wrap IntKind.i64 ((0 : Int) + (↑(List.length (List.map encT A)) : Int)))))),
  (3, AVal.imm (IVal.v (Value.int IntKind.i64 (IntKind.wrap IntKind.i64 ((0 : Int) + (↑(List.length (List.map encT A)) : Int)))))),
  (18, AVal.imm (IVal.v (Value.int IntKind.i64 (IntKind.wrap IntKind.i64 ((0 : Int) + (↑(List.length (List.map encT A)) : Int)))))),
  (17, AVal.imm (IVal.v (Value.int IntKind.i64 (↑(List.length (List.map encT A)) : Int)))), (16, AVal.imm (slE 2 encT A)), (15, AVal.imm (IVal.v (Value.int IntKind.i64 (0 : Int)))),
  (5, AVal.imm (slE 2 encT A)), (14, AVal.imm (slE 2 encT A)), (13, AVal.ref false (slE 2 encT A) 0), (10, AVal.imm (IVal.v (Value.int IntKind.i64 (2 : Int)))),
  (9, AVal.imm (IVal.sl false false 1 [slE 2 encT A, slE 2 encT B])), (2, AVal.imm (IVal.v (Value.slice none 0 0))),
  (0, AVal.imm (IVal.sl false false 1 [slE 2 encT A, slE 2 encT B]))]
  [] 36 19 [])
  9 1 (Op.call (Call.mk (Callee.value (Operand.func 110)) (Array.mk [Operand.const (Value.slice none 0 0), Operand.tmp 23]) (Array.mk [23, 3]))))))
  (Tree.stop
  (LState.mk
  [(23, AVal.imm (IVal.v (Value.int IntKind.i64 (0 : Int)))), (12, AVal.imm (IVal.v (Value.bool true))), (11, AVal.imm (IVal.v (Value.int IntKind.i64 (0 : Int)))),
  (10, AVal.imm (IVal.v (Value.int IntKind.i64 (2 : Int)))), (9, AVal.imm (IVal.sl false false 1 [slE 2 encT A, slE 2 encT B])), (3, AVal.imm (IVal.v (Value.int IntKind.i64 (0 : Int)))),
  (2, AVal.imm (IVal.v (Value.slice none 0 0))), (0, AVal.imm (IVal.sl false false 1 [slE 2 encT A, slE 2 encT B]))]
  [] 36 6 [])
  9 1 (Op.call (Call.mk (Callee.value (Operand.func 110)) (Array.mk [Operand.const (Value.slice none 0 0), Operand.tmp 23]) (Array.mk [23, 3])))) := by kernel_rfl
theorem o91 (A B : List Attest) (hA : A.length ≤ 400000) (hB : B.length ≤ 400000) : OSpec prog 91 [.sl false false 1 [slE 2 encT A, slE 2 encT B]] 57 2 ((A ++ B).map encT) := by
  have e1 : IntKind.i64.wrap ((0 : Int) + ((A.map encT).length : Int)) = (A.length : Int) := by rw [List.length_map, IntWalk.i64_in _ (by omega)]; omega
  have e2 : IntKind.i64.wrap ((A.length : Int) + ((B.map encT).length : Int)) = ((A.length + B.length : Nat) : Int) := by rw [List.length_map, IntWalk.i64_in _ (by omega)]; omega
  refine OSpec.tree Proofs.Tryz.f91 (T91 A B) (by kernel_rfl) (by kernel_rfl) ?_
  rw [t91]
  simp only [e1, e2]
  refine ⟨fun _ => ⟨fun h1 => ?_, fun h1 => ⟨fun _ => ⟨fun h2 => ?_, fun h2 => ⟨fun h => (by cases h), fun _ => need_sat ⟨ILeL.refl _, o110' _ ?_ ?_⟩ ⟨fun _ => need_sat ?_ ⟨fun _ => need_sat ?_ ⟨fun h => (by cases h), fun _ => need_sat ?_ (lretO_ex ?_)⟩, fun h => (by cases h)⟩, fun h => (by cases h)⟩⟩⟩, fun h => (by cases h)⟩⟩, fun h => (by cases h)⟩
  · simp at h1; omega
  · simp at h2; omega
  · omega
  · omega
  · exact ⟨trivial, trivial, cellsOk_map encT (fun _ => rfl) _, by simp; omega⟩
  · exact ⟨by simp, cellsOk_map encT (fun _ => rfl) _, cellsOk_map encT (fun _ => rfl) _, by simp; omega⟩
  · simp
  · simp
def renGK : Shelf.Ren := ⟨fun x => match x with | 4 => 112 | n => n, fun x => match x with | 22 => 24 | 25 => 75 | n => n, fun n => n⟩
theorem growXK : Proofs.Lays8.n4 prog renGK where
  mixed := by kernel_rfl
  f4 := ⟨"slices.Grow[[]gatepath/api.RouterKey,gatepath/api.RouterKey]", by decide, Proofs.Tryz.func112.trans (congrArg some (by kernel_rfl))⟩
  t0 := Proofs.Tryz.underlying0
  a0 := Proofs.Tryz.isAgg0
  z0 := Proofs.Tryz.sizeOf0
  v0 := Proofs.Tryz.zeroValue0
  t3 := Proofs.Tryz.underlying3
  a3 := Proofs.Tryz.isAgg3
  z3 := Proofs.Tryz.sizeOf3
  v3 := Proofs.Tryz.zeroValue3
  t4 := Proofs.Tryz.underlying4
  a4 := Proofs.Tryz.isAgg4
  z4 := Proofs.Tryz.sizeOf4
  v4 := Proofs.Tryz.zeroValue4
  t9 := Proofs.Tryz.underlying9
  a9 := Proofs.Tryz.isAgg9
  z9 := Proofs.Tryz.sizeOf9
  v9 := Proofs.Tryz.zeroValue9
  t20 := Proofs.Tryz.underlying20
  a20 := Proofs.Tryz.isAgg20
  z20 := Proofs.Tryz.sizeOf20
  v20 := Proofs.Tryz.zeroValue20
  t22 := Proofs.Tryz.underlying24
  a22 := Proofs.Tryz.isAgg24
  z22 := Proofs.Tryz.sizeOf24
  v22 := Proofs.Tryz.zeroValue24
theorem o112 (n : Nat) (hn : n ≤ 1000000) : OSpec prog 112 [.v (.slice none 0 0), i64 n] 75 18 [] := by
  refine ⟨by kernel_rfl, fun w F vs hF hcol hargs => ?_⟩
  have hvs : vs = #[.slice none 0 0, .int .i64 n] := by
    rw [IRepL] at hargs
    obtain ⟨u, us, h1, h2, h3⟩ := hargs
    rw [IRepL] at h3
    obtain ⟨u', us', h4, h5, h6⟩ := h3
    rw [IRepL] at h6
    rw [IRep] at h2
    rw [i64, IRep] at h5
    rw [← Array.toList_inj, h1, h4, h6, h2.1, h5.1]
  subst hvs
  by_cases h0 : n = 0
  · subst h0
    refine (Proofs.Any8.slices_Grow_room growXK none 0 0 0 w (by omega) (by omega) (by omega) (by omega)).mono ?_
    rintro e w' ⟨rfl, rfl⟩
    exact ⟨⟨0, 0, 0, true, none⟩, F, rfl, ⟨rfl, rfl, rfl, Nat.le_refl _, fun _ _ => rfl⟩, fun _ _ h => h, fun _ _ h => .inl h, hF, hcol, .inl ⟨rfl, rfl⟩, fun h => by cases h⟩
  · obtain ⟨i0, z, hi0, hs0, hk0, hb0, hz0, hzc⟩ := tel_spec (show tel prog 75 18 = true by kernel_rfl)
    refine (Proofs.Any8.slices_Grow_grow growXK i0 z hi0 hz0 (by omega) none 0 0 n [] w (by omega) (by omega) ?_ (by omega) (by simp) (fun _ => rfl) (fun a h => by cases h)).mono ?_
    · have : n * i0.bytes ≤ 1000000 * 65536 := Nat.mul_le_mul hn hb0
      rw [Nat.zero_add]; omega
    rintro e w' ⟨rfl, rfl⟩
    rw [Nat.zero_add]
    have hge : n ≤ grownCap w n 0 75 := grownCap_ge w _ _ _
    refine ⟨⟨w.heap.size, 0, grownCap w n 0 75, false, none⟩, F, rfl, ⟨rfl, rfl, rfl, by rw [heap_alloc_size]; exact Nat.le_succ _, fun b hb => ?_⟩, fun _ _ h => h, fun _ _ h => .inl h, fun c b h => ?_, hcol, .inr ⟨rfl, #[] ++ Builtin.zeroCells z.cells (n - 0) ++ Builtin.zeroCells z.cells (grownCap w n 0 75 - n), (0, 0), [], ?_, ?_, ?_, Nat.zero_le _, rfl, trivial⟩, fun _ => ⟨Nat.le_refl _, fun c h => ?_⟩⟩
    · exact heap_alloc_old w.drew _ hb
    · have := hF c b h; rw [heap_alloc_size]; show b < w.heap.size + 1; omega
    · exact heap_alloc_new w.drew _
    · intro j _; simp
    · simp only [Array.size_append, size_zeroCells, hzc, Nat.sub_zero]
      have : grownCap w n 0 75 * 18 = n * 18 + (grownCap w n 0 75 - n) * 18 := by rw [← Nat.add_mul]; congr 1; omega
      simp; omega
    · have := hF c w.heap.size h; omega
theorem o112' (n : Int) (h0 : 0 ≤ n) (hn : n ≤ 1000000) : OSpec prog 112 [.v (.slice none 0 0), i64 n] 75 18 [] := by
  obtain ⟨n, rfl⟩ := Int.eq_ofNat_of_zero_le h0
  exact o112 n (by omega)
def T93 (A B : List RKey) : Tell :=
  Tell.mk (fun x x_1 => false) (fun x x_1 => Orc.no) (fun x => Tree.fail 1000003 0) (fun x => 3) (fun x => ([], []))
  (oget
  [(6, 4, 0, Orc.ext [] (IVal.tup [])), (19, 4, 0, Orc.ext [] (IVal.tup [])),
  (32, 9, 1,
  Orc.callo [IVal.v (Value.slice none 0 0), i64 (IntKind.wrap IntKind.i64 (IntKind.wrap IntKind.i64 ((0 : Int) + (↑(List.length (List.map encK A)) : Int)) + (↑(List.length (List.map encK B)) : Int)))] 75
  18 []),
  (39, 12, 0, Orc.ext [] (IVal.tup [])), (49, 12, 0, Orc.ext [] (IVal.tup []))])
  fun x x_1 => Tree.fail 1000003 0
theorem t93 (A B : List RKey) : levO prog Proofs.Tryz.f93 [.sl false false 1 [slE 18 encK A, slE 18 encK B]] (T93 A B) =
  Tree.br true
  (Tree.br (decide (IntKind.wrap IntKind.i64 ((0 : Int) + (↑(List.length (List.map encK A)) : Int)) < (0 : Int))) (Tree.fail 7 0)
  (Tree.br true
  (Tree.br (decide (IntKind.wrap IntKind.i64 (IntKind.wrap IntKind.i64 ((0 : Int) + (↑(List.length (List.map encK A)) : Int)) + (↑(List.length (List.map encK B)) : Int)) < (0 : Int))) (Tree.fail 7 0)
  (Tree.br false
  (Tree.stop
  (LState.mk
  [(12, AVal.imm (IVal.v (Value.bool false))), (11, AVal.imm (IVal.v (Value.int IntKind.i64 (2 : Int)))), (22, AVal.imm (IVal.v (Value.int IntKind.i64 (2 : Int)))),
  (20, AVal.imm (IVal.v (Value.bool (decide (IntKind.wrap IntKind.i64 (IntKind.wrap IntKind.i64 ((0 : Int) + (↑(List.length (List.map encK A)) : Int)) + (↑(List.length (List.map encK B)) : Int)) < (0 : Int)))))),
  (19, AVal.imm (IVal.v (Value.int IntKind.i64 (IntKind.wrap IntKind.i64 (IntKind.wrap IntKind.i64 ((0 : Int) + (↑(List.length (List.map encK A)) : Int)) + (↑(List.length (List.map encK B)) : Int)))))),
  (3, AVal.imm (IVal.v (Value.int IntKind.i64 (IntKind.wrap IntKind.i64 (IntKind.wrap IntKind.i64 ((0 : Int) + (↑(List.length (List.map encK A)) : Int)) + (↑(List.length (List.map encK B)) : Int)))))),
  (18, AVal.imm (IVal.v (Value.int IntKind.i64 (IntKind.wrap IntKind.i64 (IntKind.wrap IntKind.i64 ((0 : Int) + (↑(List.length (List.map encK A)) : Int)) + (↑(List.length (List.map encK B)) : Int)))))),
  (17, AVal.imm (IVal.v (Value.int IntKind.i64 (↑(List.length (List.map encK B)) : Int)))), (16, AVal.imm (slE 18 encK B)),
  (15, AVal.imm (IVal.v (Value.int IntKind.i64 (IntKind.wrap IntKind.i64 ((0 : Int) + (↑(List.length (List.map encK A)) : Int)))))), (5, AVal.imm (slE 18 encK B)),
  (14, AVal.imm (slE 18 encK B)), (13, AVal.ref false (slE 18 encK B) 0), (10, AVal.imm (IVal.v (Value.int IntKind.i64 (2 : Int)))),
  (9, AVal.imm (IVal.sl false false 1 [slE 18 encK A, slE 18 encK B])), (2, AVal.imm (IVal.v (Value.slice none 0 0))),
  (0, AVal.imm (IVal.sl false false 1 [slE 18 encK A, slE 18 encK B]))]
  [] 36 32 [])
  4 0 (Op.indexAddr 151 (Operand.tmp 9) (Operand.tmp 11)))
  (Tree.need
  (ILeL
  [IVal.v (Value.slice none 0 0),
  IVal.v (Value.int IntKind.i64 (IntKind.wrap IntKind.i64 (IntKind.wrap IntKind.i64 ((0 : Int) + (↑(List.length (List.map encK A)) : Int)) + (↑(List.length (List.map encK B)) : Int))))]
  [IVal.v (Value.slice none 0 0), i64 (IntKind.wrap IntKind.i64 (IntKind.wrap IntKind.i64 ((0 : Int) + (↑(List.length (List.map encK A)) : Int)) + (↑(List.length (List.map encK B)) : Int)))] ∧
  OSpec prog 112
  [IVal.v (Value.slice none 0 0), i64 (IntKind.wrap IntKind.i64 (IntKind.wrap IntKind.i64 ((0 : Int) + (↑(List.length (List.map encK A)) : Int)) + (↑(List.length (List.map encK B)) : Int)))] 75
  18 [])
  (Tree.br true
  (Tree.need (0 = 0 ∧ true = true ∧ cellsOk (List.map encK A) = true ∧ 0 + List.length (List.map encK A) ≤ 1000000)
  (Tree.br true
  (Tree.need
  (List.length ([] ++ List.map encK A) = 0 + List.length (List.map encK A) ∧
  cellsOk ([] ++ List.map encK A) = true ∧ cellsOk (List.map encK B) = true ∧ 0 + List.length (List.map encK A) + List.length (List.map encK B) ≤ 1000000)
  (Tree.br false
  (Tree.stop
  (LState.mk
  [(28, AVal.imm (IVal.v (Value.bool false))), (27, AVal.imm (IVal.v (Value.int IntKind.i64 (2 : Int)))), (34, AVal.imm (IVal.v (Value.int IntKind.i64 (2 : Int)))),
  (6, AVal.own 54 (0 + List.length (List.map encK A) + List.length (List.map encK B))),
  (33, AVal.own 54 (0 + List.length (List.map encK A) + List.length (List.map encK B))), (32, AVal.imm (slE 18 encK B)),
  (31, AVal.own 44 (0 + List.length (List.map encK A))), (8, AVal.imm (slE 18 encK B)), (30, AVal.imm (slE 18 encK B)),
  (29, AVal.ref false (slE 18 encK B) 0), (26, AVal.imm (IVal.v (Value.int IntKind.i64 (2 : Int)))),
  (25, AVal.imm (IVal.sl false false 1 [slE 18 encK A, slE 18 encK B])), (24, AVal.own 33 0),
  (23, AVal.imm (IVal.v (Value.int IntKind.i64 (IntKind.wrap IntKind.i64 (IntKind.wrap IntKind.i64 ((0 : Int) + (↑(List.length (List.map encK A)) : Int)) + (↑(List.length (List.map encK B)) : Int)))))),
  (12, AVal.imm (IVal.v (Value.bool false))), (11, AVal.imm (IVal.v (Value.int IntKind.i64 (2 : Int)))), (22, AVal.imm (IVal.v (Value.int IntKind.i64 (2 : Int)))),
  (20,
  AVal.imm (IVal.v (Value.bool (decide (IntKind.wrap IntKind.i64 (IntKind.wrap IntKind.i64 ((0 : Int) + (↑(List.length (List.map encK A)) : Int)) + (↑(List.length (List.map encK B)) : Int)) < (0 : Int)))))),
  (19, AVal.imm (IVal.v (Value.int IntKind.i64 (IntKind.wrap IntKind.i64 (IntKind.wrap IntKind.i64 ((0 : Int) + (↑(List.length (List.map encK A)) : Int)) + (↑(List.length (List.map encK B)) : Int)))))),
  (3, AVal.imm (IVal.v (Value.int IntKind.i64 (IntKind.wrap IntKind.i64 (IntKind.wrap IntKind.i64 ((0 : Int) + (↑(List.length (List.map encK A)) : Int)) + (↑(List.length (List.map encK B)) : Int)))))),
  (18, AVal.imm (IVal.v (Value.int IntKind.i64 (IntKind.wrap IntKind.i64 (IntKind.wrap IntKind.i64 ((0 : Int) + (↑(List.length (List.map encK A)) : Int)) + (↑(List.length (List.map encK B)) : Int)))))),
  (17, AVal.imm (IVal.v (Value.int IntKind.i64 (↑(List.length (List.map encK B)) : Int)))), (16, AVal.imm (slE 18 encK B)),
  (15, AVal.imm (IVal.v (Value.int IntKind.i64 (IntKind.wrap IntKind.i64 ((0 : Int) + (↑(List.length (List.map encK A)) : Int)))))), (5, AVal.imm (slE 18 encK B)),
  (14, AVal.imm (slE 18 encK B)), (13, AVal.ref false (slE 18 encK B) 0), (10, AVal.imm (IVal.v (Value.int IntKind.i64 (2 : Int)))),
  (9, AVal.imm (IVal.sl false false 1 [slE 18 encK A, slE 18 encK B])), (2, AVal.imm (IVal.v (Value.slice none 0 0))),
  (0, AVal.imm (IVal.sl false false 1 [slE 18 encK A, slE 18 encK B]))]
  [(54, Entry.row 75 18 ([] ++ List.map encK A ++ List.map encK B))] 36 59 [])
  12 0 (Op.indexAddr 151 (Operand.tmp 25) (Operand.tmp 27)))
  (Tree.need (List.length ([] ++ List.map encK A ++ List.map encK B) = 0 + List.length (List.map encK A) + List.length (List.map encK B))
  (Tree.done Exit.ret (lretO 75 18 ([] ++ List.map encK A ++ List.map encK B))))))
  (Tree.need (List.length ([] ++ List.map encK A) = 0 + List.length (List.map encK A)) (Tree.done Exit.ret (lretO 75 18 ([] ++ List.map encK A))))))
  (Tree.need (0 = 0) (Tree.done Exit.ret (lretO 75 18 [])))))))
  (Tree.stop
  (LState.mk
  [(23, AVal.imm (IVal.v (Value.int IntKind.i64 (IntKind.wrap IntKind.i64 ((0 : Int) + (↑(List.length (List.map encK A)) : Int)))))), (12, AVal.imm (IVal.v (Value.bool true))),
  (11, AVal.imm (IVal.v (Value.int IntKind.i64 (1 : Int)))), (22, AVal.imm (IVal.v (Value.int IntKind.i64 (1 : Int)))),
  (20, AVal.imm (IVal.v (Value.bool (decide (IntKind.wrap IntKind.i64 ((0 : Int) + (↑(List.length (List.map encK A)) : Int)) < (0 : Int)))))),
  (19, AVal.imm (IVal.v (Value.int IntKind.i64 (IntKind.wrap IntKind.i64 ((0 : Int) + (↑(List.length (List.map encK A)) : Int)))))),
  (3, AVal.imm (IVal.v (Value.int IntKind.i64 (IntKind.wrap IntKind.i64 ((0 : Int) + (↑(List.length (List.map encK A)) : Int)))))),
  (18, AVal.imm (IVal.v (Value.int IntKind.i64 (IntKind.wrap IntKind.i64 ((0 : Int) + (↑(List.length (List.map encK A)) : Int)))))),
  (17, AVal.imm (IVal.v (Value.int IntKind.i64 (↑(List.length (List.map encK A)) : Int)))), (16, AVal.imm (slE 18 encK A)), (15, AVal.imm (IVal.v (Value.int IntKind.i64 (0 : Int)))),
  (5, AVal.imm (slE 18 encK A)), (14, AVal.imm (slE 18 encK A)), (13, AVal.ref false (slE 18 encK A) 0), (10, AVal.imm (IVal.v (Value.int IntKind.i64 (2 : Int)))),
  (9, AVal.imm (IVal.sl false false 1 [slE 18 encK A, slE 18 encK B])), (2, AVal.imm (IVal.v (Value.slice none 0 0))),
  (0, AVal.imm (IVal.sl false false 1 [slE 18 encK A, slE 18 encK B]))]
  [] 36 19 [])
  9 1 (Op.call (Call.mk (Callee.value (Operand.func 112)) (Array.mk [Operand.const (Value.slice none 0 0), Operand.tmp 23]) (Array.mk [24, 3]))))))
  (Tree.stop
  (LState.mk
  [(23, AVal.imm (IVal.v (Value.int IntKind.i64 (0 : Int)))), (12, AVal.imm (IVal.v (Value.bool true))), (11, AVal.imm (IVal.v (Value.int IntKind.i64 (0 : Int)))),
  (10, AVal.imm (IVal.v (Value.int IntKind.i64 (2 : Int)))), (9, AVal.imm (IVal.sl false false 1 [slE 18 encK A, slE 18 encK B])),
  (3, AVal.imm (IVal.v (Value.int IntKind.i64 (0 : Int)))), (2, AVal.imm (IVal.v (Value.slice none 0 0))),
  (0, AVal.imm (IVal.sl false false 1 [slE 18 encK A, slE 18 encK B]))]
  [] 36 6 [])
  9 1 (Op.call (Call.mk (Callee.value (Operand.func 112)) (Array.mk [Operand.const (Value.slice none 0 0), Operand.tmp 23]) (Array.mk [24, 3])))) := by kernel_rfl
theorem o93 (A B : List RKey) (hA : A.length ≤ 400000) (hB : B.length ≤ 400000) : OSpec prog 93 [.sl false false 1 [slE 18 encK A, slE 18 encK B]] 75 18 ((A ++ B).map encK) := by
  have e1 : IntKind.i64.wrap ((0 : Int) + ((A.map encK).length : Int)) = (A.length : Int) := by rw [List.length_map, IntWalk.i64_in _ (by omega)]; omega
  have e2 : IntKind.i64.wrap ((A.length : Int) + ((B.map encK).length : Int)) = ((A.length + B.length : Nat) : Int) := by rw [List.length_map, IntWalk.i64_in _ (by omega)]; omega
  refine OSpec.tree Proofs.Tryz.f93 (T93 A B) (by kernel_rfl) (by kernel_rfl) ?_
  rw [t93]
  simp only [e1, e2]
  refine ⟨fun _ => ⟨fun h1 => ?_, fun h1 => ⟨fun _ => ⟨fun h2 => ?_, fun h2 => ⟨fun h => (by cases h), fun _ => need_sat ⟨ILeL.refl _, o112' _ ?_ ?_⟩ ⟨fun _ => need_sat ?_ ⟨fun _ => need_sat ?_ ⟨fun h => (by cases h), fun _ => need_sat ?_ (lretO_ex ?_)⟩, fun h => (by cases h)⟩, fun h => (by cases h)⟩⟩⟩, fun h => (by cases h)⟩⟩, fun h => (by cases h)⟩
  · simp at h1; omega
  · simp at h2; omega
  · omega
  · omega
  · exact ⟨trivial, trivial, cellsOk_map encK (fun _ => rfl) _, by simp; omega⟩
  · exact ⟨by simp, cellsOk_map encK (fun _ => rfl) _, cellsOk_map encK (fun _ => rfl) _, by simp; omega⟩
  · simp
  · simp
end Gp
