/- Part 6 of the walk and of the plain law of DiffApplies. -/
import Derived.Test.YtcccdohpepnfjaaGreatW5
set_option maxRecDepth 100000
set_option maxHeartbeats 0
set_option linter.unusedVariables false
set_option linter.unusedSimpArgs false
open Go Go.Abs
namespace Gp
theorem sat_brd {Λ : Nat → LState → Tree → Prop} {Q : Exit → LState → Prop} {p : Prop} {_ : Decidable p} {t f : Tree} (h1 : p → t.sat Λ Q) (h2 : ¬ p → f.sat Λ Q) : (Tree.br (decide p) t f).sat Λ Q := ⟨fun h => h1 (of_decide_eq_true h), fun h => h2 (of_decide_eq_false h)⟩
theorem sat_loops {Λ : Nat → LState → Tree → Prop} {Q : Exit → LState → Prop} {b : Bool} {k : Nat} {s1 s2 : LState} {L T : Tree} (h : T.sat Λ Q) (h1 : b = true → Λ k s1 L) (h2 : b = false → Λ k s2 L) : (Tree.br b (.loop k s1 L T) (.loop k s2 L T)).sat Λ Q := ⟨fun hb => ⟨h1 hb, h⟩, fun hb => ⟨h2 hb, h⟩⟩
theorem w118n : ∀ N (l : List Origin) (a m b : Nat), b - a ≤ N → a < m → m < b → b ≤ l.length → l.length ≤ 2 ^ 61 → WSpec prog 118 68 6 (l.map encO) [i64 a, i64 m, i64 b, fnV 48] (.tup []) ((symF ltO a m b l).map encO)
  | 0, l, a, m, b, h0, h1, h2, h3, hl => by omega
  | N + 1, l, a, m, b, h0, h1, h2, h3, hl => by
    have ih := w118n N
    obtain ⟨s, hs⟩ : ∃ s, s = symS ltO a m b l := ⟨_, rfl⟩
    have hb1 : (if (a + b) / 2 < m then (a + b) / 2 + m - b else a) ≤ s ∧ s ≤ (if (a + b) / 2 < m then (a + b) / 2 else m) := by
      rw [hs]; exact bs_bnd _ _ _ _ (by split <;> omega)
    have hm0 : IntKind.i64.wrap ((m : Int) - (a : Int)) = ((m - a : Nat) : Int) := i64_sub (by omega) (by omega)
    have hm1 : IntKind.i64.wrap ((b : Int) - (m : Int)) = ((b - m : Nat) : Int) := i64_sub (by omega) (by omega)
    have hmid := i64_half (i := a) (j := b) (by omega)
    have hn : IntKind.i64.wrap ((((a + b) / 2 : Nat) : Int) + (m : Int)) = (((a + b) / 2 + m : Nat) : Int) := i64_add (by omega)
    have hq : IntKind.i64.wrap ((((a + b) / 2 + m : Nat) : Int) - 1) = (((a + b) / 2 + m - 1 : Nat) : Int) := by rw [IntWalk.i64_in _ (by omega)]; omega
    have s1 : a ≤ s := by have := hb1.1; split at this <;> omega
    have s2 : s ≤ m := by have := hb1.2; split at this <;> omega
    have s3 : s ≤ (a + b) / 2 := by have := hb1.2; split at this <;> omega
    have e2 : (a + b) / 2 + m - s ≤ b := by have := hb1.1; split at this <;> omega
    have he : IntKind.i64.wrap ((((a + b) / 2 + m : Nat) : Int) - (s : Int)) = (((a + b) / 2 + m - s : Nat) : Int) := i64_sub (by omega) (by omega)
    refine WSpec.tree Proofs.Tryz.f118 (fun l0 => T118 l0 a m b (bs (fun h => ltO (l.getD h default) (l.getD a default)) (b - m) m b) (bs (fun h => !ltO (l.getD m default) (l.getD h default)) (m - a) a m) ((a + b) / 2 + m) ((a + b) / 2) s l
      (bubU a l (bs (fun h => ltO (l.getD h default) (l.getD a default)) (b - m) m b - 1 - a)) (bubD m l (m - bs (fun h => !ltO (l.getD m default) (l.getD h default)) (m - a) a m))) (by kernel_rfl) (by kernel_rfl) (by kernel_rfl) fun l0 => ?_
    rw [t118]
    have hfuel : b - a = (b - a - 1) + 1 := by omega
    refine ⟨fun g1 => ⟨?_, ?_, trivial, fun _ => lretW_ex ?_ (.refl _)⟩, fun g1 => ⟨fun g2 => ⟨?_, ?_, trivial, fun _ => lretW_ex ?_ (.refl _)⟩, fun g2 => ⟨by omega, fun _ => ?_⟩⟩⟩
    · exact lA118 l0 a m b (b - m) l (by omega) (by omega) h3 hl (Nat.le_refl _) _ ⟨⟨rfl, rfl, rfl, rfl, by simp [tl], trivial⟩, ⟨rfl, trivial⟩, rfl, rfl, rfl⟩
    · have hbb := bs_bnd (fun h => ltO (l.getD h default) (l.getD a default)) (b - m) m b (by omega)
      exact lB118 l0 a _ l (by omega) (by omega) hl _ ⟨⟨rfl, rfl, rfl, trivial⟩, ⟨rfl, trivial⟩, rfl, rfl, rfl⟩
    · have g1 : m - a = 1 := by rw [hm0] at g1; simp at g1; omega
      rw [symF, hfuel, sym, if_pos g1]
    · exact lC118 l0 m a m (m - a) l (by omega) (by omega) (by omega) hl (Nat.le_refl _) _ ⟨⟨rfl, rfl, rfl, rfl, by simp [tl], trivial⟩, ⟨rfl, trivial⟩, rfl, rfl, rfl⟩
    · have hbb := bs_bnd (fun h => !ltO (l.getD m default) (l.getD h default)) (m - a) a m (by omega)
      exact lD118 l0 m _ l (by omega) (by omega) hl _ ⟨⟨rfl, rfl, rfl, trivial⟩, ⟨rfl, trivial⟩, rfl, rfl, rfl⟩
    · have g1 : ¬ m - a = 1 := by rw [hm0] at g1; simp at g1; omega
      have g2 : b - m = 1 := by rw [hm1] at g2; simp at g2; omega
      rw [symF, hfuel, sym, if_neg g1, if_pos g2]
    · have g1 : ¬ m - a = 1 := by rw [hm0] at g1; simp at g1; omega
      have g2 : ¬ b - m = 1 := by rw [hm1] at g2; simp at g2; omega
      have hres : symF ltO a m b l = (if (a + b) / 2 < (a + b) / 2 + m - s ∧ (a + b) / 2 + m - s < b then symF ltO ((a + b) / 2) ((a + b) / 2 + m - s) b (if a < s ∧ s < (a + b) / 2 then symF ltO a s ((a + b) / 2) (symR m s ((a + b) / 2 + m - s) l) else symR m s ((a + b) / 2 + m - s) l) else (if a < s ∧ s < (a + b) / 2 then symF ltO a s ((a + b) / 2) (symR m s ((a + b) / 2 + m - s) l) else symR m s ((a + b) / 2 + m - s) l)) := by
        rw [symF, hfuel, sym, if_neg g1, if_neg g2]
        simp only [← hs]
        have k1 : ∀ x, (if a < s ∧ s < (a + b) / 2 then sym ltO (b - a - 1) a s ((a + b) / 2) x else x) = (if a < s ∧ s < (a + b) / 2 then symF ltO a s ((a + b) / 2) x else x) := fun x => by
          split
          · rename_i hc; exact symF_eq _ (by omega) hc.1 hc.2
          · rfl
        rw [k1]
        split
        · rename_i hc; exact symF_eq _ (by omega) hc.1 hc.2
        · rfl
      refine sat_loops ?_ ?_ ?_
      · simp only [he, Int.toNat_natCast, R118, symR]
        repeat' first
          | refine sat_brd (fun _ => ?_) (fun _ => ?_)
          | refine ⟨⟨?_, ILeL.refl _, ?_⟩, fun _ => ?_⟩
          | refine ⟨trivial, fun _ => lretW_ex ?_ (.refl _)⟩
          | fail
        all_goals try simp only [hres, R118, symR]
        all_goals repeat' split
        all_goals first
          | omega
          | rfl
          | exact w123 l s m _ (by omega) (by omega) (by omega) hl
          | exact List.length_map _
          | (rw [List.length_map, rot_length]; done)
          | (rw [List.length_map, symF_length _ (by omega) (by omega) (by omega)]; done)
          | (rw [List.length_map, symF_length _ (by omega) (by omega) (by rw [rot_length]; omega), rot_length]; done)
          | exact ih _ _ _ _ (by omega) (by omega) (by omega) (by omega) (by omega)
          | exact ih _ _ _ _ (by omega) (by omega) (by omega) (by rw [rot_length]; omega) (by rw [rot_length]; omega)
          | exact ih _ _ _ _ (by omega) (by omega) (by omega) (by rw [symF_length _ (by omega) (by omega) (by omega)]; omega) (by rw [symF_length _ (by omega) (by omega) (by omega)]; omega)
          | exact ih _ _ _ _ (by omega) (by omega) (by omega) (by rw [symF_length _ (by omega) (by omega) (by rw [rot_length]; omega), rot_length]; omega) (by rw [symF_length _ (by omega) (by omega) (by rw [rot_length]; omega), rot_length]; omega)
      · intro g3
        have g3 : (a + b) / 2 < m := by have g3 := of_decide_eq_true g3; rw [hmid] at g3; omega
        have hstart : IntKind.i64.wrap ((((a + b) / 2 + m : Nat) : Int) - (b : Int)) = (((a + b) / 2 + m - b : Nat) : Int) := i64_sub (by omega) (by omega)
        have hsd : s = bs (fun c => !ltO (l.getD ((a + b) / 2 + m - 1 - c) default) (l.getD c default)) (b - a) ((a + b) / 2 + m - b) ((a + b) / 2) := by rw [hs, symS, if_pos g3, if_pos g3]
        have := lE118 l0 a m b ((a + b) / 2 + m - 1) ((a + b) / 2 + m) ((a + b) / 2) ((a + b) / 2 + m - b) ((a + b) / 2) (b - a) l (by omega) (by omega) (by omega) (by omega) hl (by omega)
        rw [← hsd] at this
        refine this _ ?_
        simp only [hmid, hn, hq, hstart]
        exact ⟨⟨rfl, rfl, rfl, rfl, rfl, rfl, rfl, rfl, rfl, by simp [tl], trivial⟩, ⟨rfl, trivial⟩, rfl, rfl, rfl⟩
      · intro g3
        have g3 : ¬ (a + b) / 2 < m := by have g3 := of_decide_eq_false g3; rw [hmid] at g3; omega
        have hsd : s = bs (fun c => !ltO (l.getD ((a + b) / 2 + m - 1 - c) default) (l.getD c default)) (b - a) a m := by rw [hs, symS, if_neg g3, if_neg g3]
        have := lE118 l0 a m b ((a + b) / 2 + m - 1) ((a + b) / 2 + m) ((a + b) / 2) a m (b - a) l (by omega) (by omega) (by omega) (by omega) hl (by omega)
        rw [← hsd] at this
        refine this _ ?_
        simp only [hmid, hn, hq]
        exact ⟨⟨rfl, rfl, rfl, rfl, rfl, rfl, rfl, rfl, rfl, by simp [tl], trivial⟩, ⟨rfl, trivial⟩, rfl, rfl, rfl⟩
theorem w118 (l : List Origin) (a m b : Nat) (h1 : a < m) (h2 : m < b) (h3 : b ≤ l.length) (hl : l.length ≤ 2 ^ 61) : WSpec prog 118 68 6 (l.map encO) [i64 a, i64 m, i64 b, fnV 48] (.tup []) ((symF ltO a m b l).map encO) := w118n (b - a) l a m b (Nat.le_refl _) h1 h2 h3 hl
theorem w118' (l : List Origin) (a m b : Int) (h0 : 0 ≤ a) (h1 : a < m) (h2 : m < b) (h3 : b ≤ l.length) (hl : l.length ≤ 2 ^ 61) : WSpec prog 118 68 6 (l.map encO) [i64 a, i64 m, i64 b, fnV 48] (.tup []) ((symF ltO a.toNat m.toNat b.toNat l).map encO) := by
  obtain ⟨a, rfl⟩ := Int.eq_ofNat_of_zero_le h0
  obtain ⟨m, rfl⟩ := Int.eq_ofNat_of_zero_le (show 0 ≤ m by omega)
  obtain ⟨b, rfl⟩ := Int.eq_ofNat_of_zero_le (show 0 ≤ b by omega)
  exact w118 l a m b (by omega) (by omega) (by omega) hl
theorem w120n : ∀ N (l : List Attest) (a m b : Nat), b - a ≤ N → a < m → m < b → b ≤ l.length → l.length ≤ 2 ^ 61 → WSpec prog 120 57 2 (l.map encT) [i64 a, i64 m, i64 b, fnV 51] (.tup []) ((symF ltT a m b l).map encT)
  | 0, l, a, m, b, h0, h1, h2, h3, hl => by omega
  | N + 1, l, a, m, b, h0, h1, h2, h3, hl => by
    have ih := w120n N
    obtain ⟨s, hs⟩ : ∃ s, s = symS ltT a m b l := ⟨_, rfl⟩
    have hb1 : (if (a + b) / 2 < m then (a + b) / 2 + m - b else a) ≤ s ∧ s ≤ (if (a + b) / 2 < m then (a + b) / 2 else m) := by
      rw [hs]; exact bs_bnd _ _ _ _ (by split <;> omega)
    have hm0 : IntKind.i64.wrap ((m : Int) - (a : Int)) = ((m - a : Nat) : Int) := i64_sub (by omega) (by omega)
    have hm1 : IntKind.i64.wrap ((b : Int) - (m : Int)) = ((b - m : Nat) : Int) := i64_sub (by omega) (by omega)
    have hmid := i64_half (i := a) (j := b) (by omega)
    have hn : IntKind.i64.wrap ((((a + b) / 2 : Nat) : Int) + (m : Int)) = (((a + b) / 2 + m : Nat) : Int) := i64_add (by omega)
    have hq : IntKind.i64.wrap ((((a + b) / 2 + m : Nat) : Int) - 1) = (((a + b) / 2 + m - 1 : Nat) : Int) := by rw [IntWalk.i64_in _ (by omega)]; omega
    have s1 : a ≤ s := by have := hb1.1; split at this <;> omega
    have s2 : s ≤ m := by have := hb1.2; split at this <;> omega
    have s3 : s ≤ (a + b) / 2 := by have := hb1.2; split at this <;> omega
    have e2 : (a + b) / 2 + m - s ≤ b := by have := hb1.1; split at this <;> omega
    have he : IntKind.i64.wrap ((((a + b) / 2 + m : Nat) : Int) - (s : Int)) = (((a + b) / 2 + m - s : Nat) : Int) := i64_sub (by omega) (by omega)
    refine WSpec.tree Proofs.Tryz.f120 (fun l0 => T120 l0 a m b (bs (fun h => ltT (l.getD h default) (l.getD a default)) (b - m) m b) (bs (fun h => !ltT (l.getD m default) (l.getD h default)) (m - a) a m) ((a + b) / 2 + m) ((a + b) / 2) s l
      (bubU a l (bs (fun h => ltT (l.getD h default) (l.getD a default)) (b - m) m b - 1 - a)) (bubD m l (m - bs (fun h => !ltT (l.getD m default) (l.getD h default)) (m - a) a m))) (by kernel_rfl) (by kernel_rfl) (by kernel_rfl) fun l0 => ?_
    rw [t120]
    have hfuel : b - a = (b - a - 1) + 1 := by omega
    refine ⟨fun g1 => ⟨?_, ?_, trivial, fun _ => lretW_ex ?_ (.refl _)⟩, fun g1 => ⟨fun g2 => ⟨?_, ?_, trivial, fun _ => lretW_ex ?_ (.refl _)⟩, fun g2 => ⟨by omega, fun _ => ?_⟩⟩⟩
    · exact lA120 l0 a m b (b - m) l (by omega) (by omega) h3 hl (Nat.le_refl _) _ ⟨⟨rfl, rfl, rfl, rfl, by simp [tl], trivial⟩, ⟨rfl, trivial⟩, rfl, rfl, rfl⟩
    · have hbb := bs_bnd (fun h => ltT (l.getD h default) (l.getD a default)) (b - m) m b (by omega)
      exact lB120 l0 a _ l (by omega) (by omega) hl _ ⟨⟨rfl, rfl, rfl, trivial⟩, ⟨rfl, trivial⟩, rfl, rfl, rfl⟩
    · have g1 : m - a = 1 := by rw [hm0] at g1; simp at g1; omega
      rw [symF, hfuel, sym, if_pos g1]
    · exact lC120 l0 m a m (m - a) l (by omega) (by omega) (by omega) hl (Nat.le_refl _) _ ⟨⟨rfl, rfl, rfl, rfl, by simp [tl], trivial⟩, ⟨rfl, trivial⟩, rfl, rfl, rfl⟩
    · have hbb := bs_bnd (fun h => !ltT (l.getD m default) (l.getD h default)) (m - a) a m (by omega)
      exact lD120 l0 m _ l (by omega) (by omega) hl _ ⟨⟨rfl, rfl, rfl, trivial⟩, ⟨rfl, trivial⟩, rfl, rfl, rfl⟩
    · have g1 : ¬ m - a = 1 := by rw [hm0] at g1; simp at g1; omega
      have g2 : b - m = 1 := by rw [hm1] at g2; simp at g2; omega
      rw [symF, hfuel, sym, if_neg g1, if_pos g2]
    · have g1 : ¬ m - a = 1 := by rw [hm0] at g1; simp at g1; omega
      have g2 : ¬ b - m = 1 := by rw [hm1] at g2; simp at g2; omega
      have hres : symF ltT a m b l = (if (a + b) / 2 < (a + b) / 2 + m - s ∧ (a + b) / 2 + m - s < b then symF ltT ((a + b) / 2) ((a + b) / 2 + m - s) b (if a < s ∧ s < (a + b) / 2 then symF ltT a s ((a + b) / 2) (symR m s ((a + b) / 2 + m - s) l) else symR m s ((a + b) / 2 + m - s) l) else (if a < s ∧ s < (a + b) / 2 then symF ltT a s ((a + b) / 2) (symR m s ((a + b) / 2 + m - s) l) else symR m s ((a + b) / 2 + m - s) l)) := by
        rw [symF, hfuel, sym, if_neg g1, if_neg g2]
        simp only [← hs]
        have k1 : ∀ x, (if a < s ∧ s < (a + b) / 2 then sym ltT (b - a - 1) a s ((a + b) / 2) x else x) = (if a < s ∧ s < (a + b) / 2 then symF ltT a s ((a + b) / 2) x else x) := fun x => by
          split
          · rename_i hc; exact symF_eq _ (by omega) hc.1 hc.2
          · rfl
        rw [k1]
        split
        · rename_i hc; exact symF_eq _ (by omega) hc.1 hc.2
        · rfl
      refine sat_loops ?_ ?_ ?_
      · simp only [he, Int.toNat_natCast, R120, symR]
        repeat' first
          | refine sat_brd (fun _ => ?_) (fun _ => ?_)
          | refine ⟨⟨?_, ILeL.refl _, ?_⟩, fun _ => ?_⟩
          | refine ⟨trivial, fun _ => lretW_ex ?_ (.refl _)⟩
          | fail
        all_goals try simp only [hres, R120, symR]
        all_goals repeat' split
        all_goals first
          | omega
          | rfl
          | exact w124 l s m _ (by omega) (by omega) (by omega) hl
          | exact List.length_map _
          | (rw [List.length_map, rot_length]; done)
          | (rw [List.length_map, symF_length _ (by omega) (by omega) (by omega)]; done)
          | (rw [List.length_map, symF_length _ (by omega) (by omega) (by rw [rot_length]; omega), rot_length]; done)
          | exact ih _ _ _ _ (by omega) (by omega) (by omega) (by omega) (by omega)
          | exact ih _ _ _ _ (by omega) (by omega) (by omega) (by rw [rot_length]; omega) (by rw [rot_length]; omega)
          | exact ih _ _ _ _ (by omega) (by omega) (by omega) (by rw [symF_length _ (by omega) (by omega) (by omega)]; omega) (by rw [symF_length _ (by omega) (by omega) (by omega)]; omega)
          | exact ih _ _ _ _ (by omega) (by omega) (by omega) (by rw [symF_length _ (by omega) (by omega) (by rw [rot_length]; omega), rot_length]; omega) (by rw [symF_length _ (by omega) (by omega) (by rw [rot_length]; omega), rot_length]; omega)
      · intro g3
        have g3 : (a + b) / 2 < m := by have g3 := of_decide_eq_true g3; rw [hmid] at g3; omega
        have hstart : IntKind.i64.wrap ((((a + b) / 2 + m : Nat) : Int) - (b : Int)) = (((a + b) / 2 + m - b : Nat) : Int) := i64_sub (by omega) (by omega)
        have hsd : s = bs (fun c => !ltT (l.getD ((a + b) / 2 + m - 1 - c) default) (l.getD c default)) (b - a) ((a + b) / 2 + m - b) ((a + b) / 2) := by rw [hs, symS, if_pos g3, if_pos g3]
        have := lE120 l0 a m b ((a + b) / 2 + m - 1) ((a + b) / 2 + m) ((a + b) / 2) ((a + b) / 2 + m - b) ((a + b) / 2) (b - a) l (by omega) (by omega) (by omega) (by omega) hl (by omega)
        rw [← hsd] at this
        refine this _ ?_
        simp only [hmid, hn, hq, hstart]
        exact ⟨⟨rfl, rfl, rfl, rfl, rfl, rfl, rfl, rfl, rfl, by simp [tl], trivial⟩, ⟨rfl, trivial⟩, rfl, rfl, rfl⟩
      · intro g3
        have g3 : ¬ (a + b) / 2 < m := by have g3 := of_decide_eq_false g3; rw [hmid] at g3; omega
        have hsd : s = bs (fun c => !ltT (l.getD ((a + b) / 2 + m - 1 - c) default) (l.getD c default)) (b - a) a m := by rw [hs, symS, if_neg g3, if_neg g3]
        have := lE120 l0 a m b ((a + b) / 2 + m - 1) ((a + b) / 2 + m) ((a + b) / 2) a m (b - a) l (by omega) (by omega) (by omega) (by omega) hl (by omega)
        rw [← hsd] at this
        refine this _ ?_
        simp only [hmid, hn, hq]
        exact ⟨⟨rfl, rfl, rfl, rfl, rfl, rfl, rfl, rfl, rfl, by simp [tl], trivial⟩, ⟨rfl, trivial⟩, rfl, rfl, rfl⟩
theorem w120 (l : List Attest) (a m b : Nat) (h1 : a < m) (h2 : m < b) (h3 : b ≤ l.length) (hl : l.length ≤ 2 ^ 61) : WSpec prog 120 57 2 (l.map encT) [i64 a, i64 m, i64 b, fnV 51] (.tup []) ((symF ltT a m b l).map encT) := w120n (b - a) l a m b (Nat.le_refl _) h1 h2 h3 hl
theorem w120' (l : List Attest) (a m b : Int) (h0 : 0 ≤ a) (h1 : a < m) (h2 : m < b) (h3 : b ≤ l.length) (hl : l.length ≤ 2 ^ 61) : WSpec prog 120 57 2 (l.map encT) [i64 a, i64 m, i64 b, fnV 51] (.tup []) ((symF ltT a.toNat m.toNat b.toNat l).map encT) := by
  obtain ⟨a, rfl⟩ := Int.eq_ofNat_of_zero_le h0
  obtain ⟨m, rfl⟩ := Int.eq_ofNat_of_zero_le (show 0 ≤ m by omega)
  obtain ⟨b, rfl⟩ := Int.eq_ofNat_of_zero_le (show 0 ≤ b by omega)
  exact w120 l a m b (by omega) (by omega) (by omega) hl
theorem w122n : ∀ N (l : List RKey) (a m b : Nat), b - a ≤ N → a < m → m < b → b ≤ l.length → l.length ≤ 2 ^ 61 → WSpec prog 122 75 18 (l.map encK) [i64 a, i64 m, i64 b, fnV 54] (.tup []) ((symF ltK a m b l).map encK)
  | 0, l, a, m, b, h0, h1, h2, h3, hl => by omega
  | N + 1, l, a, m, b, h0, h1, h2, h3, hl => by
    have ih := w122n N
    obtain ⟨s, hs⟩ : ∃ s, s = symS ltK a m b l := ⟨_, rfl⟩
    have hb1 : (if (a + b) / 2 < m then (a + b) / 2 + m - b else a) ≤ s ∧ s ≤ (if (a + b) / 2 < m then (a + b) / 2 else m) := by
      rw [hs]; exact bs_bnd _ _ _ _ (by split <;> omega)
    have hm0 : IntKind.i64.wrap ((m : Int) - (a : Int)) = ((m - a : Nat) : Int) := i64_sub (by omega) (by omega)
    have hm1 : IntKind.i64.wrap ((b : Int) - (m : Int)) = ((b - m : Nat) : Int) := i64_sub (by omega) (by omega)
    have hmid := i64_half (i := a) (j := b) (by omega)
    have hn : IntKind.i64.wrap ((((a + b) / 2 : Nat) : Int) + (m : Int)) = (((a + b) / 2 + m : Nat) : Int) := i64_add (by omega)
    have hq : IntKind.i64.wrap ((((a + b) / 2 + m : Nat) : Int) - 1) = (((a + b) / 2 + m - 1 : Nat) : Int) := by rw [IntWalk.i64_in _ (by omega)]; omega
    have s1 : a ≤ s := by have := hb1.1; split at this <;> omega
    have s2 : s ≤ m := by have := hb1.2; split at this <;> omega
    have s3 : s ≤ (a + b) / 2 := by have := hb1.2; split at this <;> omega
    have e2 : (a + b) / 2 + m - s ≤ b := by have := hb1.1; split at this <;> omega
    have he : IntKind.i64.wrap ((((a + b) / 2 + m : Nat) : Int) - (s : Int)) = (((a + b) / 2 + m - s : Nat) : Int) := i64_sub (by omega) (by omega)
    refine WSpec.tree Proofs.Tryz.f122 (fun l0 => T122 l0 a m b (bs (fun h => ltK (l.getD h default) (l.getD a default)) (b - m) m b) (bs (fun h => !ltK (l.getD m default) (l.getD h default)) (m - a) a m) ((a + b) / 2 + m) ((a + b) / 2) s l
      (bubU a l (bs (fun h => ltK (l.getD h default) (l.getD a default)) (b - m) m b - 1 - a)) (bubD m l (m - bs (fun h => !ltK (l.getD m default) (l.getD h default)) (m - a) a m))) (by kernel_rfl) (by kernel_rfl) (by kernel_rfl) fun l0 => ?_
    rw [t122]
    have hfuel : b - a = (b - a - 1) + 1 := by omega
    refine ⟨fun g1 => ⟨?_, ?_, trivial, fun _ => lretW_ex ?_ (.refl _)⟩, fun g1 => ⟨fun g2 => ⟨?_, ?_, trivial, fun _ => lretW_ex ?_ (.refl _)⟩, fun g2 => ⟨by omega, fun _ => ?_⟩⟩⟩
    · exact lA122 l0 a m b (b - m) l (by omega) (by omega) h3 hl (Nat.le_refl _) _ ⟨⟨rfl, rfl, rfl, rfl, by simp [tl], trivial⟩, ⟨rfl, trivial⟩, rfl, rfl, rfl⟩
    · have hbb := bs_bnd (fun h => ltK (l.getD h default) (l.getD a default)) (b - m) m b (by omega)
      exact lB122 l0 a _ l (by omega) (by omega) hl _ ⟨⟨rfl, rfl, rfl, trivial⟩, ⟨rfl, trivial⟩, rfl, rfl, rfl⟩
    · have g1 : m - a = 1 := by rw [hm0] at g1; simp at g1; omega
      rw [symF, hfuel, sym, if_pos g1]
    · exact lC122 l0 m a m (m - a) l (by omega) (by omega) (by omega) hl (Nat.le_refl _) _ ⟨⟨rfl, rfl, rfl, rfl, by simp [tl], trivial⟩, ⟨rfl, trivial⟩, rfl, rfl, rfl⟩
    · have hbb := bs_bnd (fun h => !ltK (l.getD m default) (l.getD h default)) (m - a) a m (by omega)
      exact lD122 l0 m _ l (by omega) (by omega) hl _ ⟨⟨rfl, rfl, rfl, trivial⟩, ⟨rfl, trivial⟩, rfl, rfl, rfl⟩
    · have g1 : ¬ m - a = 1 := by rw [hm0] at g1; simp at g1; omega
      have g2 : b - m = 1 := by rw [hm1] at g2; simp at g2; omega
      rw [symF, hfuel, sym, if_neg g1, if_pos g2]
    · have g1 : ¬ m - a = 1 := by rw [hm0] at g1; simp at g1; omega
      have g2 : ¬ b - m = 1 := by rw [hm1] at g2; simp at g2; omega
      have hres : symF ltK a m b l = (if (a + b) / 2 < (a + b) / 2 + m - s ∧ (a + b) / 2 + m - s < b then symF ltK ((a + b) / 2) ((a + b) / 2 + m - s) b (if a < s ∧ s < (a + b) / 2 then symF ltK a s ((a + b) / 2) (symR m s ((a + b) / 2 + m - s) l) else symR m s ((a + b) / 2 + m - s) l) else (if a < s ∧ s < (a + b) / 2 then symF ltK a s ((a + b) / 2) (symR m s ((a + b) / 2 + m - s) l) else symR m s ((a + b) / 2 + m - s) l)) := by
        rw [symF, hfuel, sym, if_neg g1, if_neg g2]
        simp only [← hs]
        have k1 : ∀ x, (if a < s ∧ s < (a + b) / 2 then sym ltK (b - a - 1) a s ((a + b) / 2) x else x) = (if a < s ∧ s < (a + b) / 2 then symF ltK a s ((a + b) / 2) x else x) := fun x => by
          split
          · rename_i hc; exact symF_eq _ (by omega) hc.1 hc.2
          · rfl
        rw [k1]
        split
        · rename_i hc; exact symF_eq _ (by omega) hc.1 hc.2
        · rfl
      refine sat_loops ?_ ?_ ?_
      · simp only [he, Int.toNat_natCast, R122, symR]
        repeat' first
          | refine sat_brd (fun _ => ?_) (fun _ => ?_)
          | refine ⟨⟨?_, ILeL.refl _, ?_⟩, fun _ => ?_⟩
          | refine ⟨trivial, fun _ => lretW_ex ?_ (.refl _)⟩
          | fail
        all_goals try simp only [hres, R122, symR]
        all_goals repeat' split
        all_goals first
          | omega
          | rfl
          | exact w125 l s m _ (by omega) (by omega) (by omega) hl
          | exact List.length_map _
          | (rw [List.length_map, rot_length]; done)
          | (rw [List.length_map, symF_length _ (by omega) (by omega) (by omega)]; done)
          | (rw [List.length_map, symF_length _ (by omega) (by omega) (by rw [rot_length]; omega), rot_length]; done)
          | exact ih _ _ _ _ (by omega) (by omega) (by omega) (by omega) (by omega)
          | exact ih _ _ _ _ (by omega) (by omega) (by omega) (by rw [rot_length]; omega) (by rw [rot_length]; omega)
          | exact ih _ _ _ _ (by omega) (by omega) (by omega) (by rw [symF_length _ (by omega) (by omega) (by omega)]; omega) (by rw [symF_length _ (by omega) (by omega) (by omega)]; omega)
          | exact ih _ _ _ _ (by omega) (by omega) (by omega) (by rw [symF_length _ (by omega) (by omega) (by rw [rot_length]; omega), rot_length]; omega) (by rw [symF_length _ (by omega) (by omega) (by rw [rot_length]; omega), rot_length]; omega)
      · intro g3
        have g3 : (a + b) / 2 < m := by have g3 := of_decide_eq_true g3; rw [hmid] at g3; omega
        have hstart : IntKind.i64.wrap ((((a + b) / 2 + m : Nat) : Int) - (b : Int)) = (((a + b) / 2 + m - b : Nat) : Int) := i64_sub (by omega) (by omega)
        have hsd : s = bs (fun c => !ltK (l.getD ((a + b) / 2 + m - 1 - c) default) (l.getD c default)) (b - a) ((a + b) / 2 + m - b) ((a + b) / 2) := by rw [hs, symS, if_pos g3, if_pos g3]
        have := lE122 l0 a m b ((a + b) / 2 + m - 1) ((a + b) / 2 + m) ((a + b) / 2) ((a + b) / 2 + m - b) ((a + b) / 2) (b - a) l (by omega) (by omega) (by omega) (by omega) hl (by omega)
        rw [← hsd] at this
        refine this _ ?_
        simp only [hmid, hn, hq, hstart]
        exact ⟨⟨rfl, rfl, rfl, rfl, rfl, rfl, rfl, rfl, rfl, by simp [tl], trivial⟩, ⟨rfl, trivial⟩, rfl, rfl, rfl⟩
      · intro g3
        have g3 : ¬ (a + b) / 2 < m := by have g3 := of_decide_eq_false g3; rw [hmid] at g3; omega
        have hsd : s = bs (fun c => !ltK (l.getD ((a + b) / 2 + m - 1 - c) default) (l.getD c default)) (b - a) a m := by rw [hs, symS, if_neg g3, if_neg g3]
        have := lE122 l0 a m b ((a + b) / 2 + m - 1) ((a + b) / 2 + m) ((a + b) / 2) a m (b - a) l (by omega) (by omega) (by omega) (by omega) hl (by omega)
        rw [← hsd] at this
        refine this _ ?_
        simp only [hmid, hn, hq]
        exact ⟨⟨rfl, rfl, rfl, rfl, rfl, rfl, rfl, rfl, rfl, by simp [tl], trivial⟩, ⟨rfl, trivial⟩, rfl, rfl, rfl⟩
theorem w122 (l : List RKey) (a m b : Nat) (h1 : a < m) (h2 : m < b) (h3 : b ≤ l.length) (hl : l.length ≤ 2 ^ 61) : WSpec prog 122 75 18 (l.map encK) [i64 a, i64 m, i64 b, fnV 54] (.tup []) ((symF ltK a m b l).map encK) := w122n (b - a) l a m b (Nat.le_refl _) h1 h2 h3 hl
theorem w122' (l : List RKey) (a m b : Int) (h0 : 0 ≤ a) (h1 : a < m) (h2 : m < b) (h3 : b ≤ l.length) (hl : l.length ≤ 2 ^ 61) : WSpec prog 122 75 18 (l.map encK) [i64 a, i64 m, i64 b, fnV 54] (.tup []) ((symF ltK a.toNat m.toNat b.toNat l).map encK) := by
  obtain ⟨a, rfl⟩ := Int.eq_ofNat_of_zero_le h0
  obtain ⟨m, rfl⟩ := Int.eq_ofNat_of_zero_le (show 0 ≤ m by omega)
  obtain ⟨b, rfl⟩ := Int.eq_ofNat_of_zero_le (show 0 ≤ b by omega)
  exact w122 l a m b (by omega) (by omega) (by omega) hl
end Gp
namespace Gp
def IA109 (l0 : Abs.Loc) (n a : Nat) (x : List Origin) : LState := { t := [(8, .imm (i64 (a + 20 : Nat))), (7, .imm (i64 a)), (6, .imm (i64 20)), (2, .imm (fnV 48)), (1, .imm (i64 n)), (0, .own 0 x.length)], s := [(0, .brow l0 68 6 (x.map encO))], m := 63, n := 1 }
def EA109 (l0 : Abs.Loc) (n : Nat) (r : Nat × List Origin) : LState := { t := [(7, .imm (i64 r.1)), (6, .imm (i64 20)), (2, .imm (fnV 48)), (1, .imm (i64 n)), (0, .own 0 r.2.length)], s := [(0, .brow l0 68 6 (r.2.map encO))], m := 63, n := 1 }
def finA109 : Exit → Fin
  | .normal => ⟨[], [8, 7, 6, 2, 1, 0], [0]⟩
  | _ => ⟨[], [7, 6, 2, 1, 0], [0]⟩
def TA109r (l0 : Abs.Loc) (n a : Nat) (x : List Origin) : Tell :=
  Tell.mk (fun x x_1 => false) (fun x x_1 => Orc.no) (fun x => Tree.fail 1000003 0) (fun x => 0) (fun x => ([], []))
  (oget [(4, 3, 4, Orc.callw [i64 (↑a : Int), i64 (↑(a + 20) : Int), fnV 48] (IVal.tup []) (List.map encO (ins ltO a (a + 20) x)))]) fun x x_1 => Tree.fail 1000003 0
theorem tA109r (l0 : Abs.Loc) (n a : Nat) (x : List Origin) : levL prog Proofs.Tryz.f109 2 (IA109 l0 n a x) (TA109r l0 n a x) finA109 =
  Tree.br (decide ((↑(a + 20) : Int) ≤ (↑n : Int)))
  (Tree.need
  (List.length (List.map encO x) = List.length x ∧
  ILeL [i64 (↑a : Int), i64 (↑(a + 20) : Int), fnV 48] [i64 (↑a : Int), i64 (↑(a + 20) : Int), fnV 48] ∧
  WSpec prog 117 68 6 (List.map encO x) [i64 (↑a : Int), i64 (↑(a + 20) : Int), fnV 48] (IVal.tup []) (List.map encO (ins ltO a (a + 20) x)))
  (Tree.done Exit.normal
  (LState.mk
  [(8, AVal.imm (IVal.v (Value.int IntKind.i64 (IntKind.wrap IntKind.i64 ((↑(a + 20) : Int) + (20 : Int)))))), (7, AVal.imm (i64 (↑(a + 20) : Int))), (6, AVal.imm (i64 (20 : Int))),
  (2, AVal.imm (fnV 48)), (1, AVal.imm (i64 (↑n : Int))), (0, AVal.own 0 (List.length x))]
  [(0, Entry.brow l0 68 6 (List.map encO (ins ltO a (a + 20) x)))] 63 15 [])))
  (Tree.done (Exit.exit 0)
  (LState.mk [(7, AVal.imm (i64 (↑a : Int))), (6, AVal.imm (i64 (20 : Int))), (2, AVal.imm (fnV 48)), (1, AVal.imm (i64 (↑n : Int))), (0, AVal.own 0 (List.length x))]
  [(0, Entry.brow l0 68 6 (List.map encO x))] 63 4 [])) := by kernel_rfl
def IB109 (l0 : Abs.Loc) (n s a : Nat) (x : List Origin) : LState := { t := [(8, .imm (i64 (a + 2 * s : Nat))), (7, .imm (i64 a)), (6, .imm (i64 s)), (2, .imm (fnV 48)), (1, .imm (i64 n)), (0, .own 0 x.length)], s := [(0, .brow l0 68 6 (x.map encO))], m := 63, n := 1 }
def EB109 (l0 : Abs.Loc) (n s : Nat) (r : Nat × List Origin) : LState := { t := [(7, .imm (i64 r.1)), (6, .imm (i64 s)), (2, .imm (fnV 48)), (1, .imm (i64 n)), (0, .own 0 r.2.length)], s := [(0, .brow l0 68 6 (r.2.map encO))], m := 63, n := 1 }
def TB109r (l0 : Abs.Loc) (n s a : Nat) (x : List Origin) : Tell :=
  Tell.mk (fun x x_1 => false) (fun x x_1 => Orc.no) (fun x => Tree.fail 1000003 0) (fun x => 0) (fun x => ([], []))
  (oget
  [(4, 10, 7,
  Orc.callw [i64 (↑a : Int), i64 (IntKind.wrap IntKind.i64 ((↑a : Int) + (↑s : Int))), i64 (↑(a + 2 * s) : Int), fnV 48] (IVal.tup [])
  (List.map encO (symF ltO (Int.toNat (↑a : Int)) (Int.toNat (IntKind.wrap IntKind.i64 ((↑a : Int) + (↑s : Int)))) (Int.toNat (↑(a + 2 * s) : Int)) x)))])
  fun x x_1 => Tree.fail 1000003 0
theorem tB109r (l0 : Abs.Loc) (n s a : Nat) (x : List Origin) : levL prog Proofs.Tryz.f109 9 (IB109 l0 n s a x) (TB109r l0 n s a x) finA109 =
  Tree.br (decide ((↑(a + 2 * s) : Int) ≤ (↑n : Int)))
  (Tree.need
  (List.length (List.map encO x) = List.length x ∧
  ILeL [i64 (↑a : Int), IVal.v (Value.int IntKind.i64 (IntKind.wrap IntKind.i64 ((↑a : Int) + (↑s : Int)))), i64 (↑(a + 2 * s) : Int), fnV 48]
  [i64 (↑a : Int), i64 (IntKind.wrap IntKind.i64 ((↑a : Int) + (↑s : Int))), i64 (↑(a + 2 * s) : Int), fnV 48] ∧
  WSpec prog 118 68 6 (List.map encO x) [i64 (↑a : Int), i64 (IntKind.wrap IntKind.i64 ((↑a : Int) + (↑s : Int))), i64 (↑(a + 2 * s) : Int), fnV 48] (IVal.tup [])
  (List.map encO (symF ltO a (Int.toNat (IntKind.wrap IntKind.i64 ((↑a : Int) + (↑s : Int)))) (a + 2 * s) x)))
  (Tree.done Exit.normal
  (LState.mk
  [(8, AVal.imm (IVal.v (Value.int IntKind.i64 (IntKind.wrap IntKind.i64 ((↑(a + 2 * s) : Int) + IntKind.wrap IntKind.i64 ((2 : Int) * (↑s : Int))))))), (7, AVal.imm (i64 (↑(a + 2 * s) : Int))),
  (6, AVal.imm (i64 (↑s : Int))), (2, AVal.imm (fnV 48)), (1, AVal.imm (i64 (↑n : Int))), (0, AVal.own 0 (List.length x))]
  [(0, Entry.brow l0 68 6 (List.map encO (symF ltO a (Int.toNat (IntKind.wrap IntKind.i64 ((↑a : Int) + (↑s : Int)))) (a + 2 * s) x)))] 63 19 [])))
  (Tree.done (Exit.exit 4)
  (LState.mk [(7, AVal.imm (i64 (↑a : Int))), (6, AVal.imm (i64 (↑s : Int))), (2, AVal.imm (fnV 48)), (1, AVal.imm (i64 (↑n : Int))), (0, AVal.own 0 (List.length x))]
  [(0, Entry.brow l0 68 6 (List.map encO x))] 63 4 [])) := by kernel_rfl
def IC109 (l0 : Abs.Loc) (n s : Nat) (x : List Origin) : LState := { t := [(6, .imm (i64 s)), (2, .imm (fnV 48)), (1, .imm (i64 n)), (0, .own 0 x.length)], s := [(0, .brow l0 68 6 (x.map encO))], m := 63, n := 1 }
def EC109 (l0 : Abs.Loc) (x : List Origin) : LState := { t := [], s := [(0, .brow l0 68 6 (x.map encO))], m := 63, n := 1 }
def finC109 : Exit → Fin
  | .normal => ⟨[], [6, 2, 1, 0], [0]⟩
  | _ => ⟨[], [], [0]⟩
def TC109r (l0 : Abs.Loc) (n s : Nat) (x : List Origin) (r : Nat × List Origin) : Tell :=
  Tell.mk (fun x x_1 => false) (fun x x_1 => Orc.no) (fun x => Tree.done (Exit.exit 4) (EB109 l0 n s r)) (fun x => 0) (fun x => ([8, 7, 6, 2, 1, 0], [0]))
  (oget
  [(8, 15, 5,
  Orc.callw [i64 (↑r.fst : Int), i64 (IntKind.wrap IntKind.i64 ((↑r.fst : Int) + (↑s : Int))), i64 (↑n : Int), fnV 48] (IVal.tup [])
  (List.map encO (symF ltO (Int.toNat (↑r.fst : Int)) (Int.toNat (IntKind.wrap IntKind.i64 ((↑r.fst : Int) + (↑s : Int)))) (Int.toNat (↑n : Int)) r.snd)))])
  fun x x_1 => Tree.done (Exit.exit 4) (EB109 l0 n s r)
theorem tC109r (l0 : Abs.Loc) (n s : Nat) (x : List Origin) (r : Nat × List Origin) : levL prog Proofs.Tryz.f109 7 (IC109 l0 n s x) (TC109r l0 n s x r) finC109 =
  Tree.br (decide ((↑s : Int) < (↑n : Int)))
  (Tree.loop 9
  (LState.mk
  [(8, AVal.imm (IVal.v (Value.int IntKind.i64 (IntKind.wrap IntKind.i64 ((2 : Int) * (↑s : Int)))))), (7, AVal.imm (IVal.v (Value.int IntKind.i64 (0 : Int)))), (6, AVal.imm (i64 (↑s : Int))),
  (2, AVal.imm (fnV 48)), (1, AVal.imm (i64 (↑n : Int))), (0, AVal.own 0 (List.length x))]
  [(0, Entry.brow l0 68 6 (List.map encO x))] 63 8 [])
  (Tree.done (Exit.exit 4) (EB109 l0 n s r))
  (Tree.br (decide (IntKind.wrap IntKind.i64 ((↑r.fst : Int) + (↑s : Int)) < (↑n : Int)))
  (Tree.need
  (List.length (List.map encO r.snd) = List.length r.snd ∧
  ILeL [i64 (↑r.fst : Int), IVal.v (Value.int IntKind.i64 (IntKind.wrap IntKind.i64 ((↑r.fst : Int) + (↑s : Int)))), i64 (↑n : Int), fnV 48]
  [i64 (↑r.fst : Int), i64 (IntKind.wrap IntKind.i64 ((↑r.fst : Int) + (↑s : Int))), i64 (↑n : Int), fnV 48] ∧
  WSpec prog 118 68 6 (List.map encO r.snd) [i64 (↑r.fst : Int), i64 (IntKind.wrap IntKind.i64 ((↑r.fst : Int) + (↑s : Int))), i64 (↑n : Int), fnV 48] (IVal.tup [])
  (List.map encO (symF ltO r.fst (Int.toNat (IntKind.wrap IntKind.i64 ((↑r.fst : Int) + (↑s : Int)))) n r.snd)))
  (Tree.done Exit.normal
  (LState.mk
  [(6, AVal.imm (IVal.v (Value.int IntKind.i64 (IntKind.wrap IntKind.i64 ((↑s : Int) * (2 : Int)))))), (2, AVal.imm (fnV 48)), (1, AVal.imm (i64 (↑n : Int))),
  (0, AVal.own 0 (List.length r.snd))]
  [(0, Entry.brow l0 68 6 (List.map encO (symF ltO r.fst (Int.toNat (IntKind.wrap IntKind.i64 ((↑r.fst : Int) + (↑s : Int)))) n r.snd)))] 63 17 [])))
  (Tree.done Exit.normal
  (LState.mk
  [(6, AVal.imm (IVal.v (Value.int IntKind.i64 (IntKind.wrap IntKind.i64 ((↑s : Int) * (2 : Int)))))), (2, AVal.imm (fnV 48)), (1, AVal.imm (i64 (↑n : Int))),
  (0, AVal.own 0 (List.length r.snd))]
  [(0, Entry.brow l0 68 6 (List.map encO r.snd))] 63 11 []))))
  (Tree.done (Exit.exit 2) (LState.mk [] [(0, Entry.brow l0 68 6 (List.map encO x))] 63 4 [])) := by kernel_rfl
def T109 (l0 : Abs.Loc) (n : Nat) (l : List Origin) (r : Nat × List Origin) (y : List Origin) : Tell :=
  Tell.mk (fun x x_1 => false) (fun x x_1 => Orc.no)
  (fun k =>
  match k with
  | 2 => Tree.done (Exit.exit 0) (EA109 l0 n r)
  | x => Tree.done (Exit.exit 2) (EC109 l0 y))
  (fun x => 0)
  (fun k =>
  match k with
  | 2 => ([8, 7, 6, 2, 1, 0], [0])
  | x => ([6, 2, 1, 0], [0]))
  (oget [(1, 6, 4, Orc.callw [i64 (↑r.fst : Int), i64 (↑n : Int), fnV 48] (IVal.tup []) (List.map encO (ins ltO r.fst n r.snd)))]) fun x k =>
  match k with
  | 2 => Tree.done (Exit.exit 0) (EA109 l0 n r)
  | x => Tree.done (Exit.exit 2) (EC109 l0 y)
theorem t109 (l0 : Abs.Loc) (n : Nat) (l : List Origin) (r : Nat × List Origin) (y : List Origin) : levW prog Proofs.Tryz.f109 l0 68 6 (l.map encO) [i64 n, fnV 48] (T109 l0 n l r y) =
  Tree.loop 2
  (LState.mk
  [(8, AVal.imm (IVal.v (Value.int IntKind.i64 (20 : Int)))), (7, AVal.imm (IVal.v (Value.int IntKind.i64 (0 : Int)))), (6, AVal.imm (IVal.v (Value.int IntKind.i64 (20 : Int)))),
  (2, AVal.imm (fnV 48)), (1, AVal.imm (i64 (↑n : Int))), (0, AVal.own 0 (List.length (List.map encO l)))]
  [(0, Entry.brow l0 68 6 (List.map encO l))] 63 5 [])
  (Tree.done (Exit.exit 0) (EA109 l0 n r))
  (Tree.need
  (List.length (List.map encO r.snd) = List.length r.snd ∧
  ILeL [i64 (↑r.fst : Int), i64 (↑n : Int), fnV 48] [i64 (↑r.fst : Int), i64 (↑n : Int), fnV 48] ∧
  WSpec prog 117 68 6 (List.map encO r.snd) [i64 (↑r.fst : Int), i64 (↑n : Int), fnV 48] (IVal.tup []) (List.map encO (ins ltO r.fst n r.snd)))
  (Tree.loop 7
  (LState.mk [(6, AVal.imm (i64 (20 : Int))), (2, AVal.imm (fnV 48)), (1, AVal.imm (i64 (↑n : Int))), (0, AVal.own 0 (List.length r.snd))]
  [(0, Entry.brow l0 68 6 (List.map encO (ins ltO r.fst n r.snd)))] 63 6 [])
  (Tree.done (Exit.exit 2) (EC109 l0 y)) (Tree.need (eqs []) (Tree.done Exit.ret (lretW l0 68 6 (IVal.tup []) (List.map encO y)))))) := by kernel_rfl
theorem lA109 (l0 : Abs.Loc) (n f : Nat) (l : List Origin) (hf : n < f) (hn : n ≤ l.length) (hl : l.length ≤ 2 ^ 60) (σ : LState) (h : LSub σ (IA109 l0 n 0 l)) : LoopOk prog [] (bodyOf Proofs.Tryz.f109) 2 σ (.done (.exit 0) (EA109 l0 n (blkE ltO n f 0 l))) := by
  refine LoopOk.of_levL (γ := { g : Nat × Nat × List Origin // g.1 ≤ n ∧ n < g.1 + g.2.1 ∧ g.2.2.length = l.length ∧ blkE ltO n g.2.1 g.1 g.2.2 = blkE ltO n f 0 l })
    (fun g => TA109r l0 n g.1.1 g.1.2.2) finA109 (fun g => IA109 l0 n g.1.1 g.1.2.2) (fun g => n - g.1.1) ⟨(0, f, l), by simp, by simpa using hf, rfl, rfl⟩ (by kernel_rfl) h ?_
  rintro ⟨⟨a, f', x⟩, q1, q2, q3, q4⟩
  simp only at q1 q2 q3 q4
  simp only []
  rw [tA109r]
  cases f' with
  | zero => omega
  | succ f' =>
    rw [blkE] at q4
    refine ⟨fun h1 => need_sat ⟨(by simp), ILeL.refl _, w117 _ _ _ ?_ ?_ ?_⟩ ?_, fun h1 => ?_⟩
    · simp at h1; omega
    · omega
    · omega
    · have hc : a + 20 ≤ n := by simp at h1; omega
      rw [if_pos hc] at q4
      have hlen := ins_length ltO a (a + 20) x (by omega)
      have e5 : IntKind.i64.wrap (((a + 20 : Nat) : Int) + 20) = ((a + 20 + 20 : Nat) : Int) := by rw [IntWalk.i64_in _ (by omega)]; omega
      exact ⟨⟨(a + 20, f', ins ltO a (a + 20) x), hc, by simp only; omega, by simp only; omega, q4⟩, by simp only; omega, ⟨congrArg (fun n => AVal.imm (i64 n)) e5, rfl, rfl, rfl, rfl, congrArg (AVal.own 0) hlen.symm, trivial⟩, ⟨rfl, trivial⟩, rfl, rfl, rfl⟩
    · have hc : ¬ a + 20 ≤ n := by simp at h1; omega
      rw [if_neg hc] at q4
      rw [← q4]
      exact ⟨rfl, ⟨rfl, rfl, rfl, rfl, rfl, trivial⟩, ⟨rfl, trivial⟩, rfl, rfl, rfl⟩
theorem lB109 (l0 : Abs.Loc) (n s f : Nat) (l : List Origin) (hs : 0 < s) (hsn : s < n) (hf : n < f) (hn : n ≤ l.length) (hl : l.length ≤ 2 ^ 60) (σ : LState) (h : LSub σ (IB109 l0 n s 0 l)) : LoopOk prog [] (bodyOf Proofs.Tryz.f109) 9 σ (.done (.exit 4) (EB109 l0 n s (mrgE ltO n s f 0 l))) := by
  refine LoopOk.of_levL (γ := { g : Nat × Nat × List Origin // g.1 ≤ n ∧ n < g.1 + g.2.1 ∧ g.2.2.length = l.length ∧ mrgE ltO n s g.2.1 g.1 g.2.2 = mrgE ltO n s f 0 l })
    (fun g => TB109r l0 n s g.1.1 g.1.2.2) finA109 (fun g => IB109 l0 n s g.1.1 g.1.2.2) (fun g => n - g.1.1) ⟨(0, f, l), by simp, by simpa using hf, rfl, rfl⟩ (by kernel_rfl) h ?_
  rintro ⟨⟨a, f', x⟩, q1, q2, q3, q4⟩
  simp only at q1 q2 q3 q4
  simp only []
  have e1 : IntKind.i64.wrap ((a : Int) + (s : Int)) = ((a + s : Nat) : Int) := i64_add (by omega)
  have e2 : IntKind.i64.wrap ((2 : Int) * (s : Int)) = ((2 * s : Nat) : Int) := by rw [IntWalk.i64_in _ (by omega)]; omega
  rw [tB109r]
  cases f' with
  | zero => omega
  | succ f' =>
    rw [mrgE] at q4
    refine ⟨fun h1 => need_sat ⟨(by simp), ILeL.refl _, w118' _ _ _ _ ?_ ?_ ?_ ?_ ?_⟩ ?_, fun h1 => ?_⟩
    · omega
    · rw [e1]; omega
    · rw [e1]; omega
    · simp at h1; omega
    · omega
    · have hc : a + 2 * s ≤ n := by simp at h1; omega
      rw [if_pos hc] at q4
      have hlen := symF_length ltO (l := x) (show a < a + s by omega) (show a + s < a + 2 * s by omega) (by omega)
      simp only [e1, e2, Int.toNat_natCast]
      refine ⟨⟨(a + 2 * s, f', symF ltO a (a + s) (a + 2 * s) x), hc, by simp only; omega, by simp only; omega, q4⟩, by simp only; omega, ⟨?_, rfl, rfl, rfl, rfl, congrArg (AVal.own 0) hlen.symm, trivial⟩, ⟨rfl, trivial⟩, rfl, rfl, rfl⟩
      exact congrArg (fun n => AVal.imm (i64 n)) (i64_add (by omega))
    · have hc : ¬ a + 2 * s ≤ n := by simp at h1; omega
      rw [if_neg hc] at q4
      rw [← q4]
      exact ⟨rfl, ⟨rfl, rfl, rfl, rfl, rfl, trivial⟩, ⟨rfl, trivial⟩, rfl, rfl, rfl⟩
theorem lC109 (l0 : Abs.Loc) (n s f : Nat) (l : List Origin) (hs : 0 < s) (hs2 : s ≤ 2 ^ 60) (hf : n < s + f) (hn : n = l.length) (hl : l.length ≤ 2 ^ 59) (σ : LState) (h : LSub σ (IC109 l0 n s l)) : LoopOk prog [] (bodyOf Proofs.Tryz.f109) 7 σ (.done (.exit 2) (EC109 l0 (mrgs ltO n f s l))) := by
  refine LoopOk.of_levL (γ := { g : Nat × Nat × List Origin // 0 < g.1 ∧ g.1 ≤ 2 ^ 60 ∧ n < g.1 + g.2.1 ∧ g.2.2.length = l.length ∧ mrgs ltO n g.2.1 g.1 g.2.2 = mrgs ltO n f s l })
    (fun g => TC109r l0 n g.1.1 g.1.2.2 (mrgE ltO n g.1.1 (n + 1) 0 g.1.2.2)) finC109 (fun g => IC109 l0 n g.1.1 g.1.2.2) (fun g => n - g.1.1) ⟨(s, f, l), hs, hs2, hf, rfl, rfl⟩ (by kernel_rfl) h ?_
  rintro ⟨⟨s, f', x⟩, q0, q1, q2, q3, q4⟩
  simp only at q0 q1 q2 q3 q4
  simp only []
  have e2 : IntKind.i64.wrap ((2 : Int) * (s : Int)) = ((2 * s : Nat) : Int) := by rw [IntWalk.i64_in _ (by omega)]; omega
  have e3 : IntKind.i64.wrap ((s : Int) * (2 : Int)) = ((2 * s : Nat) : Int) := by rw [IntWalk.i64_in _ (by omega)]; omega
  have hE := mrgE_spec ltO n s q0 (n + 1) 0 x (by omega) (by omega) (by omega)
  have hlB := lB109 l0 n s (n + 1) x q0
  have hlen := mrg_length ltO n s q0 (l := x) (by omega)
  generalize hr : mrgE ltO n s (n + 1) 0 x = r at *
  obtain ⟨r1, r2, r3⟩ := hE
  have e1 : IntKind.i64.wrap ((r.1 : Int) + (s : Int)) = ((r.1 + s : Nat) : Int) := i64_add (by omega)
  rw [tC109r]
  refine ⟨fun h1 => ⟨?_, ⟨fun h2 => need_sat ⟨(by simp), ILeL.refl _, w118' _ _ _ _ ?_ ?_ ?_ ?_ ?_⟩ ?_, fun h2 => ?_⟩⟩, fun h1 => ?_⟩
  · have hc : s < n := by simp at h1; omega
    refine hlB hc (by omega) (by omega) (by omega) _ ⟨⟨?_, rfl, rfl, rfl, rfl, rfl, trivial⟩, ⟨rfl, trivial⟩, rfl, rfl, rfl⟩
    exact congrArg (fun n => AVal.imm (i64 n)) (e2.trans (by omega))
  · omega
  · rw [e1]; omega
  · rw [e1] at h2 ⊢; simp at h2; omega
  · omega
  · omega
  · have hc : s < n := by simp at h1; omega
    have hd : r.1 + s < n := by rw [e1] at h2; simp at h2; omega
    cases f' with
    | zero => omega
    | succ f' =>
      rw [mrgs, if_pos hc] at q4
      rw [if_pos hd] at r3
      simp only [e1, e3, Int.toNat_natCast, r3]
      exact ⟨⟨(2 * s, f', mrg ltO n s (n + 1) 0 x), by simp only; omega, by simp only; omega, by simp only; omega, by simp only; omega, q4⟩, by simp only; omega, ⟨rfl, rfl, rfl, congrArg (AVal.own 0) (by rw [hlen, r2]), trivial⟩, ⟨rfl, trivial⟩, rfl, rfl, rfl⟩
  · have hc : s < n := by simp at h1; omega
    have hd : ¬ r.1 + s < n := by rw [e1] at h2; simp at h2; omega
    cases f' with
    | zero => omega
    | succ f' =>
      rw [mrgs, if_pos hc] at q4
      rw [if_neg hd] at r3
      simp only [e3, r3]
      exact ⟨⟨(2 * s, f', mrg ltO n s (n + 1) 0 x), by simp only; omega, by simp only; omega, by simp only; omega, by simp only; omega, q4⟩, by simp only; omega, ⟨rfl, rfl, rfl, rfl, trivial⟩, ⟨rfl, trivial⟩, rfl, rfl, rfl⟩
  · have hc : ¬ s < n := by simp at h1; omega
    have : mrgs ltO n f' s x = x := by
      cases f' with
      | zero => rfl
      | succ f' => rw [mrgs, if_neg hc]
    rw [this] at q4
    rw [← q4]
    exact ⟨rfl, ⟨trivial, ⟨rfl, trivial⟩, rfl, rfl, rfl⟩⟩
theorem w109 (l : List Origin) (hl : l.length ≤ 2 ^ 59) : WSpec prog 109 68 6 (l.map encO) [i64 l.length, fnV 48] (.tup []) ((sorted ltO l).map encO) := by
  have hE := blkE_spec ltO l.length (l.length + 1) 0 l (Nat.le_refl _) (by omega) (by omega)
  have hA := fun l0 => lA109 l0 l.length (l.length + 1) l (by omega) (Nat.le_refl _) (by omega)
  refine WSpec.tree Proofs.Tryz.f109 (fun l0 => T109 l0 l.length l (blkE ltO l.length (l.length + 1) 0 l) (sorted ltO l)) (by kernel_rfl) (by kernel_rfl) (by kernel_rfl) fun l0 => ?_
  have hA := hA l0
  generalize blkE ltO l.length (l.length + 1) 0 l = r at *
  obtain ⟨r1, r2, r3⟩ := hE
  rw [t109]
  refine ⟨?_, need_sat ⟨(by simp), ILeL.refl _, w117 _ _ _ ?_ ?_ ?_⟩ ⟨?_, need_sat ?_ (lretW_ex ?_ ?_)⟩⟩
  · exact hA _ ⟨⟨rfl, rfl, rfl, rfl, rfl, by simp [tl], trivial⟩, ⟨rfl, trivial⟩, rfl, rfl, rfl⟩
  · omega
  · omega
  · omega
  · rw [r3]
    refine lC109 l0 l.length 20 (l.length + 1) _ (by omega) (by omega) (by omega) ?_ ?_ _ ⟨⟨rfl, rfl, rfl, congrArg (AVal.own 0) ?_, trivial⟩, ⟨rfl, trivial⟩, rfl, rfl, rfl⟩
    · rw [insB_length]
    · rw [insB_length]; exact hl
    · rw [insB_length, r2]
  · exact trivial
  · rfl
  · exact .refl _
theorem w109' (l : List Origin) (n : Int) (hn : n = l.length) (hl : l.length ≤ 2 ^ 59) : WSpec prog 109 68 6 (l.map encO) [i64 n, fnV 48] (.tup []) ((sorted ltO l).map encO) := by
  subst hn; exact w109 l hl
def T90 (l0 : Abs.Loc) (l : List Origin) : Tell :=
  Tell.mk (fun x x_1 => false) (fun x x_1 => Orc.no) (fun x => Tree.fail 1000003 0) (fun x => 0) (fun x => ([], []))
  (oget [(1, 0, 4, Orc.callw [i64 (↑(List.length (List.map encO l)) : Int), fnV 48] (IVal.tup []) (List.map encO (sorted ltO l)))]) fun x x_1 => Tree.fail 1000003 0
theorem t90 (l0 : Abs.Loc) (l : List Origin) : levW prog Proofs.Tryz.f90 l0 68 6 (l.map encO) [fnV 48] (T90 l0 l) =
  Tree.need
  (List.length (List.map encO l) = List.length (List.map encO l) ∧
  ILeL [IVal.v (Value.int IntKind.i64 (↑(List.length (List.map encO l)) : Int)), fnV 48] [i64 (↑(List.length (List.map encO l)) : Int), fnV 48] ∧
  WSpec prog 109 68 6 (List.map encO l) [i64 (↑(List.length (List.map encO l)) : Int), fnV 48] (IVal.tup []) (List.map encO (sorted ltO l)))
  (Tree.need (eqs []) (Tree.done Exit.ret (lretW l0 68 6 (IVal.tup []) (List.map encO (sorted ltO l))))) := by kernel_rfl
theorem w90 (l : List Origin) (hl : l.length ≤ 2 ^ 59) : WSpec prog 90 68 6 (l.map encO) [fnV 48] (.tup []) ((sorted ltO l).map encO) := by
  refine WSpec.tree Proofs.Tryz.f90 (fun l0 => T90 l0 l) (by kernel_rfl) (by kernel_rfl) (by kernel_rfl) fun l0 => ?_
  rw [t90]
  refine need_sat ⟨(by simp), ILeL.refl _, w109' _ _ ?_ ?_⟩ (need_sat ?_ (lretW_ex ?_ ?_))
  · simp
  · exact hl
  · exact trivial
  · rfl
  · exact .refl _
def IA111 (l0 : Abs.Loc) (n a : Nat) (x : List Attest) : LState := { t := [(8, .imm (i64 (a + 20 : Nat))), (7, .imm (i64 a)), (6, .imm (i64 20)), (2, .imm (fnV 51)), (1, .imm (i64 n)), (0, .own 0 x.length)], s := [(0, .brow l0 57 2 (x.map encT))], m := 63, n := 1 }
def EA111 (l0 : Abs.Loc) (n : Nat) (r : Nat × List Attest) : LState := { t := [(7, .imm (i64 r.1)), (6, .imm (i64 20)), (2, .imm (fnV 51)), (1, .imm (i64 n)), (0, .own 0 r.2.length)], s := [(0, .brow l0 57 2 (r.2.map encT))], m := 63, n := 1 }
def finA111 : Exit → Fin
  | .normal => ⟨[], [8, 7, 6, 2, 1, 0], [0]⟩
  | _ => ⟨[], [7, 6, 2, 1, 0], [0]⟩
def TA111r (l0 : Abs.Loc) (n a : Nat) (x : List Attest) : Tell :=
  Tell.mk (fun x x_1 => false) (fun x x_1 => Orc.no) (fun x => Tree.fail 1000003 0) (fun x => 0) (fun x => ([], []))
  (oget [(4, 3, 4, Orc.callw [i64 (↑a : Int), i64 (↑(a + 20) : Int), fnV 51] (IVal.tup []) (List.map encT (ins ltT a (a + 20) x)))]) fun x x_1 => Tree.fail 1000003 0
theorem tA111r (l0 : Abs.Loc) (n a : Nat) (x : List Attest) : levL prog Proofs.Tryz.f111 2 (IA111 l0 n a x) (TA111r l0 n a x) finA111 =
  Tree.br (decide ((↑(a + 20) : Int) ≤ (↑n : Int)))
  (Tree.need
  (List.length (List.map encT x) = List.length x ∧
  ILeL [i64 (↑a : Int), i64 (↑(a + 20) : Int), fnV 51] [i64 (↑a : Int), i64 (↑(a + 20) : Int), fnV 51] ∧
  WSpec prog 119 57 2 (List.map encT x) [i64 (↑a : Int), i64 (↑(a + 20) : Int), fnV 51] (IVal.tup []) (List.map encT (ins ltT a (a + 20) x)))
  (Tree.done Exit.normal
  (LState.mk
  [(8, AVal.imm (IVal.v (Value.int IntKind.i64 (IntKind.wrap IntKind.i64 ((↑(a + 20) : Int) + (20 : Int)))))), (7, AVal.imm (i64 (↑(a + 20) : Int))), (6, AVal.imm (i64 (20 : Int))),
  (2, AVal.imm (fnV 51)), (1, AVal.imm (i64 (↑n : Int))), (0, AVal.own 0 (List.length x))]
  [(0, Entry.brow l0 57 2 (List.map encT (ins ltT a (a + 20) x)))] 63 15 [])))
  (Tree.done (Exit.exit 0)
  (LState.mk [(7, AVal.imm (i64 (↑a : Int))), (6, AVal.imm (i64 (20 : Int))), (2, AVal.imm (fnV 51)), (1, AVal.imm (i64 (↑n : Int))), (0, AVal.own 0 (List.length x))]
  [(0, Entry.brow l0 57 2 (List.map encT x))] 63 4 [])) := by kernel_rfl
def IB111 (l0 : Abs.Loc) (n s a : Nat) (x : List Attest) : LState := { t := [(8, .imm (i64 (a + 2 * s : Nat))), (7, .imm (i64 a)), (6, .imm (i64 s)), (2, .imm (fnV 51)), (1, .imm (i64 n)), (0, .own 0 x.length)], s := [(0, .brow l0 57 2 (x.map encT))], m := 63, n := 1 }
def EB111 (l0 : Abs.Loc) (n s : Nat) (r : Nat × List Attest) : LState := { t := [(7, .imm (i64 r.1)), (6, .imm (i64 s)), (2, .imm (fnV 51)), (1, .imm (i64 n)), (0, .own 0 r.2.length)], s := [(0, .brow l0 57 2 (r.2.map encT))], m := 63, n := 1 }
def TB111r (l0 : Abs.Loc) (n s a : Nat) (x : List Attest) : Tell :=
  Tell.mk (fun x x_1 => false) (fun x x_1 => Orc.no) (fun x => Tree.fail 1000003 0) (fun x => 0) (fun x => ([], []))
  (oget
  [(4, 10, 7,
  Orc.callw [i64 (↑a : Int), i64 (IntKind.wrap IntKind.i64 ((↑a : Int) + (↑s : Int))), i64 (↑(a + 2 * s) : Int), fnV 51] (IVal.tup [])
  (List.map encT (symF ltT (Int.toNat (↑a : Int)) (Int.toNat (IntKind.wrap IntKind.i64 ((↑a : Int) + (↑s : Int)))) (Int.toNat (↑(a + 2 * s) : Int)) x)))])
  fun x x_1 => Tree.fail 1000003 0
theorem tB111r (l0 : Abs.Loc) (n s a : Nat) (x : List Attest) : levL prog Proofs.Tryz.f111 9 (IB111 l0 n s a x) (TB111r l0 n s a x) finA111 =
  Tree.br (decide ((↑(a + 2 * s) : Int) ≤ (↑n : Int)))
  (Tree.need
  (List.length (List.map encT x) = List.length x ∧
  ILeL [i64 (↑a : Int), IVal.v (Value.int IntKind.i64 (IntKind.wrap IntKind.i64 ((↑a : Int) + (↑s : Int)))), i64 (↑(a + 2 * s) : Int), fnV 51]
  [i64 (↑a : Int), i64 (IntKind.wrap IntKind.i64 ((↑a : Int) + (↑s : Int))), i64 (↑(a + 2 * s) : Int), fnV 51] ∧
  WSpec prog 120 57 2 (List.map encT x) [i64 (↑a : Int), i64 (IntKind.wrap IntKind.i64 ((↑a : Int) + (↑s : Int))), i64 (↑(a + 2 * s) : Int), fnV 51] (IVal.tup [])
  (List.map encT (symF ltT a (Int.toNat (IntKind.wrap IntKind.i64 ((↑a : Int) + (↑s : Int)))) (a + 2 * s) x)))
  (Tree.done Exit.normal
  (LState.mk
  [(8, AVal.imm (IVal.v (Value.int IntKind.i64 (IntKind.wrap IntKind.i64 ((↑(a + 2 * s) : Int) + IntKind.wrap IntKind.i64 ((2 : Int) * (↑s : Int))))))), (7, AVal.imm (i64 (↑(a + 2 * s) : Int))),
  (6, AVal.imm (i64 (↑s : Int))), (2, AVal.imm (fnV 51)), (1, AVal.imm (i64 (↑n : Int))), (0, AVal.own 0 (List.length x))]
  [(0, Entry.brow l0 57 2 (List.map encT (symF ltT a (Int.toNat (IntKind.wrap IntKind.i64 ((↑a : Int) + (↑s : Int)))) (a + 2 * s) x)))] 63 19 [])))
  (Tree.done (Exit.exit 4)
  (LState.mk [(7, AVal.imm (i64 (↑a : Int))), (6, AVal.imm (i64 (↑s : Int))), (2, AVal.imm (fnV 51)), (1, AVal.imm (i64 (↑n : Int))), (0, AVal.own 0 (List.length x))]
  [(0, Entry.brow l0 57 2 (List.map encT x))] 63 4 [])) := by kernel_rfl
def IC111 (l0 : Abs.Loc) (n s : Nat) (x : List Attest) : LState := { t := [(6, .imm (i64 s)), (2, .imm (fnV 51)), (1, .imm (i64 n)), (0, .own 0 x.length)], s := [(0, .brow l0 57 2 (x.map encT))], m := 63, n := 1 }
def EC111 (l0 : Abs.Loc) (x : List Attest) : LState := { t := [], s := [(0, .brow l0 57 2 (x.map encT))], m := 63, n := 1 }
def finC111 : Exit → Fin
  | .normal => ⟨[], [6, 2, 1, 0], [0]⟩
  | _ => ⟨[], [], [0]⟩
def TC111r (l0 : Abs.Loc) (n s : Nat) (x : List Attest) (r : Nat × List Attest) : Tell :=
  Tell.mk (fun x x_1 => false) (fun x x_1 => Orc.no) (fun x => Tree.done (Exit.exit 4) (EB111 l0 n s r)) (fun x => 0) (fun x => ([8, 7, 6, 2, 1, 0], [0]))
  (oget
  [(8, 15, 5,
  Orc.callw [i64 (↑r.fst : Int), i64 (IntKind.wrap IntKind.i64 ((↑r.fst : Int) + (↑s : Int))), i64 (↑n : Int), fnV 51] (IVal.tup [])
  (List.map encT (symF ltT (Int.toNat (↑r.fst : Int)) (Int.toNat (IntKind.wrap IntKind.i64 ((↑r.fst : Int) + (↑s : Int)))) (Int.toNat (↑n : Int)) r.snd)))])
  fun x x_1 => Tree.done (Exit.exit 4) (EB111 l0 n s r)
theorem tC111r (l0 : Abs.Loc) (n s : Nat) (x : List Attest) (r : Nat × List Attest) : levL prog Proofs.Tryz.f111 7 (IC111 l0 n s x) (TC111r l0 n s x r) finC111 =
  Tree.br (decide ((↑s : Int) < (↑n : Int)))
  (Tree.loop 9
  (LState.mk
  [(8, AVal.imm (IVal.v (Value.int IntKind.i64 (IntKind.wrap IntKind.i64 ((2 : Int) * (↑s : Int)))))), (7, AVal.imm (IVal.v (Value.int IntKind.i64 (0 : Int)))), (6, AVal.imm (i64 (↑s : Int))),
  (2, AVal.imm (fnV 51)), (1, AVal.imm (i64 (↑n : Int))), (0, AVal.own 0 (List.length x))]
  [(0, Entry.brow l0 57 2 (List.map encT x))] 63 8 [])
  (Tree.done (Exit.exit 4) (EB111 l0 n s r))
  (Tree.br (decide (IntKind.wrap IntKind.i64 ((↑r.fst : Int) + (↑s : Int)) < (↑n : Int)))
  (Tree.need
  (List.length (List.map encT r.snd) = List.length r.snd ∧
  ILeL [i64 (↑r.fst : Int), IVal.v (Value.int IntKind.i64 (IntKind.wrap IntKind.i64 ((↑r.fst : Int) + (↑s : Int)))), i64 (↑n : Int), fnV 51]
  [i64 (↑r.fst : Int), i64 (IntKind.wrap IntKind.i64 ((↑r.fst : Int) + (↑s : Int))), i64 (↑n : Int), fnV 51] ∧
  WSpec prog 120 57 2 (List.map encT r.snd) [i64 (↑r.fst : Int), i64 (IntKind.wrap IntKind.i64 ((↑r.fst : Int) + (↑s : Int))), i64 (↑n : Int), fnV 51] (IVal.tup [])
  (List.map encT (symF ltT r.fst (Int.toNat (IntKind.wrap IntKind.i64 ((↑r.fst : Int) + (↑s : Int)))) n r.snd)))
  (Tree.done Exit.normal
  (LState.mk
  [(6, AVal.imm (IVal.v (Value.int IntKind.i64 (IntKind.wrap IntKind.i64 ((↑s : Int) * (2 : Int)))))), (2, AVal.imm (fnV 51)), (1, AVal.imm (i64 (↑n : Int))),
  (0, AVal.own 0 (List.length r.snd))]
  [(0, Entry.brow l0 57 2 (List.map encT (symF ltT r.fst (Int.toNat (IntKind.wrap IntKind.i64 ((↑r.fst : Int) + (↑s : Int)))) n r.snd)))] 63 17 [])))
  (Tree.done Exit.normal
  (LState.mk
  [(6, AVal.imm (IVal.v (Value.int IntKind.i64 (IntKind.wrap IntKind.i64 ((↑s : Int) * (2 : Int)))))), (2, AVal.imm (fnV 51)), (1, AVal.imm (i64 (↑n : Int))),
  (0, AVal.own 0 (List.length r.snd))]
  [(0, Entry.brow l0 57 2 (List.map encT r.snd))] 63 11 []))))
  (Tree.done (Exit.exit 2) (LState.mk [] [(0, Entry.brow l0 57 2 (List.map encT x))] 63 4 [])) := by kernel_rfl
def T111 (l0 : Abs.Loc) (n : Nat) (l : List Attest) (r : Nat × List Attest) (y : List Attest) : Tell :=
  Tell.mk (fun x x_1 => false) (fun x x_1 => Orc.no)
  (fun k =>
  match k with
  | 2 => Tree.done (Exit.exit 0) (EA111 l0 n r)
  | x => Tree.done (Exit.exit 2) (EC111 l0 y))
  (fun x => 0)
  (fun k =>
  match k with
  | 2 => ([8, 7, 6, 2, 1, 0], [0])
  | x => ([6, 2, 1, 0], [0]))
  (oget [(1, 6, 4, Orc.callw [i64 (↑r.fst : Int), i64 (↑n : Int), fnV 51] (IVal.tup []) (List.map encT (ins ltT r.fst n r.snd)))]) fun x k =>
  match k with
  | 2 => Tree.done (Exit.exit 0) (EA111 l0 n r)
  | x => Tree.done (Exit.exit 2) (EC111 l0 y)
theorem t111 (l0 : Abs.Loc) (n : Nat) (l : List Attest) (r : Nat × List Attest) (y : List Attest) : levW prog Proofs.Tryz.f111 l0 57 2 (l.map encT) [i64 n, fnV 51] (T111 l0 n l r y) =
  Tree.loop 2
  (LState.mk
  [(8, AVal.imm (IVal.v (Value.int IntKind.i64 (20 : Int)))), (7, AVal.imm (IVal.v (Value.int IntKind.i64 (0 : Int)))), (6, AVal.imm (IVal.v (Value.int IntKind.i64 (20 : Int)))),
  (2, AVal.imm (fnV 51)), (1, AVal.imm (i64 (↑n : Int))), (0, AVal.own 0 (List.length (List.map encT l)))]
  [(0, Entry.brow l0 57 2 (List.map encT l))] 63 5 [])
  (Tree.done (Exit.exit 0) (EA111 l0 n r))
  (Tree.need
  (List.length (List.map encT r.snd) = List.length r.snd ∧
  ILeL [i64 (↑r.fst : Int), i64 (↑n : Int), fnV 51] [i64 (↑r.fst : Int), i64 (↑n : Int), fnV 51] ∧
  WSpec prog 119 57 2 (List.map encT r.snd) [i64 (↑r.fst : Int), i64 (↑n : Int), fnV 51] (IVal.tup []) (List.map encT (ins ltT r.fst n r.snd)))
  (Tree.loop 7
  (LState.mk [(6, AVal.imm (i64 (20 : Int))), (2, AVal.imm (fnV 51)), (1, AVal.imm (i64 (↑n : Int))), (0, AVal.own 0 (List.length r.snd))]
  [(0, Entry.brow l0 57 2 (List.map encT (ins ltT r.fst n r.snd)))] 63 6 [])
  (Tree.done (Exit.exit 2) (EC111 l0 y)) (Tree.need (eqs []) (Tree.done Exit.ret (lretW l0 57 2 (IVal.tup []) (List.map encT y)))))) := by kernel_rfl
theorem lA111 (l0 : Abs.Loc) (n f : Nat) (l : List Attest) (hf : n < f) (hn : n ≤ l.length) (hl : l.length ≤ 2 ^ 60) (σ : LState) (h : LSub σ (IA111 l0 n 0 l)) : LoopOk prog [] (bodyOf Proofs.Tryz.f111) 2 σ (.done (.exit 0) (EA111 l0 n (blkE ltT n f 0 l))) := by
  refine LoopOk.of_levL (γ := { g : Nat × Nat × List Attest // g.1 ≤ n ∧ n < g.1 + g.2.1 ∧ g.2.2.length = l.length ∧ blkE ltT n g.2.1 g.1 g.2.2 = blkE ltT n f 0 l })
    (fun g => TA111r l0 n g.1.1 g.1.2.2) finA111 (fun g => IA111 l0 n g.1.1 g.1.2.2) (fun g => n - g.1.1) ⟨(0, f, l), by simp, by simpa using hf, rfl, rfl⟩ (by kernel_rfl) h ?_
  rintro ⟨⟨a, f', x⟩, q1, q2, q3, q4⟩
  simp only at q1 q2 q3 q4
  simp only []
  rw [tA111r]
  cases f' with
  | zero => omega
  | succ f' =>
    rw [blkE] at q4
    refine ⟨fun h1 => need_sat ⟨(by simp), ILeL.refl _, w119 _ _ _ ?_ ?_ ?_⟩ ?_, fun h1 => ?_⟩
    · simp at h1; omega
    · omega
    · omega
    · have hc : a + 20 ≤ n := by simp at h1; omega
      rw [if_pos hc] at q4
      have hlen := ins_length ltT a (a + 20) x (by omega)
      have e5 : IntKind.i64.wrap (((a + 20 : Nat) : Int) + 20) = ((a + 20 + 20 : Nat) : Int) := by rw [IntWalk.i64_in _ (by omega)]; omega
      exact ⟨⟨(a + 20, f', ins ltT a (a + 20) x), hc, by simp only; omega, by simp only; omega, q4⟩, by simp only; omega, ⟨congrArg (fun n => AVal.imm (i64 n)) e5, rfl, rfl, rfl, rfl, congrArg (AVal.own 0) hlen.symm, trivial⟩, ⟨rfl, trivial⟩, rfl, rfl, rfl⟩
    · have hc : ¬ a + 20 ≤ n := by simp at h1; omega
      rw [if_neg hc] at q4
      rw [← q4]
      exact ⟨rfl, ⟨rfl, rfl, rfl, rfl, rfl, trivial⟩, ⟨rfl, trivial⟩, rfl, rfl, rfl⟩
theorem lB111 (l0 : Abs.Loc) (n s f : Nat) (l : List Attest) (hs : 0 < s) (hsn : s < n) (hf : n < f) (hn : n ≤ l.length) (hl : l.length ≤ 2 ^ 60) (σ : LState) (h : LSub σ (IB111 l0 n s 0 l)) : LoopOk prog [] (bodyOf Proofs.Tryz.f111) 9 σ (.done (.exit 4) (EB111 l0 n s (mrgE ltT n s f 0 l))) := by
  refine LoopOk.of_levL (γ := { g : Nat × Nat × List Attest // g.1 ≤ n ∧ n < g.1 + g.2.1 ∧ g.2.2.length = l.length ∧ mrgE ltT n s g.2.1 g.1 g.2.2 = mrgE ltT n s f 0 l })
    (fun g => TB111r l0 n s g.1.1 g.1.2.2) finA111 (fun g => IB111 l0 n s g.1.1 g.1.2.2) (fun g => n - g.1.1) ⟨(0, f, l), by simp, by simpa using hf, rfl, rfl⟩ (by kernel_rfl) h ?_
  rintro ⟨⟨a, f', x⟩, q1, q2, q3, q4⟩
  simp only at q1 q2 q3 q4
  simp only []
  have e1 : IntKind.i64.wrap ((a : Int) + (s : Int)) = ((a + s : Nat) : Int) := i64_add (by omega)
  have e2 : IntKind.i64.wrap ((2 : Int) * (s : Int)) = ((2 * s : Nat) : Int) := by rw [IntWalk.i64_in _ (by omega)]; omega
  rw [tB111r]
  cases f' with
  | zero => omega
  | succ f' =>
    rw [mrgE] at q4
    refine ⟨fun h1 => need_sat ⟨(by simp), ILeL.refl _, w120' _ _ _ _ ?_ ?_ ?_ ?_ ?_⟩ ?_, fun h1 => ?_⟩
    · omega
    · rw [e1]; omega
    · rw [e1]; omega
    · simp at h1; omega
    · omega
    · have hc : a + 2 * s ≤ n := by simp at h1; omega
      rw [if_pos hc] at q4
      have hlen := symF_length ltT (l := x) (show a < a + s by omega) (show a + s < a + 2 * s by omega) (by omega)
      simp only [e1, e2, Int.toNat_natCast]
      refine ⟨⟨(a + 2 * s, f', symF ltT a (a + s) (a + 2 * s) x), hc, by simp only; omega, by simp only; omega, q4⟩, by simp only; omega, ⟨?_, rfl, rfl, rfl, rfl, congrArg (AVal.own 0) hlen.symm, trivial⟩, ⟨rfl, trivial⟩, rfl, rfl, rfl⟩
      exact congrArg (fun n => AVal.imm (i64 n)) (i64_add (by omega))
    · have hc : ¬ a + 2 * s ≤ n := by simp at h1; omega
      rw [if_neg hc] at q4
      rw [← q4]
      exact ⟨rfl, ⟨rfl, rfl, rfl, rfl, rfl, trivial⟩, ⟨rfl, trivial⟩, rfl, rfl, rfl⟩
theorem lC111 (l0 : Abs.Loc) (n s f : Nat) (l : List Attest) (hs : 0 < s) (hs2 : s ≤ 2 ^ 60) (hf : n < s + f) (hn : n = l.length) (hl : l.length ≤ 2 ^ 59) (σ : LState) (h : LSub σ (IC111 l0 n s l)) : LoopOk prog [] (bodyOf Proofs.Tryz.f111) 7 σ (.done (.exit 2) (EC111 l0 (mrgs ltT n f s l))) := by
  refine LoopOk.of_levL (γ := { g : Nat × Nat × List Attest // 0 < g.1 ∧ g.1 ≤ 2 ^ 60 ∧ n < g.1 + g.2.1 ∧ g.2.2.length = l.length ∧ mrgs ltT n g.2.1 g.1 g.2.2 = mrgs ltT n f s l })
    (fun g => TC111r l0 n g.1.1 g.1.2.2 (mrgE ltT n g.1.1 (n + 1) 0 g.1.2.2)) finC111 (fun g => IC111 l0 n g.1.1 g.1.2.2) (fun g => n - g.1.1) ⟨(s, f, l), hs, hs2, hf, rfl, rfl⟩ (by kernel_rfl) h ?_
  rintro ⟨⟨s, f', x⟩, q0, q1, q2, q3, q4⟩
  simp only at q0 q1 q2 q3 q4
  simp only []
  have e2 : IntKind.i64.wrap ((2 : Int) * (s : Int)) = ((2 * s : Nat) : Int) := by rw [IntWalk.i64_in _ (by omega)]; omega
  have e3 : IntKind.i64.wrap ((s : Int) * (2 : Int)) = ((2 * s : Nat) : Int) := by rw [IntWalk.i64_in _ (by omega)]; omega
  have hE := mrgE_spec ltT n s q0 (n + 1) 0 x (by omega) (by omega) (by omega)
  have hlB := lB111 l0 n s (n + 1) x q0
  have hlen := mrg_length ltT n s q0 (l := x) (by omega)
  generalize hr : mrgE ltT n s (n + 1) 0 x = r at *
  obtain ⟨r1, r2, r3⟩ := hE
  have e1 : IntKind.i64.wrap ((r.1 : Int) + (s : Int)) = ((r.1 + s : Nat) : Int) := i64_add (by omega)
  rw [tC111r]
  refine ⟨fun h1 => ⟨?_, ⟨fun h2 => need_sat ⟨(by simp), ILeL.refl _, w120' _ _ _ _ ?_ ?_ ?_ ?_ ?_⟩ ?_, fun h2 => ?_⟩⟩, fun h1 => ?_⟩
  · have hc : s < n := by simp at h1; omega
    refine hlB hc (by omega) (by omega) (by omega) _ ⟨⟨?_, rfl, rfl, rfl, rfl, rfl, trivial⟩, ⟨rfl, trivial⟩, rfl, rfl, rfl⟩
    exact congrArg (fun n => AVal.imm (i64 n)) (e2.trans (by omega))
  · omega
  · rw [e1]; omega
  · rw [e1] at h2 ⊢; simp at h2; omega
  · omega
  · omega
  · have hc : s < n := by simp at h1; omega
    have hd : r.1 + s < n := by rw [e1] at h2; simp at h2; omega
    cases f' with
    | zero => omega
    | succ f' =>
      rw [mrgs, if_pos hc] at q4
      rw [if_pos hd] at r3
      simp only [e1, e3, Int.toNat_natCast, r3]
      exact ⟨⟨(2 * s, f', mrg ltT n s (n + 1) 0 x), by simp only; omega, by simp only; omega, by simp only; omega, by simp only; omega, q4⟩, by simp only; omega, ⟨rfl, rfl, rfl, congrArg (AVal.own 0) (by rw [hlen, r2]), trivial⟩, ⟨rfl, trivial⟩, rfl, rfl, rfl⟩
  · have hc : s < n := by simp at h1; omega
    have hd : ¬ r.1 + s < n := by rw [e1] at h2; simp at h2; omega
    cases f' with
    | zero => omega
    | succ f' =>
      rw [mrgs, if_pos hc] at q4
      rw [if_neg hd] at r3
      simp only [e3, r3]
      exact ⟨⟨(2 * s, f', mrg ltT n s (n + 1) 0 x), by simp only; omega, by simp only; omega, by simp only; omega, by simp only; omega, q4⟩, by simp only; omega, ⟨rfl, rfl, rfl, rfl, trivial⟩, ⟨rfl, trivial⟩, rfl, rfl, rfl⟩
  · have hc : ¬ s < n := by simp at h1; omega
    have : mrgs ltT n f' s x = x := by
      cases f' with
      | zero => rfl
      | succ f' => rw [mrgs, if_neg hc]
    rw [this] at q4
    rw [← q4]
    exact ⟨rfl, ⟨trivial, ⟨rfl, trivial⟩, rfl, rfl, rfl⟩⟩
theorem w111 (l : List Attest) (hl : l.length ≤ 2 ^ 59) : WSpec prog 111 57 2 (l.map encT) [i64 l.length, fnV 51] (.tup []) ((sorted ltT l).map encT) := by
  have hE := blkE_spec ltT l.length (l.length + 1) 0 l (Nat.le_refl _) (by omega) (by omega)
  have hA := fun l0 => lA111 l0 l.length (l.length + 1) l (by omega) (Nat.le_refl _) (by omega)
  refine WSpec.tree Proofs.Tryz.f111 (fun l0 => T111 l0 l.length l (blkE ltT l.length (l.length + 1) 0 l) (sorted ltT l)) (by kernel_rfl) (by kernel_rfl) (by kernel_rfl) fun l0 => ?_
  have hA := hA l0
  generalize blkE ltT l.length (l.length + 1) 0 l = r at *
  obtain ⟨r1, r2, r3⟩ := hE
  rw [t111]
  refine ⟨?_, need_sat ⟨(by simp), ILeL.refl _, w119 _ _ _ ?_ ?_ ?_⟩ ⟨?_, need_sat ?_ (lretW_ex ?_ ?_)⟩⟩
  · exact hA _ ⟨⟨rfl, rfl, rfl, rfl, rfl, by simp [tl], trivial⟩, ⟨rfl, trivial⟩, rfl, rfl, rfl⟩
  · omega
  · omega
  · omega
  · rw [r3]
    refine lC111 l0 l.length 20 (l.length + 1) _ (by omega) (by omega) (by omega) ?_ ?_ _ ⟨⟨rfl, rfl, rfl, congrArg (AVal.own 0) ?_, trivial⟩, ⟨rfl, trivial⟩, rfl, rfl, rfl⟩
    · rw [insB_length]
    · rw [insB_length]; exact hl
    · rw [insB_length, r2]
  · exact trivial
  · rfl
  · exact .refl _
theorem w111' (l : List Attest) (n : Int) (hn : n = l.length) (hl : l.length ≤ 2 ^ 59) : WSpec prog 111 57 2 (l.map encT) [i64 n, fnV 51] (.tup []) ((sorted ltT l).map encT) := by
  subst hn; exact w111 l hl
def T92 (l0 : Abs.Loc) (l : List Attest) : Tell :=
  Tell.mk (fun x x_1 => false) (fun x x_1 => Orc.no) (fun x => Tree.fail 1000003 0) (fun x => 0) (fun x => ([], []))
  (oget [(1, 0, 4, Orc.callw [i64 (↑(List.length (List.map encT l)) : Int), fnV 51] (IVal.tup []) (List.map encT (sorted ltT l)))]) fun x x_1 => Tree.fail 1000003 0
theorem t92 (l0 : Abs.Loc) (l : List Attest) : levW prog Proofs.Tryz.f92 l0 57 2 (l.map encT) [fnV 51] (T92 l0 l) =
  Tree.need
  (List.length (List.map encT l) = List.length (List.map encT l) ∧
  ILeL [IVal.v (Value.int IntKind.i64 (↑(List.length (List.map encT l)) : Int)), fnV 51] [i64 (↑(List.length (List.map encT l)) : Int), fnV 51] ∧
  WSpec prog 111 57 2 (List.map encT l) [i64 (↑(List.length (List.map encT l)) : Int), fnV 51] (IVal.tup []) (List.map encT (sorted ltT l)))
  (Tree.need (eqs []) (Tree.done Exit.ret (lretW l0 57 2 (IVal.tup []) (List.map encT (sorted ltT l))))) := by kernel_rfl
theorem w92 (l : List Attest) (hl : l.length ≤ 2 ^ 59) : WSpec prog 92 57 2 (l.map encT) [fnV 51] (.tup []) ((sorted ltT l).map encT) := by
  refine WSpec.tree Proofs.Tryz.f92 (fun l0 => T92 l0 l) (by kernel_rfl) (by kernel_rfl) (by kernel_rfl) fun l0 => ?_
  rw [t92]
  refine need_sat ⟨(by simp), ILeL.refl _, w111' _ _ ?_ ?_⟩ (need_sat ?_ (lretW_ex ?_ ?_))
  · simp
  · exact hl
  · exact trivial
  · rfl
  · exact .refl _
def IA113 (l0 : Abs.Loc) (n a : Nat) (x : List RKey) : LState := { t := [(8, .imm (i64 (a + 20 : Nat))), (7, .imm (i64 a)), (6, .imm (i64 20)), (2, .imm (fnV 54)), (1, .imm (i64 n)), (0, .own 0 x.length)], s := [(0, .brow l0 75 18 (x.map encK))], m := 63, n := 1 }
def EA113 (l0 : Abs.Loc) (n : Nat) (r : Nat × List RKey) : LState := { t := [(7, .imm (i64 r.1)), (6, .imm (i64 20)), (2, .imm (fnV 54)), (1, .imm (i64 n)), (0, .own 0 r.2.length)], s := [(0, .brow l0 75 18 (r.2.map encK))], m := 63, n := 1 }
def finA113 : Exit → Fin
  | .normal => ⟨[], [8, 7, 6, 2, 1, 0], [0]⟩
  | _ => ⟨[], [7, 6, 2, 1, 0], [0]⟩
def TA113r (l0 : Abs.Loc) (n a : Nat) (x : List RKey) : Tell :=
  Tell.mk (fun x x_1 => false) (fun x x_1 => Orc.no) (fun x => Tree.fail 1000003 0) (fun x => 0) (fun x => ([], []))
  (oget [(4, 3, 4, Orc.callw [i64 (↑a : Int), i64 (↑(a + 20) : Int), fnV 54] (IVal.tup []) (List.map encK (ins ltK a (a + 20) x)))]) fun x x_1 => Tree.fail 1000003 0
theorem tA113r (l0 : Abs.Loc) (n a : Nat) (x : List RKey) : levL prog Proofs.Tryz.f113 2 (IA113 l0 n a x) (TA113r l0 n a x) finA113 =
  Tree.br (decide ((↑(a + 20) : Int) ≤ (↑n : Int)))
  (Tree.need
  (List.length (List.map encK x) = List.length x ∧
  ILeL [i64 (↑a : Int), i64 (↑(a + 20) : Int), fnV 54] [i64 (↑a : Int), i64 (↑(a + 20) : Int), fnV 54] ∧
  WSpec prog 121 75 18 (List.map encK x) [i64 (↑a : Int), i64 (↑(a + 20) : Int), fnV 54] (IVal.tup []) (List.map encK (ins ltK a (a + 20) x)))
  (Tree.done Exit.normal
  (LState.mk
  [(8, AVal.imm (IVal.v (Value.int IntKind.i64 (IntKind.wrap IntKind.i64 ((↑(a + 20) : Int) + (20 : Int)))))), (7, AVal.imm (i64 (↑(a + 20) : Int))), (6, AVal.imm (i64 (20 : Int))),
  (2, AVal.imm (fnV 54)), (1, AVal.imm (i64 (↑n : Int))), (0, AVal.own 0 (List.length x))]
  [(0, Entry.brow l0 75 18 (List.map encK (ins ltK a (a + 20) x)))] 63 15 [])))
  (Tree.done (Exit.exit 0)
  (LState.mk [(7, AVal.imm (i64 (↑a : Int))), (6, AVal.imm (i64 (20 : Int))), (2, AVal.imm (fnV 54)), (1, AVal.imm (i64 (↑n : Int))), (0, AVal.own 0 (List.length x))]
  [(0, Entry.brow l0 75 18 (List.map encK x))] 63 4 [])) := by kernel_rfl
def IB113 (l0 : Abs.Loc) (n s a : Nat) (x : List RKey) : LState := { t := [(8, .imm (i64 (a + 2 * s : Nat))), (7, .imm (i64 a)), (6, .imm (i64 s)), (2, .imm (fnV 54)), (1, .imm (i64 n)), (0, .own 0 x.length)], s := [(0, .brow l0 75 18 (x.map encK))], m := 63, n := 1 }
def EB113 (l0 : Abs.Loc) (n s : Nat) (r : Nat × List RKey) : LState := { t := [(7, .imm (i64 r.1)), (6, .imm (i64 s)), (2, .imm (fnV 54)), (1, .imm (i64 n)), (0, .own 0 r.2.length)], s := [(0, .brow l0 75 18 (r.2.map encK))], m := 63, n := 1 }
def TB113r (l0 : Abs.Loc) (n s a : Nat) (x : List RKey) : Tell :=
  Tell.mk (fun x x_1 => false) (fun x x_1 => Orc.no) (fun x => Tree.fail 1000003 0) (fun x => 0) (fun x => ([], []))
  (oget
  [(4, 10, 7,
  Orc.callw [i64 (↑a : Int), i64 (IntKind.wrap IntKind.i64 ((↑a : Int) + (↑s : Int))), i64 (↑(a + 2 * s) : Int), fnV 54] (IVal.tup [])
  (List.map encK (symF ltK (Int.toNat (↑a : Int)) (Int.toNat (IntKind.wrap IntKind.i64 ((↑a : Int) + (↑s : Int)))) (Int.toNat (↑(a + 2 * s) : Int)) x)))])
  fun x x_1 => Tree.fail 1000003 0
theorem tB113r (l0 : Abs.Loc) (n s a : Nat) (x : List RKey) : levL prog Proofs.Tryz.f113 9 (IB113 l0 n s a x) (TB113r l0 n s a x) finA113 =
  Tree.br (decide ((↑(a + 2 * s) : Int) ≤ (↑n : Int)))
  (Tree.need
  (List.length (List.map encK x) = List.length x ∧
  ILeL [i64 (↑a : Int), IVal.v (Value.int IntKind.i64 (IntKind.wrap IntKind.i64 ((↑a : Int) + (↑s : Int)))), i64 (↑(a + 2 * s) : Int), fnV 54]
  [i64 (↑a : Int), i64 (IntKind.wrap IntKind.i64 ((↑a : Int) + (↑s : Int))), i64 (↑(a + 2 * s) : Int), fnV 54] ∧
  WSpec prog 122 75 18 (List.map encK x) [i64 (↑a : Int), i64 (IntKind.wrap IntKind.i64 ((↑a : Int) + (↑s : Int))), i64 (↑(a + 2 * s) : Int), fnV 54] (IVal.tup [])
  (List.map encK (symF ltK a (Int.toNat (IntKind.wrap IntKind.i64 ((↑a : Int) + (↑s : Int)))) (a + 2 * s) x)))
  (Tree.done Exit.normal
  (LState.mk
  [(8, AVal.imm (IVal.v (Value.int IntKind.i64 (IntKind.wrap IntKind.i64 ((↑(a + 2 * s) : Int) + IntKind.wrap IntKind.i64 ((2 : Int) * (↑s : Int))))))), (7, AVal.imm (i64 (↑(a + 2 * s) : Int))),
  (6, AVal.imm (i64 (↑s : Int))), (2, AVal.imm (fnV 54)), (1, AVal.imm (i64 (↑n : Int))), (0, AVal.own 0 (List.length x))]
  [(0, Entry.brow l0 75 18 (List.map encK (symF ltK a (Int.toNat (IntKind.wrap IntKind.i64 ((↑a : Int) + (↑s : Int)))) (a + 2 * s) x)))] 63 19 [])))
  (Tree.done (Exit.exit 4)
  (LState.mk [(7, AVal.imm (i64 (↑a : Int))), (6, AVal.imm (i64 (↑s : Int))), (2, AVal.imm (fnV 54)), (1, AVal.imm (i64 (↑n : Int))), (0, AVal.own 0 (List.length x))]
  [(0, Entry.brow l0 75 18 (List.map encK x))] 63 4 [])) := by kernel_rfl
def IC113 (l0 : Abs.Loc) (n s : Nat) (x : List RKey) : LState := { t := [(6, .imm (i64 s)), (2, .imm (fnV 54)), (1, .imm (i64 n)), (0, .own 0 x.length)], s := [(0, .brow l0 75 18 (x.map encK))], m := 63, n := 1 }
def EC113 (l0 : Abs.Loc) (x : List RKey) : LState := { t := [], s := [(0, .brow l0 75 18 (x.map encK))], m := 63, n := 1 }
def finC113 : Exit → Fin
  | .normal => ⟨[], [6, 2, 1, 0], [0]⟩
  | _ => ⟨[], [], [0]⟩
def TC113r (l0 : Abs.Loc) (n s : Nat) (x : List RKey) (r : Nat × List RKey) : Tell :=
  Tell.mk (fun x x_1 => false) (fun x x_1 => Orc.no) (fun x => Tree.done (Exit.exit 4) (EB113 l0 n s r)) (fun x => 0) (fun x => ([8, 7, 6, 2, 1, 0], [0]))
  (oget
  [(8, 15, 5,
  Orc.callw [i64 (↑r.fst : Int), i64 (IntKind.wrap IntKind.i64 ((↑r.fst : Int) + (↑s : Int))), i64 (↑n : Int), fnV 54] (IVal.tup [])
  (List.map encK (symF ltK (Int.toNat (↑r.fst : Int)) (Int.toNat (IntKind.wrap IntKind.i64 ((↑r.fst : Int) + (↑s : Int)))) (Int.toNat (↑n : Int)) r.snd)))])
  fun x x_1 => Tree.done (Exit.exit 4) (EB113 l0 n s r)
theorem tC113r (l0 : Abs.Loc) (n s : Nat) (x : List RKey) (r : Nat × List RKey) : levL prog Proofs.Tryz.f113 7 (IC113 l0 n s x) (TC113r l0 n s x r) finC113 =
  Tree.br (decide ((↑s : Int) < (↑n : Int)))
  (Tree.loop 9
  (LState.mk
  [(8, AVal.imm (IVal.v (Value.int IntKind.i64 (IntKind.wrap IntKind.i64 ((2 : Int) * (↑s : Int)))))), (7, AVal.imm (IVal.v (Value.int IntKind.i64 (0 : Int)))), (6, AVal.imm (i64 (↑s : Int))),
  (2, AVal.imm (fnV 54)), (1, AVal.imm (i64 (↑n : Int))), (0, AVal.own 0 (List.length x))]
  [(0, Entry.brow l0 75 18 (List.map encK x))] 63 8 [])
  (Tree.done (Exit.exit 4) (EB113 l0 n s r))
  (Tree.br (decide (IntKind.wrap IntKind.i64 ((↑r.fst : Int) + (↑s : Int)) < (↑n : Int)))
  (Tree.need
  (List.length (List.map encK r.snd) = List.length r.snd ∧
  ILeL [i64 (↑r.fst : Int), IVal.v (Value.int IntKind.i64 (IntKind.wrap IntKind.i64 ((↑r.fst : Int) + (↑s : Int)))), i64 (↑n : Int), fnV 54]
  [i64 (↑r.fst : Int), i64 (IntKind.wrap IntKind.i64 ((↑r.fst : Int) + (↑s : Int))), i64 (↑n : Int), fnV 54] ∧
  WSpec prog 122 75 18 (List.map encK r.snd) [i64 (↑r.fst : Int), i64 (IntKind.wrap IntKind.i64 ((↑r.fst : Int) + (↑s : Int))), i64 (↑n : Int), fnV 54] (IVal.tup [])
  (List.map encK (symF ltK r.fst (Int.toNat (IntKind.wrap IntKind.i64 ((↑r.fst : Int) + (↑s : Int)))) n r.snd)))
  (Tree.done Exit.normal
  (LState.mk
  [(6, AVal.imm (IVal.v (Value.int IntKind.i64 (IntKind.wrap IntKind.i64 ((↑s : Int) * (2 : Int)))))), (2, AVal.imm (fnV 54)), (1, AVal.imm (i64 (↑n : Int))),
  (0, AVal.own 0 (List.length r.snd))]
  [(0, Entry.brow l0 75 18 (List.map encK (symF ltK r.fst (Int.toNat (IntKind.wrap IntKind.i64 ((↑r.fst : Int) + (↑s : Int)))) n r.snd)))] 63 17 [])))
  (Tree.done Exit.normal
  (LState.mk
  [(6, AVal.imm (IVal.v (Value.int IntKind.i64 (IntKind.wrap IntKind.i64 ((↑s : Int) * (2 : Int)))))), (2, AVal.imm (fnV 54)), (1, AVal.imm (i64 (↑n : Int))),
  (0, AVal.own 0 (List.length r.snd))]
  [(0, Entry.brow l0 75 18 (List.map encK r.snd))] 63 11 []))))
  (Tree.done (Exit.exit 2) (LState.mk [] [(0, Entry.brow l0 75 18 (List.map encK x))] 63 4 [])) := by kernel_rfl
def T113 (l0 : Abs.Loc) (n : Nat) (l : List RKey) (r : Nat × List RKey) (y : List RKey) : Tell :=
  Tell.mk (fun x x_1 => false) (fun x x_1 => Orc.no)
  (fun k =>
  match k with
  | 2 => Tree.done (Exit.exit 0) (EA113 l0 n r)
  | x => Tree.done (Exit.exit 2) (EC113 l0 y))
  (fun x => 0)
  (fun k =>
  match k with
  | 2 => ([8, 7, 6, 2, 1, 0], [0])
  | x => ([6, 2, 1, 0], [0]))
  (oget [(1, 6, 4, Orc.callw [i64 (↑r.fst : Int), i64 (↑n : Int), fnV 54] (IVal.tup []) (List.map encK (ins ltK r.fst n r.snd)))]) fun x k =>
  match k with
  | 2 => Tree.done (Exit.exit 0) (EA113 l0 n r)
  | x => Tree.done (Exit.exit 2) (EC113 l0 y)
theorem t113 (l0 : Abs.Loc) (n : Nat) (l : List RKey) (r : Nat × List RKey) (y : List RKey) : levW prog Proofs.Tryz.f113 l0 75 18 (l.map encK) [i64 n, fnV 54] (T113 l0 n l r y) =
  Tree.loop 2
  (LState.mk
  [(8, AVal.imm (IVal.v (Value.int IntKind.i64 (20 : Int)))), (7, AVal.imm (IVal.v (Value.int IntKind.i64 (0 : Int)))), (6, AVal.imm (IVal.v (Value.int IntKind.i64 (20 : Int)))),
  (2, AVal.imm (fnV 54)), (1, AVal.imm (i64 (↑n : Int))), (0, AVal.own 0 (List.length (List.map encK l)))]
  [(0, Entry.brow l0 75 18 (List.map encK l))] 63 5 [])
  (Tree.done (Exit.exit 0) (EA113 l0 n r))
  (Tree.need
  (List.length (List.map encK r.snd) = List.length r.snd ∧
  ILeL [i64 (↑r.fst : Int), i64 (↑n : Int), fnV 54] [i64 (↑r.fst : Int), i64 (↑n : Int), fnV 54] ∧
  WSpec prog 121 75 18 (List.map encK r.snd) [i64 (↑r.fst : Int), i64 (↑n : Int), fnV 54] (IVal.tup []) (List.map encK (ins ltK r.fst n r.snd)))
  (Tree.loop 7
  (LState.mk [(6, AVal.imm (i64 (20 : Int))), (2, AVal.imm (fnV 54)), (1, AVal.imm (i64 (↑n : Int))), (0, AVal.own 0 (List.length r.snd))]
  [(0, Entry.brow l0 75 18 (List.map encK (ins ltK r.fst n r.snd)))] 63 6 [])
  (Tree.done (Exit.exit 2) (EC113 l0 y)) (Tree.need (eqs []) (Tree.done Exit.ret (lretW l0 75 18 (IVal.tup []) (List.map encK y)))))) := by kernel_rfl
theorem lA113 (l0 : Abs.Loc) (n f : Nat) (l : List RKey) (hf : n < f) (hn : n ≤ l.length) (hl : l.length ≤ 2 ^ 60) (σ : LState) (h : LSub σ (IA113 l0 n 0 l)) : LoopOk prog [] (bodyOf Proofs.Tryz.f113) 2 σ (.done (.exit 0) (EA113 l0 n (blkE ltK n f 0 l))) := by
  refine LoopOk.of_levL (γ := { g : Nat × Nat × List RKey // g.1 ≤ n ∧ n < g.1 + g.2.1 ∧ g.2.2.length = l.length ∧ blkE ltK n g.2.1 g.1 g.2.2 = blkE ltK n f 0 l })
    (fun g => TA113r l0 n g.1.1 g.1.2.2) finA113 (fun g => IA113 l0 n g.1.1 g.1.2.2) (fun g => n - g.1.1) ⟨(0, f, l), by simp, by simpa using hf, rfl, rfl⟩ (by kernel_rfl) h ?_
  rintro ⟨⟨a, f', x⟩, q1, q2, q3, q4⟩
  simp only at q1 q2 q3 q4
  simp only []
  rw [tA113r]
  cases f' with
  | zero => omega
  | succ f' =>
    rw [blkE] at q4
    refine ⟨fun h1 => need_sat ⟨(by simp), ILeL.refl _, w121 _ _ _ ?_ ?_ ?_⟩ ?_, fun h1 => ?_⟩
    · simp at h1; omega
    · omega
    · omega
    · have hc : a + 20 ≤ n := by simp at h1; omega
      rw [if_pos hc] at q4
      have hlen := ins_length ltK a (a + 20) x (by omega)
      have e5 : IntKind.i64.wrap (((a + 20 : Nat) : Int) + 20) = ((a + 20 + 20 : Nat) : Int) := by rw [IntWalk.i64_in _ (by omega)]; omega
      exact ⟨⟨(a + 20, f', ins ltK a (a + 20) x), hc, by simp only; omega, by simp only; omega, q4⟩, by simp only; omega, ⟨congrArg (fun n => AVal.imm (i64 n)) e5, rfl, rfl, rfl, rfl, congrArg (AVal.own 0) hlen.symm, trivial⟩, ⟨rfl, trivial⟩, rfl, rfl, rfl⟩
    · have hc : ¬ a + 20 ≤ n := by simp at h1; omega
      rw [if_neg hc] at q4
      rw [← q4]
      exact ⟨rfl, ⟨rfl, rfl, rfl, rfl, rfl, trivial⟩, ⟨rfl, trivial⟩, rfl, rfl, rfl⟩
theorem lB113 (l0 : Abs.Loc) (n s f : Nat) (l : List RKey) (hs : 0 < s) (hsn : s < n) (hf : n < f) (hn : n ≤ l.length) (hl : l.length ≤ 2 ^ 60) (σ : LState) (h : LSub σ (IB113 l0 n s 0 l)) : LoopOk prog [] (bodyOf Proofs.Tryz.f113) 9 σ (.done (.exit 4) (EB113 l0 n s (mrgE ltK n s f 0 l))) := by
  refine LoopOk.of_levL (γ := { g : Nat × Nat × List RKey // g.1 ≤ n ∧ n < g.1 + g.2.1 ∧ g.2.2.length = l.length ∧ mrgE ltK n s g.2.1 g.1 g.2.2 = mrgE ltK n s f 0 l })
    (fun g => TB113r l0 n s g.1.1 g.1.2.2) finA113 (fun g => IB113 l0 n s g.1.1 g.1.2.2) (fun g => n - g.1.1) ⟨(0, f, l), by simp, by simpa using hf, rfl, rfl⟩ (by kernel_rfl) h ?_
  rintro ⟨⟨a, f', x⟩, q1, q2, q3, q4⟩
  simp only at q1 q2 q3 q4
  simp only []
  have e1 : IntKind.i64.wrap ((a : Int) + (s : Int)) = ((a + s : Nat) : Int) := i64_add (by omega)
  have e2 : IntKind.i64.wrap ((2 : Int) * (s : Int)) = ((2 * s : Nat) : Int) := by rw [IntWalk.i64_in _ (by omega)]; omega
  rw [tB113r]
  cases f' with
  | zero => omega
  | succ f' =>
    rw [mrgE] at q4
    refine ⟨fun h1 => need_sat ⟨(by simp), ILeL.refl _, w122' _ _ _ _ ?_ ?_ ?_ ?_ ?_⟩ ?_, fun h1 => ?_⟩
    · omega
    · rw [e1]; omega
    · rw [e1]; omega
    · simp at h1; omega
    · omega
    · have hc : a + 2 * s ≤ n := by simp at h1; omega
      rw [if_pos hc] at q4
      have hlen := symF_length ltK (l := x) (show a < a + s by omega) (show a + s < a + 2 * s by omega) (by omega)
      simp only [e1, e2, Int.toNat_natCast]
      refine ⟨⟨(a + 2 * s, f', symF ltK a (a + s) (a + 2 * s) x), hc, by simp only; omega, by simp only; omega, q4⟩, by simp only; omega, ⟨?_, rfl, rfl, rfl, rfl, congrArg (AVal.own 0) hlen.symm, trivial⟩, ⟨rfl, trivial⟩, rfl, rfl, rfl⟩
      exact congrArg (fun n => AVal.imm (i64 n)) (i64_add (by omega))
    · have hc : ¬ a + 2 * s ≤ n := by simp at h1; omega
      rw [if_neg hc] at q4
      rw [← q4]
      exact ⟨rfl, ⟨rfl, rfl, rfl, rfl, rfl, trivial⟩, ⟨rfl, trivial⟩, rfl, rfl, rfl⟩
theorem lC113 (l0 : Abs.Loc) (n s f : Nat) (l : List RKey) (hs : 0 < s) (hs2 : s ≤ 2 ^ 60) (hf : n < s + f) (hn : n = l.length) (hl : l.length ≤ 2 ^ 59) (σ : LState) (h : LSub σ (IC113 l0 n s l)) : LoopOk prog [] (bodyOf Proofs.Tryz.f113) 7 σ (.done (.exit 2) (EC113 l0 (mrgs ltK n f s l))) := by
  refine LoopOk.of_levL (γ := { g : Nat × Nat × List RKey // 0 < g.1 ∧ g.1 ≤ 2 ^ 60 ∧ n < g.1 + g.2.1 ∧ g.2.2.length = l.length ∧ mrgs ltK n g.2.1 g.1 g.2.2 = mrgs ltK n f s l })
    (fun g => TC113r l0 n g.1.1 g.1.2.2 (mrgE ltK n g.1.1 (n + 1) 0 g.1.2.2)) finC113 (fun g => IC113 l0 n g.1.1 g.1.2.2) (fun g => n - g.1.1) ⟨(s, f, l), hs, hs2, hf, rfl, rfl⟩ (by kernel_rfl) h ?_
  rintro ⟨⟨s, f', x⟩, q0, q1, q2, q3, q4⟩
  simp only at q0 q1 q2 q3 q4
  simp only []
  have e2 : IntKind.i64.wrap ((2 : Int) * (s : Int)) = ((2 * s : Nat) : Int) := by rw [IntWalk.i64_in _ (by omega)]; omega
  have e3 : IntKind.i64.wrap ((s : Int) * (2 : Int)) = ((2 * s : Nat) : Int) := by rw [IntWalk.i64_in _ (by omega)]; omega
  have hE := mrgE_spec ltK n s q0 (n + 1) 0 x (by omega) (by omega) (by omega)
  have hlB := lB113 l0 n s (n + 1) x q0
  have hlen := mrg_length ltK n s q0 (l := x) (by omega)
  generalize hr : mrgE ltK n s (n + 1) 0 x = r at *
  obtain ⟨r1, r2, r3⟩ := hE
  have e1 : IntKind.i64.wrap ((r.1 : Int) + (s : Int)) = ((r.1 + s : Nat) : Int) := i64_add (by omega)
  rw [tC113r]
  refine ⟨fun h1 => ⟨?_, ⟨fun h2 => need_sat ⟨(by simp), ILeL.refl _, w122' _ _ _ _ ?_ ?_ ?_ ?_ ?_⟩ ?_, fun h2 => ?_⟩⟩, fun h1 => ?_⟩
  · have hc : s < n := by simp at h1; omega
    refine hlB hc (by omega) (by omega) (by omega) _ ⟨⟨?_, rfl, rfl, rfl, rfl, rfl, trivial⟩, ⟨rfl, trivial⟩, rfl, rfl, rfl⟩
    exact congrArg (fun n => AVal.imm (i64 n)) (e2.trans (by omega))
  · omega
  · rw [e1]; omega
  · rw [e1] at h2 ⊢; simp at h2; omega
  · omega
  · omega
  · have hc : s < n := by simp at h1; omega
    have hd : r.1 + s < n := by rw [e1] at h2; simp at h2; omega
    cases f' with
    | zero => omega
    | succ f' =>
      rw [mrgs, if_pos hc] at q4
      rw [if_pos hd] at r3
      simp only [e1, e3, Int.toNat_natCast, r3]
      exact ⟨⟨(2 * s, f', mrg ltK n s (n + 1) 0 x), by simp only; omega, by simp only; omega, by simp only; omega, by simp only; omega, q4⟩, by simp only; omega, ⟨rfl, rfl, rfl, congrArg (AVal.own 0) (by rw [hlen, r2]), trivial⟩, ⟨rfl, trivial⟩, rfl, rfl, rfl⟩
  · have hc : s < n := by simp at h1; omega
    have hd : ¬ r.1 + s < n := by rw [e1] at h2; simp at h2; omega
    cases f' with
    | zero => omega
    | succ f' =>
      rw [mrgs, if_pos hc] at q4
      rw [if_neg hd] at r3
      simp only [e3, r3]
      exact ⟨⟨(2 * s, f', mrg ltK n s (n + 1) 0 x), by simp only; omega, by simp only; omega, by simp only; omega, by simp only; omega, q4⟩, by simp only; omega, ⟨rfl, rfl, rfl, rfl, trivial⟩, ⟨rfl, trivial⟩, rfl, rfl, rfl⟩
  · have hc : ¬ s < n := by simp at h1; omega
    have : mrgs ltK n f' s x = x := by
      cases f' with
      | zero => rfl
      | succ f' => rw [mrgs, if_neg hc]
    rw [this] at q4
    rw [← q4]
    exact ⟨rfl, ⟨trivial, ⟨rfl, trivial⟩, rfl, rfl, rfl⟩⟩
theorem w113 (l : List RKey) (hl : l.length ≤ 2 ^ 59) : WSpec prog 113 75 18 (l.map encK) [i64 l.length, fnV 54] (.tup []) ((sorted ltK l).map encK) := by
  have hE := blkE_spec ltK l.length (l.length + 1) 0 l (Nat.le_refl _) (by omega) (by omega)
  have hA := fun l0 => lA113 l0 l.length (l.length + 1) l (by omega) (Nat.le_refl _) (by omega)
  refine WSpec.tree Proofs.Tryz.f113 (fun l0 => T113 l0 l.length l (blkE ltK l.length (l.length + 1) 0 l) (sorted ltK l)) (by kernel_rfl) (by kernel_rfl) (by kernel_rfl) fun l0 => ?_
  have hA := hA l0
  generalize blkE ltK l.length (l.length + 1) 0 l = r at *
  obtain ⟨r1, r2, r3⟩ := hE
  rw [t113]
  refine ⟨?_, need_sat ⟨(by simp), ILeL.refl _, w121 _ _ _ ?_ ?_ ?_⟩ ⟨?_, need_sat ?_ (lretW_ex ?_ ?_)⟩⟩
  · exact hA _ ⟨⟨rfl, rfl, rfl, rfl, rfl, by simp [tl], trivial⟩, ⟨rfl, trivial⟩, rfl, rfl, rfl⟩
  · omega
  · omega
  · omega
  · rw [r3]
    refine lC113 l0 l.length 20 (l.length + 1) _ (by omega) (by omega) (by omega) ?_ ?_ _ ⟨⟨rfl, rfl, rfl, congrArg (AVal.own 0) ?_, trivial⟩, ⟨rfl, trivial⟩, rfl, rfl, rfl⟩
    · rw [insB_length]
    · rw [insB_length]; exact hl
    · rw [insB_length, r2]
  · exact trivial
  · rfl
  · exact .refl _
theorem w113' (l : List RKey) (n : Int) (hn : n = l.length) (hl : l.length ≤ 2 ^ 59) : WSpec prog 113 75 18 (l.map encK) [i64 n, fnV 54] (.tup []) ((sorted ltK l).map encK) := by
  subst hn; exact w113 l hl
def T94 (l0 : Abs.Loc) (l : List RKey) : Tell :=
  Tell.mk (fun x x_1 => false) (fun x x_1 => Orc.no) (fun x => Tree.fail 1000003 0) (fun x => 0) (fun x => ([], []))
  (oget [(1, 0, 4, Orc.callw [i64 (↑(List.length (List.map encK l)) : Int), fnV 54] (IVal.tup []) (List.map encK (sorted ltK l)))]) fun x x_1 => Tree.fail 1000003 0
theorem t94 (l0 : Abs.Loc) (l : List RKey) : levW prog Proofs.Tryz.f94 l0 75 18 (l.map encK) [fnV 54] (T94 l0 l) =
  Tree.need
  (List.length (List.map encK l) = List.length (List.map encK l) ∧
  ILeL [IVal.v (Value.int IntKind.i64 (↑(List.length (List.map encK l)) : Int)), fnV 54] [i64 (↑(List.length (List.map encK l)) : Int), fnV 54] ∧
  WSpec prog 113 75 18 (List.map encK l) [i64 (↑(List.length (List.map encK l)) : Int), fnV 54] (IVal.tup []) (List.map encK (sorted ltK l)))
  (Tree.need (eqs []) (Tree.done Exit.ret (lretW l0 75 18 (IVal.tup []) (List.map encK (sorted ltK l))))) := by kernel_rfl
theorem w94 (l : List RKey) (hl : l.length ≤ 2 ^ 59) : WSpec prog 94 75 18 (l.map encK) [fnV 54] (.tup []) ((sorted ltK l).map encK) := by
  refine WSpec.tree Proofs.Tryz.f94 (fun l0 => T94 l0 l) (by kernel_rfl) (by kernel_rfl) (by kernel_rfl) fun l0 => ?_
  rw [t94]
  refine need_sat ⟨(by simp), ILeL.refl _, w113' _ _ ?_ ?_⟩ (need_sat ?_ (lretW_ex ?_ ?_))
  · simp
  · exact hl
  · exact trivial
  · rfl
  · exact .refl _
end Gp
