/- Part 2 of the walk and of the plain law of DiffComposes. -/
import Derived.Test.YtcccdohpepnfjaaGreatW1
set_option maxRecDepth 100000
set_option maxHeartbeats 0
set_option linter.unusedVariables false
set_option linter.unusedSimpArgs false
open Go Go.Abs
namespace Gp
section
variable {α : Type} [Inhabited α]
def swp (l : List α) (i j : Nat) : List α := (l.set i (l.getD j default)).set j (l.getD i default)
theorem swp_length (l : List α) (i j : Nat) : (swp l i j).length = l.length := by simp [swp]
theorem swp_getD {l : List α} {i j : Nat} (hi : i < l.length) (hj : j < l.length) (x : Nat) : (swp l i j).getD x default = if x = j then l.getD i default else if x = i then l.getD j default else l.getD x default := by
  simp only [swp, List.getD_eq_getElem?_getD, List.getElem?_set, List.length_set]
  by_cases h1 : j = x
  · subst h1; simp [hj]
  · have h1' : ¬ x = j := fun e => h1 e.symm
    by_cases h2 : i = x
    · subst h2; simp [hi, h1, h1']
    · have h2' : ¬ x = i := fun e => h2 e.symm
      simp [h1, h2, h1', h2']
theorem swp_perm {l : List α} {i j : Nat} (hi : i < l.length) (hj : j < l.length) : (swp l i j).Perm l := by
  have := List.set_set_perm hi hj
  simpa [swp, List.getD_eq_getElem?_getD, List.getElem?_eq_getElem hi, List.getElem?_eq_getElem hj] using this
def swR (l : List α) (a b : Nat) : Nat → List α
  | 0 => l
  | n + 1 => swp (swR l a b n) (a + n) (b + n)
theorem swR_length (l : List α) (a b : Nat) : ∀ n, (swR l a b n).length = l.length
  | 0 => rfl
  | n + 1 => by rw [swR, swp_length, swR_length]
theorem swR_perm (l : List α) (a b : Nat) : ∀ n, a + n ≤ l.length → b + n ≤ l.length → (swR l a b n).Perm l
  | 0, _, _ => .refl _
  | n + 1, h1, h2 => by
    rw [swR]
    exact (swp_perm (by rw [swR_length]; omega) (by rw [swR_length]; omega)).trans (swR_perm l a b n (by omega) (by omega))
theorem swR_getD (l : List α) (a b : Nat) : ∀ n, a + n ≤ b → b + n ≤ l.length → ∀ x, (swR l a b n).getD x default = if a ≤ x ∧ x < a + n then l.getD (b + (x - a)) default else if b ≤ x ∧ x < b + n then l.getD (a + (x - b)) default else l.getD x default
  | 0, _, _, x => by rw [swR, if_neg (by omega), if_neg (by omega)]
  | n + 1, h1, h2, x => by
    have ih := swR_getD l a b n (by omega) (by omega)
    rw [swR, swp_getD (by rw [swR_length]; omega) (by rw [swR_length]; omega), ih, ih, ih]
    (repeat' split) <;> first | rfl | omega | (congr 1; omega)
def rot (m : Nat) : Nat → Nat → Nat → List α → List α
  | 0, _, _, l => l
  | f + 1, i, j, l => if i = j then swR l (m - i) m i else if j < i then rot m f (i - j) j (swR l (m - i) m j) else rot m f i (j - i) (swR l (m - i) (m + j - i) i)
theorem rot_length (m : Nat) : ∀ f i j (l : List α), (rot m f i j l).length = l.length
  | 0, _, _, _ => rfl
  | f + 1, i, j, l => by
    rw [rot]
    split
    · rw [swR_length]
    · split
      · rw [rot_length, swR_length]
      · rw [rot_length, swR_length]
theorem rot_perm (m : Nat) : ∀ f i j (l : List α), i ≤ m → m + j ≤ l.length → (rot m f i j l).Perm l
  | 0, _, _, _, _, _ => .refl _
  | f + 1, i, j, l, h1, h2 => by
    rw [rot]
    split
    · exact swR_perm _ _ _ _ (by omega) (by omega)
    · split
      · exact (rot_perm m f _ _ _ (by omega) (by rw [swR_length]; omega)).trans (swR_perm _ _ _ _ (by omega) (by omega))
      · exact (rot_perm m f _ _ _ (by omega) (by rw [swR_length]; omega)).trans (swR_perm _ _ _ _ (by omega) (by omega))
theorem rot_getD (m : Nat) : ∀ f i j (l : List α), 0 < i → 0 < j → i + j ≤ f → i ≤ m → m + j ≤ l.length → ∀ x, (rot m f i j l).getD x default = if m - i ≤ x ∧ x < m - i + j then l.getD (x + i) default else if m - i + j ≤ x ∧ x < m + j then l.getD (x - j) default else l.getD x default
  | 0, i, j, l, h1, h2, h3, _, _, x => by omega
  | f + 1, i, j, l, h1, h2, h3, h4, h5, x => by
    rw [rot]
    by_cases e : i = j
    · subst e
      rw [if_pos rfl, swR_getD _ _ _ _ (by omega) (by omega)]
      (repeat' split) <;> first | rfl | omega | (congr 1; omega)
    · rw [if_neg e]
      by_cases e2 : j < i
      · rw [if_pos e2, rot_getD m f _ _ _ (by omega) h2 (by omega) (by omega) (by rw [swR_length]; omega)]
        simp only [swR_getD l (m - i) m j (by omega) (by omega)]
        (repeat' split) <;> first | rfl | omega | (congr 1; omega)
      · rw [if_neg e2, rot_getD m f _ _ _ h1 (by omega) (by omega) (by omega) (by rw [swR_length]; omega)]
        simp only [swR_getD l (m - i) (m + j - i) i (by omega) (by omega)]
        (repeat' split) <;> first | rfl | omega | (congr 1; omega)
def rotE (m : Nat) : Nat → Nat → Nat → List α → Nat × List α
  | 0, i, _, l => (i, l)
  | f + 1, i, j, l => if i = j then (i, l) else if j < i then rotE m f (i - j) j (swR l (m - i) m j) else rotE m f i (j - i) (swR l (m - i) (m + j - i) i)
theorem rotE_spec (m : Nat) : ∀ f i j (l : List α), 0 < i → 0 < j → i + j ≤ f → i ≤ m → m + j ≤ l.length →
    0 < (rotE m f i j l).1 ∧ (rotE m f i j l).1 ≤ m ∧ m + (rotE m f i j l).1 ≤ l.length ∧ (rotE m f i j l).2.length = l.length ∧ swR (rotE m f i j l).2 (m - (rotE m f i j l).1) m (rotE m f i j l).1 = rot m f i j l
  | 0, i, j, l, h1, h2, h3, _, _ => by omega
  | f + 1, i, j, l, h1, h2, h3, h4, h5 => by
    rw [rotE, rot]
    by_cases e : i = j
    · subst e; rw [if_pos rfl, if_pos rfl]; exact ⟨h1, h4, h5, rfl, rfl⟩
    · rw [if_neg e, if_neg e]
      by_cases e2 : j < i
      · rw [if_pos e2, if_pos e2]
        have := rotE_spec m f (i - j) j (swR l (m - i) m j) (by omega) h2 (by omega) (by omega) (by rw [swR_length]; omega)
        rw [swR_length] at this; exact this
      · rw [if_neg e2, if_neg e2]
        have := rotE_spec m f i (j - i) (swR l (m - i) (m + j - i) i) h1 (by omega) (by omega) (by omega) (by rw [swR_length]; omega)
        rw [swR_length] at this; exact this
structure Tot (lt : α → α → Bool) : Prop where
  asy : ∀ x y, lt x y = true → lt y x = false
  tr : ∀ x y z, lt y x = false → lt z y = false → lt z x = false
theorem Tot.rfl' {β : Type} {lt : β → β → Bool} (h : Tot lt) (x : β) : lt x x = false := by
  cases hx : lt x x with
  | false => rfl
  | true => have := h.asy _ _ hx; rw [hx] at this; exact this
def Srt (lt : α → α → Bool) (l : List α) (a b : Nat) : Prop := ∀ x y, a ≤ x → x < y → y < b → lt (l.getD y default) (l.getD x default) = false
theorem Srt.le {lt : α → α → Bool} (ht : Tot lt) {l : List α} {a b x y : Nat} (h : Srt lt l a b) (h1 : a ≤ x) (h2 : x ≤ y) (h3 : y < b) : lt (l.getD y default) (l.getD x default) = false := by
  by_cases e : x = y
  · subst e; exact ht.rfl' _
  · exact h x y h1 (by omega) h3
structure Seg (l' l : List α) (a b : Nat) : Prop where
  out : ∀ x, x < a ∨ b ≤ x → l'.getD x default = l.getD x default
  inn : ∀ x, a ≤ x → x < b → ∃ y, a ≤ y ∧ y < b ∧ l'.getD x default = l.getD y default
  perm : l'.Perm l
theorem Seg.len {l' l : List α} {a b : Nat} (h : Seg l' l a b) : l'.length = l.length := h.perm.length_eq
theorem Seg.refl (l : List α) (a b : Nat) : Seg l l a b := ⟨fun _ _ => rfl, fun x h1 h2 => ⟨x, h1, h2, rfl⟩, .refl _⟩
theorem Seg.trans {l l' l'' : List α} {a b : Nat} (h : Seg l'' l' a b) (h' : Seg l' l a b) : Seg l'' l a b :=
  ⟨fun x hx => (h.out x hx).trans (h'.out x hx), fun x h1 h2 => by
    obtain ⟨y, y1, y2, y3⟩ := h.inn x h1 h2
    obtain ⟨z, z1, z2, z3⟩ := h'.inn y y1 y2
    exact ⟨z, z1, z2, y3.trans z3⟩, h.perm.trans h'.perm⟩
theorem Seg.wide {l l' : List α} {a b a' b' : Nat} (h : Seg l' l a b) (h1 : a' ≤ a) (h2 : b ≤ b') : Seg l' l a' b' :=
  ⟨fun x hx => h.out x (by omega), fun x g1 g2 => by
    by_cases hx : a ≤ x ∧ x < b
    · obtain ⟨y, y1, y2, y3⟩ := h.inn x hx.1 hx.2
      exact ⟨y, by omega, by omega, y3⟩
    · exact ⟨x, g1, g2, h.out x (by omega)⟩, h.perm⟩
theorem Seg.swp {l : List α} {i j a b : Nat} (hi : i < l.length) (hj : j < l.length) (h1 : a ≤ i) (h2 : i < b) (h3 : a ≤ j) (h4 : j < b) : Seg (swp l i j) l a b :=
  ⟨fun x hx => by rw [swp_getD hi hj, if_neg (by omega), if_neg (by omega)], fun x g1 g2 => by
    rw [swp_getD hi hj]
    split
    · exact ⟨i, h1, h2, rfl⟩
    · split
      · exact ⟨j, h3, h4, rfl⟩
      · exact ⟨x, g1, g2, rfl⟩, swp_perm hi hj⟩
theorem Seg.srt {lt : α → α → Bool} {l l' : List α} {a b c d : Nat} (h : Seg l' l a b) (hd : d ≤ a ∨ b ≤ c) (hs : Srt lt l c d) : Srt lt l' c d := fun x y h1 h2 h3 => by
  rw [h.out x (by omega), h.out y (by omega)]; exact hs x y h1 h2 h3
def bs (p : Nat → Bool) : Nat → Nat → Nat → Nat
  | 0, i, _ => i
  | f + 1, i, j => if i < j then (if p ((i + j) / 2) = true then bs p f ((i + j) / 2 + 1) j else bs p f i ((i + j) / 2)) else i
theorem bs_spec (p : Nat → Bool) : ∀ f i j, j - i ≤ f → i ≤ j → (∀ x y, i ≤ x → x ≤ y → y < j → p y = true → p x = true) →
    i ≤ bs p f i j ∧ bs p f i j ≤ j ∧ (∀ x, i ≤ x → x < bs p f i j → p x = true) ∧ (∀ x, bs p f i j ≤ x → x < j → p x = false)
  | 0, i, j, h1, h2, h3 => by
    have e : i = j := by omega
    subst e
    exact ⟨Nat.le_refl _, Nat.le_refl _, fun x h4 h5 => by simp only [bs] at h5; omega, fun x h4 h5 => by simp only [bs] at h4; omega⟩
  | f + 1, i, j, h1, h2, h3 => by
    rw [bs]
    by_cases hij : i < j
    · rw [if_pos hij]
      cases hp : p ((i + j) / 2) with
      | true =>
        rw [if_pos rfl]
        obtain ⟨g1, g2, g3, g4⟩ := bs_spec p f ((i + j) / 2 + 1) j (by omega) (by omega) (fun x y a1 a2 a3 a4 => h3 x y (by omega) a2 a3 a4)
        refine ⟨by omega, g2, fun x a1 a2 => ?_, g4⟩
        by_cases hx : (i + j) / 2 + 1 ≤ x
        · exact g3 x hx a2
        · exact h3 x _ a1 (by omega) (by omega) hp
      | false =>
        rw [if_neg (by simp)]
        obtain ⟨g1, g2, g3, g4⟩ := bs_spec p f i ((i + j) / 2) (by omega) (by omega) (fun x y a1 a2 a3 a4 => h3 x y a1 a2 (by omega) a4)
        refine ⟨g1, by omega, g3, fun x a1 a2 => ?_⟩
        by_cases hx : x < (i + j) / 2
        · exact g4 x a1 hx
        · cases hpx : p x with
          | false => rfl
          | true => have := h3 ((i + j) / 2) x (by omega) (by omega) a2 hpx; rw [hp] at this; exact this.symm
    · rw [if_neg hij]
      exact ⟨Nat.le_refl _, by omega, fun x h4 h5 => by omega, fun x h4 h5 => by omega⟩
theorem bs_bnd (p : Nat → Bool) : ∀ f i j, i ≤ j → i ≤ bs p f i j ∧ bs p f i j ≤ j
  | 0, i, j, h => ⟨Nat.le_refl _, h⟩
  | f + 1, i, j, h => by
    rw [bs]
    split
    · split
      · have := bs_bnd p f ((i + j) / 2 + 1) j (by omega); omega
      · have := bs_bnd p f i ((i + j) / 2) (by omega); omega
    · exact ⟨Nat.le_refl _, h⟩
def insJ (lt : α → α → Bool) (a : Nat) : Nat → List α → List α
  | 0, l => l
  | j + 1, l => if a < j + 1 ∧ lt (l.getD (j + 1) default) (l.getD j default) = true then insJ lt a j (swp l (j + 1) j) else l
def insR (lt : α → α → Bool) (a : Nat) (l : List α) : Nat → List α
  | 0 => l
  | n + 1 => insJ lt a (a + 1 + n) (insR lt a l n)
def ins (lt : α → α → Bool) (a b : Nat) (l : List α) : List α := insR lt a l (b - (a + 1))
theorem insJ_seg (lt : α → α → Bool) (a : Nat) : ∀ j (l : List α) b, j < b → b ≤ l.length → Seg (insJ lt a j l) l a b
  | 0, l, b, _, _ => .refl _ _ _
  | j + 1, l, b, h1, h2 => by
    rw [insJ]
    split
    · rename_i h
      exact (insJ_seg lt a j _ b (by omega) (by rw [swp_length]; omega)).trans (.swp (by omega) (by omega) (by omega) (by omega) (by omega) (by omega))
    · exact .refl _ _ _
theorem insJ_srt {lt : α → α → Bool} (ht : Tot lt) (a : Nat) : ∀ j (l : List α) b, a ≤ j → j < b → b ≤ l.length →
    (∀ x y, a ≤ x → x < y → y < b → x ≠ j → y ≠ j → lt (l.getD y default) (l.getD x default) = false) → (∀ y, j < y → y < b → lt (l.getD y default) (l.getD j default) = false) → Srt lt (insJ lt a j l) a b
  | 0, l, b, h0, h1, h2, h3, h4 => by
    rw [insJ]
    intro x y g1 g2 g3
    by_cases hx : x = 0
    · subst hx; exact h4 y g2 g3
    · exact h3 x y g1 g2 g3 hx (by omega)
  | j + 1, l, b, h0, h1, h2, h3, h4 => by
    rw [insJ]
    by_cases hc : a < j + 1 ∧ lt (l.getD (j + 1) default) (l.getD j default) = true
    · rw [if_pos hc]
      have sw := swp_getD (l := l) (i := j + 1) (j := j) (by omega) (by omega)
      refine insJ_srt ht a j _ b (by omega) (by omega) (by rw [swp_length]; omega) (fun x y g1 g2 g3 g4 g5 => ?_) (fun y g1 g2 => ?_)
      · rw [sw, sw]
        by_cases hy : y = j + 1
        · subst hy
          rw [if_neg (by omega), if_pos rfl, if_neg g4, if_neg (by omega)]
          exact h3 x j g1 (by omega) (by omega) (by omega) (by omega)
        · rw [if_neg g5, if_neg hy, if_neg g4]
          by_cases hx : x = j + 1
          · subst hx
            rw [if_pos rfl]
            exact h3 j y (by omega) (by omega) g3 (by omega) hy
          · rw [if_neg hx]; exact h3 x y g1 g2 g3 hx hy
      · rw [sw, sw, if_neg (by omega), if_pos rfl]
        by_cases hy : y = j + 1
        · rw [if_pos hy]; exact ht.asy _ _ hc.2
        · rw [if_neg hy]; exact h4 y (by omega) g2
    · rw [if_neg hc]
      intro x y g1 g2 g3
      by_cases hx : x = j + 1
      · subst hx; exact h4 y g2 g3
      · by_cases hy : y = j + 1
        · subst hy
          have hj : lt (l.getD (j + 1) default) (l.getD j default) = false := by
            cases hl : lt (l.getD (j + 1) default) (l.getD j default) with
            | false => rfl
            | true => exact absurd ⟨by omega, hl⟩ hc
          by_cases hxj : x = j
          · subst hxj; exact hj
          · exact ht.tr _ _ _ (h3 x j g1 (by omega) (by omega) hx (by omega)) hj
        · exact h3 x y g1 g2 g3 hx hy
theorem insR_spec {lt : α → α → Bool} (ht : Tot lt) (a : Nat) (l : List α) : ∀ n, a + 1 + n ≤ l.length → Seg (insR lt a l n) l a (a + 1 + n) ∧ Srt lt (insR lt a l n) a (a + 1 + n)
  | 0, h => ⟨.refl _ _ _, fun x y h1 h2 h3 => by omega⟩
  | n + 1, h => by
    obtain ⟨g1, g2⟩ := insR_spec ht a l n (by omega)
    have hl := g1.len
    rw [insR]
    refine ⟨(insJ_seg lt a _ _ _ (by omega) (by omega)).trans (g1.wide (by omega) (by omega)), insJ_srt ht a _ _ _ (by omega) (by omega) (by omega) (fun x y h1 h2 h3 h4 h5 => g2 x y h1 h2 (by omega)) (fun y h1 h2 => by omega)⟩
theorem ins_spec {lt : α → α → Bool} (ht : Tot lt) {a b : Nat} {l : List α} (h : b ≤ l.length) : Seg (ins lt a b l) l a b ∧ Srt lt (ins lt a b l) a b := by
  unfold ins
  by_cases hab : a + 1 ≤ b
  · have := insR_spec ht a l (b - (a + 1)) (by omega)
    rw [show a + 1 + (b - (a + 1)) = b by omega] at this
    exact this
  · rw [show b - (a + 1) = 0 by omega]
    exact ⟨.refl _ _ _, fun x y h1 h2 h3 => by omega⟩
theorem ins_length (lt : α → α → Bool) (a b : Nat) (l : List α) (h : b ≤ l.length) : (ins lt a b l).length = l.length := by
  have key : ∀ n, a + 1 + n ≤ l.length → (insR lt a l n).length = l.length := by
    intro n
    induction n with
    | zero => intro _; rfl
    | succ n ih => intro h; rw [insR, (insJ_seg lt a (a + 1 + n) (insR lt a l n) (a + 1 + n + 1) (by omega) (by rw [ih (by omega)]; omega)).len]; exact ih (by omega)
  unfold ins
  by_cases hab : a + 1 ≤ b
  · exact key _ (by omega)
  · rw [show b - (a + 1) = 0 by omega]; rfl
theorem insR_length (lt : α → α → Bool) (a : Nat) (l : List α) : ∀ n, a + 1 + n ≤ l.length → (insR lt a l n).length = l.length
  | 0, _ => rfl
  | n + 1, h => by
    have ih := insR_length lt a l n (by omega)
    rw [insR, (insJ_seg lt a (a + 1 + n) (insR lt a l n) (a + 1 + n + 1) (by omega) (by omega)).len, ih]
def bubU (a : Nat) (l : List α) : Nat → List α
  | 0 => l
  | n + 1 => swp (bubU a l n) (a + n) (a + n + 1)
def bubD (m : Nat) (l : List α) : Nat → List α
  | 0 => l
  | n + 1 => swp (bubD m l n) (m - n) (m - n - 1)
theorem bubU_spec (a : Nat) (l : List α) : ∀ n, a + n < l.length → Seg (bubU a l n) l a (a + n + 1) ∧ ∀ x, (bubU a l n).getD x default = if a ≤ x ∧ x < a + n then l.getD (x + 1) default else if x = a + n then l.getD a default else l.getD x default
  | 0, h => ⟨.refl _ _ _, fun x => by rw [bubU, if_neg (by omega)]; split <;> first | rfl | (congr 1) | (congr 1; omega)⟩
  | n + 1, h => by
    obtain ⟨g1, g2⟩ := bubU_spec a l n (by omega)
    have hl := g1.len
    refine ⟨(Seg.swp (by omega) (by omega) (by omega) (by omega) (by omega) (by omega)).trans (g1.wide (by omega) (by omega)), fun x => ?_⟩
    rw [bubU, swp_getD (by omega) (by omega), g2, g2, g2]
    (repeat' split) <;> first | rfl | omega | (congr 1; omega)
theorem bubD_spec (m : Nat) (l : List α) (hm : m < l.length) : ∀ n, n ≤ m → Seg (bubD m l n) l (m - n) (m + 1) ∧ ∀ x, (bubD m l n).getD x default = if m - n < x ∧ x ≤ m then l.getD (x - 1) default else if x = m - n then l.getD m default else l.getD x default
  | 0, h => ⟨.refl _ _ _, fun x => by rw [bubD, if_neg (by omega)]; split <;> first | rfl | (congr 1) | (congr 1; omega)⟩
  | n + 1, h => by
    obtain ⟨g1, g2⟩ := bubD_spec m l hm n (by omega)
    have hl := g1.len
    refine ⟨(Seg.swp (by omega) (by omega) (by omega) (by omega) (by omega) (by omega)).trans (g1.wide (by omega) (by omega)), fun x => ?_⟩
    rw [bubD, swp_getD (by omega) (by omega), g2, g2, g2]
    (repeat' split) <;> first | rfl | omega | (congr 1; omega)
def symS (lt : α → α → Bool) (a m b : Nat) (l : List α) : Nat :=
  bs (fun c => !lt (l.getD ((a + b) / 2 + m - 1 - c) default) (l.getD c default)) (b - a) (if (a + b) / 2 < m then (a + b) / 2 + m - b else a) (if (a + b) / 2 < m then (a + b) / 2 else m)
def symR (m s e : Nat) (l : List α) : List α := if s < m ∧ m < e then rot m (e - s) (m - s) (e - m) l else l
def sym (lt : α → α → Bool) : Nat → Nat → Nat → Nat → List α → List α
  | 0, _, _, _, l => l
  | f + 1, a, m, b, l =>
    if m - a = 1 then bubU a l (bs (fun h => lt (l.getD h default) (l.getD a default)) (b - m) m b - 1 - a)
    else if b - m = 1 then bubD m l (m - bs (fun h => !lt (l.getD m default) (l.getD h default)) (m - a) a m)
    else
      let s := symS lt a m b l
      let e := (a + b) / 2 + m - s
      let l1 := symR m s e l
      let l2 := if a < s ∧ s < (a + b) / 2 then sym lt f a s ((a + b) / 2) l1 else l1
      if (a + b) / 2 < e ∧ e < b then sym lt f ((a + b) / 2) e b l2 else l2
theorem sym_fuel (lt : α → α → Bool) : ∀ f a m b (l : List α), b - a ≤ f → a < m → m < b → sym lt (f + 1) a m b l = sym lt f a m b l
  | 0, a, m, b, l, h, h1, h2 => by omega
  | f + 1, a, m, b, l, h, h1, h2 => by
    have ih : ∀ a' m' b' (l' : List α), b' - a' ≤ f → a' < m' → m' < b' → sym lt (f + 1) a' m' b' l' = sym lt f a' m' b' l' := fun a' m' b' l' => sym_fuel lt f a' m' b' l'
    rw [sym, sym.eq_def lt (f + 1)]
    simp only
    by_cases c1 : m - a = 1
    · rw [if_pos c1, if_pos c1]
    · rw [if_neg c1, if_neg c1]
      by_cases c2 : b - m = 1
      · rw [if_pos c2, if_pos c2]
      · rw [if_neg c2, if_neg c2]
        have e1 : ∀ x, (if a < symS lt a m b l ∧ symS lt a m b l < (a + b) / 2 then sym lt (f + 1) a (symS lt a m b l) ((a + b) / 2) x else x) = (if a < symS lt a m b l ∧ symS lt a m b l < (a + b) / 2 then sym lt f a (symS lt a m b l) ((a + b) / 2) x else x) := by
          intro x
          split
          · rename_i hc; exact ih _ _ _ _ (by omega) hc.1 hc.2
          · rfl
        rw [e1]
        split
        · rename_i hc; exact ih _ _ _ _ (by omega) hc.1 hc.2
        · rfl
def symF (lt : α → α → Bool) (a m b : Nat) (l : List α) : List α := sym lt (b - a) a m b l
theorem symF_eq (lt : α → α → Bool) {f a m b : Nat} {l : List α} (h : b - a ≤ f) (h1 : a < m) (h2 : m < b) : sym lt f a m b l = symF lt a m b l := by
  unfold symF
  obtain ⟨d, rfl⟩ : ∃ d, f = b - a + d := ⟨f - (b - a), by omega⟩
  clear h
  induction d with
  | zero => rfl
  | succ d ih => rw [show b - a + (d + 1) = (b - a + d) + 1 by omega, sym_fuel lt _ _ _ _ _ (by omega) h1 h2, ih]
theorem symR_spec {m s e : Nat} {l : List α} (h1 : s ≤ m) (h2 : m ≤ e) (h3 : e ≤ l.length) : Seg (symR m s e l) l s e ∧ ∀ x, (symR m s e l).getD x default = if s ≤ x ∧ x < s + (e - m) then l.getD (x + (m - s)) default else if s + (e - m) ≤ x ∧ x < e then l.getD (x - (e - m)) default else l.getD x default := by
  have key : ∀ x, (symR m s e l).getD x default = if s ≤ x ∧ x < s + (e - m) then l.getD (x + (m - s)) default else if s + (e - m) ≤ x ∧ x < e then l.getD (x - (e - m)) default else l.getD x default := by
    intro x
    unfold symR
    by_cases hc : s < m ∧ m < e
    · rw [if_pos hc, rot_getD m _ _ _ _ (by omega) (by omega) (by omega) (by omega) (by omega)]
      (repeat' split) <;> first | rfl | omega | (congr 1; omega)
    · rw [if_neg hc]
      (repeat' split) <;> first | rfl | omega | (congr 1; omega)
  refine ⟨⟨fun x hx => ?_, fun x g1 g2 => ?_, ?_⟩, key⟩
  · rw [key, if_neg (by omega), if_neg (by omega)]
  · rw [key]
    split
    · exact ⟨x + (m - s), by omega, by omega, rfl⟩
    · split
      · exact ⟨x - (e - m), by omega, by omega, rfl⟩
      · exact ⟨x, g1, g2, rfl⟩
  · unfold symR
    split
    · exact rot_perm _ _ _ _ _ (by omega) (by omega)
    · exact .refl _
theorem sym_length (lt : α → α → Bool) : ∀ f a m b (l : List α), a < m → m < b → b ≤ l.length → (sym lt f a m b l).length = l.length
  | 0, a, m, b, l, _, _, _ => rfl
  | f + 1, a, m, b, l, h1, h2, h3 => by
    rw [sym]
    split
    · have := bs_bnd (fun h => lt (l.getD h default) (l.getD a default)) (b - m) m b (by omega)
      exact (bubU_spec a l _ (by omega)).1.len
    · split
      · exact (bubD_spec m l (by omega) _ (by omega)).1.len
      · have hb1 : (if (a + b) / 2 < m then (a + b) / 2 + m - b else a) ≤ symS lt a m b l ∧ symS lt a m b l ≤ (if (a + b) / 2 < m then (a + b) / 2 else m) := bs_bnd _ _ _ _ (by split <;> omega)
        generalize symS lt a m b l = s at *
        have s1 : a ≤ s := by have := hb1.1; split at this <;> omega
        have s2 : s ≤ m := by have := hb1.2; split at this <;> omega
        have s3 : s ≤ (a + b) / 2 := by have := hb1.2; split at this <;> omega
        have e2 : (a + b) / 2 + m - s ≤ b := by have := hb1.1; split at this <;> omega
        simp only
        have k1 := (symR_spec (l := l) s2 (show m ≤ (a + b) / 2 + m - s by omega) (by omega)).1.len
        generalize symR m s ((a + b) / 2 + m - s) l = l1 at *
        have k2 : (if a < s ∧ s < (a + b) / 2 then sym lt f a s ((a + b) / 2) l1 else l1).length = l.length := by
          split
          · rename_i hc; rw [sym_length lt f _ _ _ _ hc.1 hc.2 (by omega), k1]
          · exact k1
        generalize (if a < s ∧ s < (a + b) / 2 then sym lt f a s ((a + b) / 2) l1 else l1) = l2 at *
        split
        · rename_i hc; rw [sym_length lt f _ _ _ _ hc.1 hc.2 (by omega), k2]
        · exact k2
theorem symF_length (lt : α → α → Bool) {a m b : Nat} {l : List α} (h1 : a < m) (h2 : m < b) (h3 : b ≤ l.length) : (symF lt a m b l).length = l.length := sym_length lt _ _ _ _ _ h1 h2 h3
theorem sym_spec {lt : α → α → Bool} (ht : Tot lt) : ∀ f a m b (l : List α), b - a ≤ f → a < m → m < b → b ≤ l.length → Srt lt l a m → Srt lt l m b → Seg (sym lt f a m b l) l a b ∧ Srt lt (sym lt f a m b l) a b
  | 0, a, m, b, l, h1, h2, h3, _, _, _ => by omega
  | f + 1, a, m, b, l, h1, h2, h3, h4, sA, sB => by
    rw [sym]
    by_cases c1 : m - a = 1
    · rw [if_pos c1]
      have hm : m = a + 1 := by omega
      subst hm
      obtain ⟨g1, g2, g3, g4⟩ := bs_spec (fun h => lt (l.getD h default) (l.getD a default)) (b - (a + 1)) (a + 1) b (Nat.le_refl _) (by omega) (fun x y a1 a2 a3 a4 => by
        cases hx : lt (l.getD x default) (l.getD a default) with
        | true => rfl
        | false =>
          have := ht.tr _ _ _ hx (sB.le ht a1 a2 a3)
          rw [this] at a4; cases a4)
      generalize bs (fun h => lt (l.getD h default) (l.getD a default)) (b - (a + 1)) (a + 1) b = i at *
      obtain ⟨k1, k2⟩ := bubU_spec a l (i - 1 - a) (by omega)
      refine ⟨k1.wide (Nat.le_refl _) (by omega), fun x y q1 q2 q3 => ?_⟩
      rw [k2, k2]
      by_cases y1 : y < a + (i - 1 - a)
      · rw [if_pos (by omega), if_pos (by omega)]; exact sB _ _ (by omega) (by omega) (by omega)
      · rw [if_neg (by omega)]
        by_cases y2 : y = a + (i - 1 - a)
        · rw [if_pos y2, if_pos (by omega)]; exact ht.asy _ _ (g3 (x + 1) (by omega) (by omega))
        · rw [if_neg y2]
          by_cases x1 : x < a + (i - 1 - a)
          · rw [if_pos (by omega)]; exact sB _ _ (by omega) (by omega) q3
          · rw [if_neg (by omega)]
            by_cases x2 : x = a + (i - 1 - a)
            · rw [if_pos x2]; exact g4 y (by omega) q3
            · rw [if_neg x2]; exact sB _ _ (by omega) q2 q3
    · rw [if_neg c1]
      by_cases c2 : b - m = 1
      · rw [if_pos c2]
        have hb : b = m + 1 := by omega
        subst hb
        obtain ⟨g1, g2, g3, g4⟩ := bs_spec (fun h => !lt (l.getD m default) (l.getD h default)) (m - a) a m (Nat.le_refl _) (by omega) (fun x y a1 a2 a3 a4 => by
          simp only [Bool.not_eq_true'] at *
          exact ht.tr _ _ _ (sA.le ht a1 a2 a3) a4)
        generalize bs (fun h => !lt (l.getD m default) (l.getD h default)) (m - a) a m = i at *
        obtain ⟨k1, k2⟩ := bubD_spec m l (by omega) (m - i) (by omega)
        refine ⟨k1.wide (by omega) (by omega), fun x y q1 q2 q3 => ?_⟩
        rw [k2, k2]
        by_cases x1 : m - (m - i) < x
        · rw [if_pos (by omega), if_pos (by omega)]; exact sA _ _ (by omega) (by omega) (by omega)
        · rw [if_neg (c := m - (m - i) < x ∧ x ≤ m) (by omega)]
          by_cases x2 : x = m - (m - i)
          · rw [if_pos x2, if_pos (by omega)]
            have := g4 (y - 1) (by omega) (by omega)
            simp only [Bool.not_eq_false'] at this
            exact ht.asy _ _ this
          · rw [if_neg x2]
            by_cases y1 : m - (m - i) < y
            · rw [if_pos (by omega)]; exact sA _ _ q1 (by omega) (by omega)
            · rw [if_neg (by omega)]
              by_cases y2 : y = m - (m - i)
              · rw [if_pos y2]
                have := g3 x q1 (by omega)
                simp only [Bool.not_eq_true'] at this
                exact this
              · rw [if_neg y2]; exact sA _ _ q1 q2 (by omega)
      · rw [if_neg c2]
        have hs0 : (a + b) / 2 ≤ (a + b) / 2 := Nat.le_refl _
        obtain ⟨g1, g2, g3, g4⟩ := bs_spec (fun c => !lt (l.getD ((a + b) / 2 + m - 1 - c) default) (l.getD c default)) (b - a) (if (a + b) / 2 < m then (a + b) / 2 + m - b else a) (if (a + b) / 2 < m then (a + b) / 2 else m)
          (by split <;> omega) (by split <;> omega) (fun x y a1 a2 a3 a4 => by
            simp only [Bool.not_eq_true'] at *
            have b1 : a ≤ x := by split at a1 <;> omega
            have b2 : y < m := by split at a3 <;> omega
            have b3 : (a + b) / 2 + m - 1 - x < b := by split at a1 <;> omega
            have b4 : m ≤ (a + b) / 2 + m - 1 - y := by split at a3 <;> omega
            exact ht.tr _ _ _ (sA.le ht b1 a2 b2) (ht.tr _ _ _ a4 (sB.le ht b4 (by omega) b3)))
        change _ ≤ symS lt a m b l at g1
        change symS lt a m b l ≤ _ at g2
        change ∀ x, _ ≤ x → x < symS lt a m b l → _ at g3
        change ∀ x, symS lt a m b l ≤ x → _ at g4
        generalize symS lt a m b l = s at *
        have s1 : a ≤ s := by split at g1 <;> omega
        have s2 : s ≤ m := by split at g2 <;> omega
        have s3 : s ≤ (a + b) / 2 := by split at g2 <;> omega
        have e1 : m ≤ (a + b) / 2 + m - s := by omega
        have e2 : (a + b) / 2 + m - s ≤ b := by split at g1 <;> omega
        have e3 : (a + b) / 2 ≤ (a + b) / 2 + m - s := by omega
        simp only
        obtain ⟨k1, k2⟩ := symR_spec (l := l) s2 e1 (by omega)
        have hse : s + ((a + b) / 2 + m - s - m) = (a + b) / 2 := by omega
        rw [hse] at k2
        generalize symR m s ((a + b) / 2 + m - s) l = l1 at *
        have hm1 : a < (a + b) / 2 := by omega
        have hm2 : (a + b) / 2 < b := by omega
        have hmid : ∀ x, x < s → s < m → s - 1 + 1 = s := by omega
        -- what lies across
        have cross : ∀ x y, a ≤ x → x < (a + b) / 2 → (a + b) / 2 ≤ y → y < b → lt (l1.getD y default) (l1.getD x default) = false := by
          intro x y q1 q2 q3 q4
          rw [k2, k2]
          have AD : ∀ u v, a ≤ u → u < s → (a + b) / 2 + m - s ≤ v → v < b → lt (l.getD v default) (l.getD u default) = false := by
            intro u v u1 u2 v1 v2
            have hs1 : (if (a + b) / 2 < m then (a + b) / 2 + m - b else a) ≤ s - 1 := by split <;> split at g1 <;> omega
            have := g3 (s - 1) hs1 (by omega)
            simp only [Bool.not_eq_true'] at this
            rw [show (a + b) / 2 + m - 1 - (s - 1) = (a + b) / 2 + m - s by omega] at this
            exact ht.tr _ _ _ (sA.le ht u1 (by omega) (by omega)) (ht.tr _ _ _ this (sB.le ht (by omega) v1 v2))
          have BC : ∀ u v, m ≤ u → u < (a + b) / 2 + m - s → s ≤ v → v < m → lt (l.getD v default) (l.getD u default) = false := by
            intro u v u1 u2 v1 v2
            have hs1 : s < (if (a + b) / 2 < m then (a + b) / 2 else m) := by split <;> split at g2 <;> omega
            have := g4 s (Nat.le_refl _) hs1
            simp only [Bool.not_eq_false'] at this
            have := ht.asy _ _ this
            exact ht.tr _ _ _ (sB.le ht u1 (by omega) (by omega)) (ht.tr _ _ _ this (sA.le ht s1 v1 v2))
          by_cases x1 : s ≤ x
          · rw [if_neg (c := s ≤ y ∧ y < (a + b) / 2) (by omega), if_pos (c := s ≤ x ∧ x < (a + b) / 2) (by omega)]
            split
            · exact BC _ _ (by omega) (by omega) (by omega) (by omega)
            · exact sB _ _ (by omega) (by omega) q4
          · rw [if_neg (c := s ≤ y ∧ y < (a + b) / 2) (by omega), if_neg (c := s ≤ x ∧ x < (a + b) / 2) (by omega), if_neg (c := (a + b) / 2 ≤ x ∧ x < (a + b) / 2 + m - s) (by omega)]
            split
            · exact sA _ _ q1 (by omega) (by omega)
            · exact AD _ _ q1 (by omega) (by omega) q4
        have sr1 : Srt lt l1 a s := fun x y q1 q2 q3 => by rw [k1.out x (by omega), k1.out y (by omega)]; exact sA x y q1 q2 (by omega)
        have sr2 : Srt lt l1 s ((a + b) / 2) := fun x y q1 q2 q3 => by rw [k2, k2, if_pos (by omega), if_pos (by omega)]; exact sB _ _ (by omega) (by omega) (by omega)
        have sr3 : Srt lt l1 ((a + b) / 2) ((a + b) / 2 + m - s) := fun x y q1 q2 q3 => by rw [k2, k2, if_neg (by omega), if_pos (by omega), if_neg (by omega), if_pos (by omega)]; exact sA _ _ (by omega) (by omega) (by omega)
        have sr4 : Srt lt l1 ((a + b) / 2 + m - s) b := fun x y q1 q2 q3 => by rw [k1.out x (by omega), k1.out y (by omega)]; exact sB x y (by omega) q2 q3
        have hl1 := k1.len
        -- the left half
        have left : Seg (if a < s ∧ s < (a + b) / 2 then sym lt f a s ((a + b) / 2) l1 else l1) l1 a ((a + b) / 2) ∧ Srt lt (if a < s ∧ s < (a + b) / 2 then sym lt f a s ((a + b) / 2) l1 else l1) a ((a + b) / 2) := by
          by_cases hc : a < s ∧ s < (a + b) / 2
          · rw [if_pos hc]; exact sym_spec ht f a s _ l1 (by omega) hc.1 hc.2 (by omega) sr1 sr2
          · rw [if_neg hc]
            refine ⟨.refl _ _ _, ?_⟩
            by_cases h5 : a < s
            · have : s = (a + b) / 2 := by omega
              rw [this] at sr1; exact sr1
            · have : s = a := by omega
              rw [this] at sr2; exact sr2
        generalize (if a < s ∧ s < (a + b) / 2 then sym lt f a s ((a + b) / 2) l1 else l1) = l2 at *
        obtain ⟨L1, L2⟩ := left
        have hl2 := L1.len
        have sr3' := L1.srt (lt := lt) (c := (a + b) / 2) (d := (a + b) / 2 + m - s) (by omega) sr3
        have sr4' := L1.srt (lt := lt) (c := (a + b) / 2 + m - s) (d := b) (by omega) sr4
        have right : Seg (if (a + b) / 2 < (a + b) / 2 + m - s ∧ (a + b) / 2 + m - s < b then sym lt f ((a + b) / 2) ((a + b) / 2 + m - s) b l2 else l2) l2 ((a + b) / 2) b ∧ Srt lt (if (a + b) / 2 < (a + b) / 2 + m - s ∧ (a + b) / 2 + m - s < b then sym lt f ((a + b) / 2) ((a + b) / 2 + m - s) b l2 else l2) ((a + b) / 2) b := by
          by_cases hc : (a + b) / 2 < (a + b) / 2 + m - s ∧ (a + b) / 2 + m - s < b
          · rw [if_pos hc]; exact sym_spec ht f _ _ _ l2 (by omega) hc.1 hc.2 (by omega) sr3' sr4'
          · rw [if_neg hc]
            refine ⟨.refl _ _ _, ?_⟩
            by_cases h5 : (a + b) / 2 < (a + b) / 2 + m - s
            · have : (a + b) / 2 + m - s = b := by omega
              rw [this] at sr3'; exact sr3'
            · have : (a + b) / 2 + m - s = (a + b) / 2 := by omega
              rw [this] at sr4'; exact sr4'
        generalize (if (a + b) / 2 < (a + b) / 2 + m - s ∧ (a + b) / 2 + m - s < b then sym lt f ((a + b) / 2) ((a + b) / 2 + m - s) b l2 else l2) = l3 at *
        obtain ⟨R1, R2⟩ := right
        refine ⟨(R1.wide (by omega) (Nat.le_refl _)).trans ((L1.wide (Nat.le_refl _) (by omega)).trans (k1.wide s1 e2)), fun x y q1 q2 q3 => ?_⟩
        by_cases y1 : y < (a + b) / 2
        · rw [R1.out x (by omega), R1.out y (by omega)]; exact L2 x y q1 q2 y1
        · by_cases x1 : (a + b) / 2 ≤ x
          · exact R2 x y x1 q2 q3
          · obtain ⟨y', y1', y2', y3'⟩ := R1.inn y (by omega) q3
            obtain ⟨x', x1', x2', x3'⟩ := L1.inn x q1 (by omega)
            rw [R1.out x (by omega), y3', x3', L1.out y' (by omega)]
            exact cross x' y' x1' x2' y1' y2'
def insB (lt : α → α → Bool) (n : Nat) : Nat → Nat → List α → List α
  | 0, _, l => l
  | f + 1, a, l => if a + 20 ≤ n then insB lt n f (a + 20) (ins lt a (a + 20) l) else ins lt a n l
def mrg (lt : α → α → Bool) (n s : Nat) : Nat → Nat → List α → List α
  | 0, _, l => l
  | f + 1, a, l => if a + 2 * s ≤ n then mrg lt n s f (a + 2 * s) (sym lt (2 * s) a (a + s) (a + 2 * s) l) else if a + s < n then sym lt (n - a) a (a + s) n l else l
def mrgs (lt : α → α → Bool) (n : Nat) : Nat → Nat → List α → List α
  | 0, _, l => l
  | f + 1, s, l => if s < n then mrgs lt n f (2 * s) (mrg lt n s (n + 1) 0 l) else l
def sorted (lt : α → α → Bool) (l : List α) : List α := mrgs lt l.length (l.length + 1) 20 (insB lt l.length (l.length + 1) 0 l)
def Blk (lt : α → α → Bool) (l : List α) (a s n : Nat) : Prop := ∀ k x y, a + k * s ≤ x → x < y → y < a + (k + 1) * s → y < n → lt (l.getD y default) (l.getD x default) = false
theorem Blk.at {lt : α → α → Bool} {l : List α} {a s n : Nat} (h : Blk lt l a s n) (k : Nat) {c d : Nat} (hc : a + k * s ≤ c) (hd : d ≤ a + (k + 1) * s) (hn : d ≤ n) : Srt lt l c d := fun x y h1 h2 h3 => h k x y (by omega) h2 (by omega) (by omega)
theorem Blk.tail {lt : α → α → Bool} {l : List α} {a s n : Nat} (h : Blk lt l a s n) (c : Nat) : Blk lt l (a + c * s) s n := fun k x y h1 h2 h3 h4 => h (c + k) x y (by rw [Nat.add_mul]; omega) h2 (by rw [Nat.add_assoc c k 1, Nat.add_mul c]; omega) h4
theorem Blk.keep {lt : α → α → Bool} {l l' : List α} {a s n b : Nat} (h : Blk lt l a s n) (hl : ∀ x, a ≤ x → x < n → l'.getD x default = l.getD x default) : Blk lt l' a s n := fun k x y h1 h2 h3 h4 => by
  have : a ≤ x := Nat.le_trans (Nat.le_add_right _ _) h1
  rw [hl x this (by omega), hl y (by omega) h4]; exact h k x y h1 h2 h3 h4
theorem Blk.cons {lt : α → α → Bool} {l : List α} {a s n : Nat} (h1 : Srt lt l a (min (a + s) n)) (h2 : Blk lt l (a + s) s n) : Blk lt l a s n := fun k x y g1 g2 g3 g4 => by
  cases k with
  | zero => exact h1 x y (by omega) g2 (by omega)
  | succ k => exact h2 k x y (by rw [Nat.add_mul] at g1; omega) g2 (by rw [Nat.add_mul (k + 1)] at g3; omega) g4
theorem Blk.nil {lt : α → α → Bool} {l : List α} {a s n : Nat} (h : n ≤ a + 1) : Blk lt l a s n := fun k x y g1 g2 g3 g4 => by
  have : a ≤ x := Nat.le_trans (Nat.le_add_right _ _) g1
  omega
theorem insB_spec {lt : α → α → Bool} (ht : Tot lt) (n : Nat) : ∀ f a (l : List α), n ≤ l.length → n < a + f → Seg (insB lt n f a l) l a (max a n) ∧ Blk lt (insB lt n f a l) a 20 n
  | 0, a, l, h1, h2 => ⟨.refl _ _ _, .nil (by omega)⟩
  | f + 1, a, l, h1, h2 => by
    rw [insB]
    by_cases hc : a + 20 ≤ n
    · rw [if_pos hc]
      obtain ⟨g1, g2⟩ := ins_spec ht (a := a) (b := a + 20) (l := l) (by omega)
      obtain ⟨g3, g4⟩ := insB_spec ht n f (a + 20) (ins lt a (a + 20) l) (by have := g1.len; omega) (by omega)
      refine ⟨(g3.wide (by omega) (by omega)).trans (g1.wide (Nat.le_refl _) (by omega)), .cons ?_ g4⟩
      rw [Nat.min_eq_left hc]
      exact g3.srt (by omega) g2
    · rw [if_neg hc]
      obtain ⟨g1, g2⟩ := ins_spec ht (a := a) (b := n) (l := l) h1
      exact ⟨g1.wide (Nat.le_refl _) (by omega), .cons (by rw [Nat.min_eq_right (by omega)]; exact g2) (.nil (by omega))⟩
theorem mrg_spec {lt : α → α → Bool} (ht : Tot lt) (n s : Nat) (hs : 0 < s) : ∀ f a (l : List α), n ≤ l.length → n < a + f → Blk lt l a s n → Seg (mrg lt n s f a l) l a (max a n) ∧ Blk lt (mrg lt n s f a l) a (2 * s) n
  | 0, a, l, h1, h2, hb => ⟨.refl _ _ _, .nil (by omega)⟩
  | f + 1, a, l, h1, h2, hb => by
    rw [mrg]
    by_cases hc : a + 2 * s ≤ n
    · rw [if_pos hc]
      obtain ⟨g1, g2⟩ := sym_spec ht (2 * s) a (a + s) (a + 2 * s) l (by omega) (by omega) (by omega) (by omega) (hb.at 0 (by omega) (by omega) (by omega)) (hb.at 1 (by omega) (by omega) (by omega))
      obtain ⟨g3, g4⟩ := mrg_spec ht n s hs f (a + 2 * s) (sym lt (2 * s) a (a + s) (a + 2 * s) l) (by have := g1.len; omega) (by omega) ((hb.tail 2).keep (b := 0) (fun x hx _ => g1.out x (by omega)))
      refine ⟨(g3.wide (by omega) (by omega)).trans (g1.wide (Nat.le_refl _) (by omega)), .cons ?_ g4⟩
      rw [Nat.min_eq_left hc]
      exact g3.srt (by omega) g2
    · rw [if_neg hc]
      by_cases hd : a + s < n
      · rw [if_pos hd]
        obtain ⟨g1, g2⟩ := sym_spec ht (n - a) a (a + s) n l (by omega) (by omega) (by omega) (by omega) (hb.at 0 (by omega) (by omega) (by omega)) (hb.at 1 (by omega) (by omega) (by omega))
        exact ⟨g1.wide (Nat.le_refl _) (by omega), .cons (by rw [Nat.min_eq_right (by omega)]; exact g2) (.nil (by omega))⟩
      · rw [if_neg hd]
        exact ⟨.refl _ _ _, .cons (by rw [Nat.min_eq_right (by omega)]; exact hb.at 0 (by omega) (by omega) (by omega)) (.nil (by omega))⟩
theorem mrgs_spec {lt : α → α → Bool} (ht : Tot lt) (n : Nat) : ∀ f s (l : List α), n ≤ l.length → 0 < s → n < s + f → Blk lt l 0 s n → Seg (mrgs lt n f s l) l 0 n ∧ Srt lt (mrgs lt n f s l) 0 n
  | 0, s, l, h1, h2, h3, hb => ⟨.refl _ _ _, hb.at 0 (by omega) (by omega) (by omega)⟩
  | f + 1, s, l, h1, h2, h3, hb => by
    rw [mrgs]
    by_cases hc : s < n
    · rw [if_pos hc]
      obtain ⟨g1, g2⟩ := mrg_spec ht n s h2 (n + 1) 0 l h1 (by omega) hb
      rw [Nat.max_eq_right (by omega)] at g1
      obtain ⟨g3, g4⟩ := mrgs_spec ht n f (2 * s) (mrg lt n s (n + 1) 0 l) (by have := g1.len; omega) (by omega) (by omega) g2
      exact ⟨g3.trans g1, g4⟩
    · rw [if_neg hc]
      exact ⟨.refl _ _ _, hb.at 0 (by omega) (by omega) (by omega)⟩
theorem sorted_spec {lt : α → α → Bool} (ht : Tot lt) (l : List α) : (sorted lt l).Perm l ∧ Srt lt (sorted lt l) 0 l.length := by
  unfold sorted
  obtain ⟨g1, g2⟩ := insB_spec ht l.length (l.length + 1) 0 l (Nat.le_refl _) (by omega)
  obtain ⟨g3, g4⟩ := mrgs_spec ht l.length (l.length + 1) 20 (insB lt l.length (l.length + 1) 0 l) (by have := g1.len; omega) (by omega) (by omega) g2
  exact ⟨g3.perm.trans g1.perm, g4⟩
def blkE (lt : α → α → Bool) (n : Nat) : Nat → Nat → List α → Nat × List α
  | 0, a, l => (a, l)
  | f + 1, a, l => if a + 20 ≤ n then blkE lt n f (a + 20) (ins lt a (a + 20) l) else (a, l)
theorem blkE_spec (lt : α → α → Bool) (n : Nat) : ∀ f a (l : List α), n ≤ l.length → n < a + f → a ≤ n → (blkE lt n f a l).1 ≤ n ∧ (blkE lt n f a l).2.length = l.length ∧ ins lt (blkE lt n f a l).1 n (blkE lt n f a l).2 = insB lt n f a l
  | 0, a, l, h1, h2, h3 => by omega
  | f + 1, a, l, h1, h2, h3 => by
    rw [blkE, insB]
    by_cases hc : a + 20 ≤ n
    · rw [if_pos hc, if_pos hc]
      have hl := ins_length lt a (a + 20) l (by omega)
      have := blkE_spec lt n f (a + 20) (ins lt a (a + 20) l) (by omega) (by omega) hc
      rw [hl] at this; exact this
    · rw [if_neg hc, if_neg hc]
      exact ⟨h3, rfl, rfl⟩
def mrgE (lt : α → α → Bool) (n s : Nat) : Nat → Nat → List α → Nat × List α
  | 0, a, l => (a, l)
  | f + 1, a, l => if a + 2 * s ≤ n then mrgE lt n s f (a + 2 * s) (symF lt a (a + s) (a + 2 * s) l) else (a, l)
theorem mrgE_spec (lt : α → α → Bool) (n s : Nat) (hs : 0 < s) : ∀ f a (l : List α), n ≤ l.length → n < a + f → a ≤ n → (mrgE lt n s f a l).1 ≤ n ∧ (mrgE lt n s f a l).2.length = l.length ∧
      (if (mrgE lt n s f a l).1 + s < n then symF lt (mrgE lt n s f a l).1 ((mrgE lt n s f a l).1 + s) n (mrgE lt n s f a l).2 else (mrgE lt n s f a l).2) = mrg lt n s f a l
  | 0, a, l, h1, h2, h3 => by omega
  | f + 1, a, l, h1, h2, h3 => by
    rw [mrgE, mrg]
    by_cases hc : a + 2 * s ≤ n
    · rw [if_pos hc, if_pos hc]
      have hl := symF_length lt (l := l) (show a < a + s by omega) (show a + s < a + 2 * s by omega) (by omega)
      have := mrgE_spec lt n s hs f (a + 2 * s) (symF lt a (a + s) (a + 2 * s) l) (by omega) (by omega) hc
      rw [hl] at this
      rw [symF_eq lt (by omega) (by omega) (by omega)]; exact this
    · rw [if_neg hc, if_neg hc]
      exact ⟨h3, rfl, rfl⟩
theorem mrg_length (lt : α → α → Bool) (n s : Nat) (hs : 0 < s) {l : List α} (h : n ≤ l.length) : (mrg lt n s (n + 1) 0 l).length = l.length := by
  obtain ⟨g1, g2, g3⟩ := mrgE_spec lt n s hs (n + 1) 0 l h (by omega) (by omega)
  rw [← g3]
  split
  · rename_i hc; rw [symF_length lt (by omega) hc (by omega), g2]
  · exact g2
theorem mrgs_length (lt : α → α → Bool) (n : Nat) : ∀ f s (l : List α), 0 < s → n ≤ l.length → (mrgs lt n f s l).length = l.length
  | 0, s, l, _, _ => rfl
  | f + 1, s, l, h1, h2 => by
    rw [mrgs]
    split
    · have := mrg_length lt n s h1 h2
      rw [mrgs_length lt n f (2 * s) _ (by omega) (by omega), this]
    · rfl
theorem insB_length (lt : α → α → Bool) {l : List α} : (insB lt l.length (l.length + 1) 0 l).length = l.length := by
  obtain ⟨g1, g2, g3⟩ := blkE_spec lt l.length (l.length + 1) 0 l (Nat.le_refl _) (by omega) (by omega)
  rw [← g3, ins_length lt _ _ _ (by omega), g2]
theorem sorted_length (lt : α → α → Bool) (l : List α) : (sorted lt l).length = l.length := by
  rw [sorted, mrgs_length lt _ _ _ _ (by omega) (by rw [insB_length]; exact Nat.le_refl _), insB_length]
end
end Gp
namespace Gp
theorem i64_add {a b : Nat} (h : a + b ≤ 2 ^ 62) : IntKind.i64.wrap ((a : Int) + (b : Int)) = ((a + b : Nat) : Int) := by
  rw [IntWalk.i64_in _ (by omega)]; omega
theorem i64_sub {a b : Nat} (h : b ≤ a) (h' : a ≤ 2 ^ 62) : IntKind.i64.wrap ((a : Int) - (b : Int)) = ((a - b : Nat) : Int) := by
  rw [IntWalk.i64_in _ (by omega)]; omega
inductive Kd where
  | O | T | K
@[reducible] def Kd.ty : Kd → Type
  | .O => Origin
  | .T => Attest
  | .K => RKey
instance (κ : Kd) : Inhabited κ.ty := match κ with
  | .O => inferInstanceAs (Inhabited Origin)
  | .T => inferInstanceAs (Inhabited Attest)
  | .K => inferInstanceAs (Inhabited RKey)
instance (κ : Kd) : DecidableEq κ.ty := match κ with
  | .O => inferInstanceAs (DecidableEq Origin)
  | .T => inferInstanceAs (DecidableEq Attest)
  | .K => inferInstanceAs (DecidableEq RKey)
def Kd.e : (κ : Kd) → κ.ty → IVal
  | .O => encO
  | .T => encT
  | .K => encK
def Kd.c : (κ : Kd) → κ.ty → κ.ty → Int
  | .O => cmpO
  | .T => cmpT
  | .K => cmpK
def Kd.n109 : Kd → Nat
  | .O => 109
  | .T => 111
  | .K => 113
def Kd.n117 : Kd → Nat
  | .O => 117
  | .T => 119
  | .K => 121
def Kd.n118 : Kd → Nat
  | .O => 118
  | .T => 120
  | .K => 122
def Kd.n123 : Kd → Nat
  | .O => 123
  | .T => 124
  | .K => 125
def Kd.n126 : Kd → Nat
  | .O => 126
  | .T => 127
  | .K => 128
def Kd.n48 : Kd → Nat
  | .O => 48
  | .T => 51
  | .K => 54
def Kd.n6 : Kd → Nat
  | .O => 6
  | .T => 2
  | .K => 18
def Kd.n68 : Kd → Nat
  | .O => 68
  | .T => 57
  | .K => 75
def Kd.n90 : Kd → Nat
  | .O => 90
  | .T => 92
  | .K => 94
noncomputable def Kd.f109 : Kd → Func
  | .O => Proofs.Tryz.f109
  | .T => Proofs.Tryz.f111
  | .K => Proofs.Tryz.f113
noncomputable def Kd.f117 : Kd → Func
  | .O => Proofs.Tryz.f117
  | .T => Proofs.Tryz.f119
  | .K => Proofs.Tryz.f121
noncomputable def Kd.f118 : Kd → Func
  | .O => Proofs.Tryz.f118
  | .T => Proofs.Tryz.f120
  | .K => Proofs.Tryz.f122
noncomputable def Kd.f123 : Kd → Func
  | .O => Proofs.Tryz.f123
  | .T => Proofs.Tryz.f124
  | .K => Proofs.Tryz.f125
noncomputable def Kd.f126 : Kd → Func
  | .O => Proofs.Tryz.f126
  | .T => Proofs.Tryz.f127
  | .K => Proofs.Tryz.f128
noncomputable def Kd.f90 : Kd → Func
  | .O => Proofs.Tryz.f90
  | .T => Proofs.Tryz.f92
  | .K => Proofs.Tryz.f94
theorem Kd.cby {κ : Kd} (a b : κ.ty) : ASpec prog κ.n48 [κ.e a, κ.e b] (i64 (κ.c a b)) := by
  cases κ
  · exact c48 a b
  · exact c51 a b
  · exact c54 a b
def I126_k {κ : Kd} (l0 : Abs.Loc) (l : List κ.ty) (a b n : Nat) (i : Nat) : LState := { t := [(10, .imm (i64 i)), (3, .imm (i64 n)), (2, .imm (i64 b)), (1, .imm (i64 a)), (0, .own 0 l.length)], s := [(0, .brow l0 κ.n68 κ.n6 ((swR l a b i).map κ.e))], m := 38, n := 1 }
def fin126_k : Exit → Fin
  | .normal => ⟨[], [10, 3, 2, 1, 0], [0]⟩
  | _ => ⟨[], [], [0]⟩
def T126r_k {κ : Kd} (l0 : Abs.Loc) (l : List κ.ty) (a b n i : Nat) : Tell :=
  Tell.mk (fun x x_1 => false) (fun x x_1 => Orc.no) (fun x => Tree.fail 1000003 0) (fun x => 0) (fun x => ([], []))
  (oget
  [(4, 3, 13, Orc.elem (κ.e (List.getD (swR l a b i) (Int.toNat (IntKind.wrap IntKind.i64 ((↑b : Int) + (↑i : Int)))) default))),
  (4, 3, 19, Orc.elem (κ.e (List.getD (swR l a b i) (Int.toNat (IntKind.wrap IntKind.i64 ((↑a : Int) + (↑i : Int)))) default))), (4, 3, 21, Orc.elem (IVal.tup [])),
  (4, 3, 23, Orc.elem (IVal.tup []))])
  fun x x_1 => Tree.fail 1000003 0
theorem t126r_k {κ : Kd} (l0 : Abs.Loc) (l : List κ.ty) (a b n i : Nat) : levL prog κ.f126 1 (I126_k l0 l a b n i) (T126r_k l0 l a b n i) fin126_k =
  Tree.br (decide ((↑i : Int) < (↑n : Int)))
  (Tree.need ((0 : Int) ≤ IntKind.wrap IntKind.i64 ((↑b : Int) + (↑i : Int)) ∧ Int.toNat (IntKind.wrap IntKind.i64 ((↑b : Int) + (↑i : Int))) < List.length l)
  (Tree.need ((List.map κ.e (swR l a b i))[Int.toNat (IntKind.wrap IntKind.i64 ((↑b : Int) + (↑i : Int)))]? = some (κ.e (List.getD (swR l a b i) (Int.toNat (IntKind.wrap IntKind.i64 ((↑b : Int) + (↑i : Int)))) default)))
  (Tree.need ((0 : Int) ≤ IntKind.wrap IntKind.i64 ((↑a : Int) + (↑i : Int)) ∧ Int.toNat (IntKind.wrap IntKind.i64 ((↑a : Int) + (↑i : Int))) < List.length l)
  (Tree.need ((List.map κ.e (swR l a b i))[Int.toNat (IntKind.wrap IntKind.i64 ((↑a : Int) + (↑i : Int)))]? = some (κ.e (List.getD (swR l a b i) (Int.toNat (IntKind.wrap IntKind.i64 ((↑a : Int) + (↑i : Int)))) default)))
  (Tree.need ((0 : Int) ≤ IntKind.wrap IntKind.i64 ((↑a : Int) + (↑i : Int)) ∧ Int.toNat (IntKind.wrap IntKind.i64 ((↑a : Int) + (↑i : Int))) < List.length l)
  (Tree.need (Int.toNat (IntKind.wrap IntKind.i64 ((↑a : Int) + (↑i : Int))) < List.length (List.map κ.e (swR l a b i)))
  (Tree.need ((0 : Int) ≤ IntKind.wrap IntKind.i64 ((↑b : Int) + (↑i : Int)) ∧ Int.toNat (IntKind.wrap IntKind.i64 ((↑b : Int) + (↑i : Int))) < List.length l)
  (Tree.need
  (Int.toNat (IntKind.wrap IntKind.i64 ((↑b : Int) + (↑i : Int))) <
  List.length
  (List.set (List.map κ.e (swR l a b i)) (Int.toNat (IntKind.wrap IntKind.i64 ((↑a : Int) + (↑i : Int)))) (κ.e (List.getD (swR l a b i) (Int.toNat (IntKind.wrap IntKind.i64 ((↑b : Int) + (↑i : Int)))) default))))
  (Tree.done Exit.normal
  (LState.mk
  [(10, AVal.imm (IVal.v (Value.int IntKind.i64 (IntKind.wrap IntKind.i64 ((↑i : Int) + (1 : Int)))))), (3, AVal.imm (i64 (↑n : Int))), (2, AVal.imm (i64 (↑b : Int))),
  (1, AVal.imm (i64 (↑a : Int))), (0, AVal.own 0 (List.length l))]
  [(0,
  Entry.brow l0 κ.n68 κ.n6
  (List.set
  (List.set (List.map κ.e (swR l a b i)) (Int.toNat (IntKind.wrap IntKind.i64 ((↑a : Int) + (↑i : Int))))
  (κ.e (List.getD (swR l a b i) (Int.toNat (IntKind.wrap IntKind.i64 ((↑b : Int) + (↑i : Int)))) default)))
  (Int.toNat (IntKind.wrap IntKind.i64 ((↑b : Int) + (↑i : Int)))) (κ.e (List.getD (swR l a b i) (Int.toNat (IntKind.wrap IntKind.i64 ((↑a : Int) + (↑i : Int)))) default))))]
  38 31 []))))))))))
  (Tree.done (Exit.exit 0) (LState.mk [] [(0, Entry.brow l0 κ.n68 κ.n6 (List.map κ.e (swR l a b i)))] 38 4 [])) := by cases κ <;> kernel_rfl
def E126_k {κ : Kd} (l0 : Abs.Loc) (l : List κ.ty) (a b n : Nat) : LState := { t := [], s := [(0, .brow l0 κ.n68 κ.n6 ((swR l a b n).map κ.e))], m := 38, n := 1 }
theorem l126_k {κ : Kd} (l0 : Abs.Loc) (l : List κ.ty) (a b n : Nat) (ha : a + n ≤ l.length) (hb : b + n ≤ l.length) (hl : l.length ≤ 2 ^ 62) (σ : LState) (h : LSub σ (I126_k l0 l a b n 0)) : LoopOk prog [] (bodyOf κ.f126) 1 σ (.done (.exit 0) (E126_k l0 l a b n)) := by
  refine LoopOk.count n 0 (I126_k l0 l a b n) (E126_k l0 l a b n) (T126r_k l0 l a b n) fin126_k (by cases κ <;> kernel_rfl) h fun i hi => ?_
  have e1 : IntKind.i64.wrap ((a : Int) + (i : Int)) = ((a + i : Nat) : Int) := i64_add (by omega)
  have e2 : IntKind.i64.wrap ((b : Int) + (i : Int)) = ((b + i : Nat) : Int) := i64_add (by omega)
  rw [t126r_k]
  simp only [e1, e2, Int.toNat_natCast]
  refine ⟨fun h1 => ?_, fun h1 => ?_⟩
  · have hlt : i < n := by (simp only [List.length_map, decide_eq_true_eq, decide_eq_false_iff_not, Int.toNat_natCast] at * <;> omega)
    have g1 : a + i < (swR l a b i).length := by rw [swR_length]; omega
    have g2 : b + i < (swR l a b i).length := by rw [swR_length]; omega
    refine ⟨⟨by omega, by omega⟩, fun _ => ⟨getD_map _ _ _ _ g2, fun _ => ⟨⟨by omega, by omega⟩, fun _ => ⟨getD_map _ _ _ _ g1, fun _ => ⟨⟨by omega, by omega⟩, fun _ => ⟨by simpa using g1, fun _ => ⟨⟨by omega, by omega⟩, fun _ => ⟨by simpa using g2, fun _ => ?_⟩⟩⟩⟩⟩⟩⟩⟩
    refine ⟨hlt, ⟨?_, rfl, rfl, rfl, rfl, trivial⟩, ⟨?_, trivial⟩, rfl, rfl, rfl⟩
    · exact congrArg (fun n => AVal.imm (i64 n)) (i64_small hlt (by omega))
    · refine congrArg (fun l => some (Entry.brow l0 κ.n68 κ.n6 l)) ?_
      simp only [swR, swp, List.map_set]
  · have : i = n := by (simp only [List.length_map, decide_eq_true_eq, decide_eq_false_iff_not, Int.toNat_natCast] at * <;> omega)
    subst this
    exact ⟨rfl, by omega, by simp [E126_k, LSub, tsub, ssub, tl, sl, linT, linS, ainB, ainBL]⟩
def T126_k {κ : Kd} (l0 : Abs.Loc) (l : List κ.ty) (a b n : Nat) : Tell :=
  Tell.mk (fun x x_1 => false) (fun x x_1 => Orc.no) (fun x => Tree.done (Exit.exit 0) (E126_k l0 l a b n)) (fun x => 0) (fun x => ([10, 3, 2, 1, 0], [0]))
  (fun x x_1 x_2 => Orc.no) fun x x_1 => Tree.done (Exit.exit 0) (E126_k l0 l a b n)
theorem t126_k {κ : Kd} (l0 : Abs.Loc) (l : List κ.ty) (a b n : Nat) : levW prog κ.f126 l0 κ.n68 κ.n6 (l.map κ.e) [i64 a, i64 b, i64 n, fnV κ.n48] (T126_k l0 l a b n) =
  Tree.loop 1
  (LState.mk
  [(10, AVal.imm (IVal.v (Value.int IntKind.i64 (0 : Int)))), (3, AVal.imm (i64 (↑n : Int))), (2, AVal.imm (i64 (↑b : Int))), (1, AVal.imm (i64 (↑a : Int))),
  (0, AVal.own 0 (List.length (List.map κ.e l)))]
  [(0, Entry.brow l0 κ.n68 κ.n6 (List.map κ.e l))] 38 2 [])
  (Tree.done (Exit.exit 0) (E126_k l0 l a b n)) (Tree.need (eqs []) (Tree.done Exit.ret (lretW l0 κ.n68 κ.n6 (IVal.tup []) (List.map κ.e (swR l a b n))))) := by cases κ <;> kernel_rfl
theorem w126_k {κ : Kd} (l : List κ.ty) (a b n : Nat) (ha : a + n ≤ l.length) (hb : b + n ≤ l.length) (hl : l.length ≤ 2 ^ 62) : WSpec prog κ.n126 κ.n68 κ.n6 (l.map κ.e) [i64 a, i64 b, i64 n, fnV κ.n48] (.tup []) ((swR l a b n).map κ.e) := by
  refine WSpec.tree κ.f126 (fun l0 => T126_k l0 l a b n) (by cases κ <;> kernel_rfl) (by cases κ <;> kernel_rfl) (by cases κ <;> kernel_rfl) fun l0 => ?_
  rw [t126_k]
  refine ⟨?_, need_sat ?_ (lretW_ex ?_ ?_)⟩
  · exact l126_k l0 l a b n ha hb hl _ (by simp [I126_k, i64, swR, LSub, tsub, ssub, tl, sl, linT, linS, ainB, ainBL])
  · exact trivial
  · rfl
  · exact .refl _
theorem w126'_k {κ : Kd} (l : List κ.ty) (a b n : Int) (h0 : 0 ≤ a) (h1 : 0 ≤ b) (h2 : 0 ≤ n) (ha : a + n ≤ l.length) (hb : b + n ≤ l.length) (hl : l.length ≤ 2 ^ 62) : WSpec prog κ.n126 κ.n68 κ.n6 (l.map κ.e) [i64 a, i64 b, i64 n, fnV κ.n48] (.tup []) ((swR l a.toNat b.toNat n.toNat).map κ.e) := by
  obtain ⟨a, rfl⟩ := Int.eq_ofNat_of_zero_le h0
  obtain ⟨b, rfl⟩ := Int.eq_ofNat_of_zero_le h1
  obtain ⟨n, rfl⟩ := Int.eq_ofNat_of_zero_le h2
  exact w126_k l a b n (by omega) (by omega) hl
end Gp
namespace Gp
def I123_k {κ : Kd} (l0 : Abs.Loc) (m i j : Nat) (x : List κ.ty) : LState := { t := [(11, .imm (i64 j)), (10, .imm (i64 i)), (4, .imm (fnV κ.n48)), (2, .imm (i64 m)), (0, .own 0 x.length)], s := [(0, .brow l0 κ.n68 κ.n6 (x.map κ.e))], m := 58, n := 1 }
def E123_k {κ : Kd} (l0 : Abs.Loc) (m : Nat) (r : Nat × List κ.ty) : LState := { t := [(10, .imm (i64 r.1)), (4, .imm (fnV κ.n48)), (2, .imm (i64 m)), (0, .own 0 r.2.length)], s := [(0, .brow l0 κ.n68 κ.n6 (r.2.map κ.e))], m := 58, n := 1 }
def fin123_k : Exit → Fin
  | .normal => ⟨[], [11, 10, 4, 2, 0], [0]⟩
  | _ => ⟨[], [10, 4, 2, 0], [0]⟩
def T123r_k {κ : Kd} (l0 : Abs.Loc) (m i j : Nat) (x : List κ.ty) : Tell :=
  Tell.mk (fun x x_1 => false) (fun x x_1 => Orc.no) (fun x => Tree.fail 1000003 0) (fun x => 0) (fun x => ([], []))
  (oget
  [(7, 4, 7,
  Orc.callw [i64 (IntKind.wrap IntKind.i64 ((↑m : Int) - (↑i : Int))), i64 (↑m : Int), i64 (↑j : Int), fnV κ.n48] (IVal.tup [])
  (List.map κ.e (swR x (Int.toNat (IntKind.wrap IntKind.i64 ((↑m : Int) - (↑i : Int)))) (Int.toNat (↑m : Int)) (Int.toNat (↑j : Int))))),
  (7, 6, 11,
  Orc.callw [i64 (IntKind.wrap IntKind.i64 ((↑m : Int) - (↑i : Int))), i64 (IntKind.wrap IntKind.i64 (IntKind.wrap IntKind.i64 ((↑m : Int) + (↑j : Int)) - (↑i : Int))), i64 (↑i : Int), fnV κ.n48] (IVal.tup [])
  (List.map κ.e (swR x (Int.toNat (IntKind.wrap IntKind.i64 ((↑m : Int) - (↑i : Int)))) (Int.toNat (IntKind.wrap IntKind.i64 (IntKind.wrap IntKind.i64 ((↑m : Int) + (↑j : Int)) - (↑i : Int)))) (Int.toNat (↑i : Int)))))])
  fun x x_1 => Tree.fail 1000003 0
theorem t123r_k {κ : Kd} (l0 : Abs.Loc) (m i j : Nat) (x : List κ.ty) : levL prog κ.f123 2 (I123_k l0 m i j x) (T123r_k l0 m i j x) fin123_k =
  Tree.br (!decide ((↑i : Int) = (↑j : Int)))
  (Tree.br (decide ((↑j : Int) < (↑i : Int)))
  (Tree.need
  (List.length (List.map κ.e x) = List.length x ∧
  ILeL [IVal.v (Value.int IntKind.i64 (IntKind.wrap IntKind.i64 ((↑m : Int) - (↑i : Int)))), i64 (↑m : Int), i64 (↑j : Int), fnV κ.n48]
  [i64 (IntKind.wrap IntKind.i64 ((↑m : Int) - (↑i : Int))), i64 (↑m : Int), i64 (↑j : Int), fnV κ.n48] ∧
  WSpec prog κ.n126 κ.n68 κ.n6 (List.map κ.e x) [i64 (IntKind.wrap IntKind.i64 ((↑m : Int) - (↑i : Int))), i64 (↑m : Int), i64 (↑j : Int), fnV κ.n48] (IVal.tup [])
  (List.map κ.e (swR x (Int.toNat (IntKind.wrap IntKind.i64 ((↑m : Int) - (↑i : Int)))) m j)))
  (Tree.done Exit.normal
  (LState.mk
  [(11, AVal.imm (i64 (↑j : Int))), (10, AVal.imm (IVal.v (Value.int IntKind.i64 (IntKind.wrap IntKind.i64 ((↑i : Int) - (↑j : Int)))))), (4, AVal.imm (fnV κ.n48)),
  (2, AVal.imm (i64 (↑m : Int))), (0, AVal.own 0 (List.length x))]
  [(0, Entry.brow l0 κ.n68 κ.n6 (List.map κ.e (swR x (Int.toNat (IntKind.wrap IntKind.i64 ((↑m : Int) - (↑i : Int)))) m j)))] 58 19 [])))
  (Tree.need
  (List.length (List.map κ.e x) = List.length x ∧
  ILeL
  [IVal.v (Value.int IntKind.i64 (IntKind.wrap IntKind.i64 ((↑m : Int) - (↑i : Int)))), IVal.v (Value.int IntKind.i64 (IntKind.wrap IntKind.i64 (IntKind.wrap IntKind.i64 ((↑m : Int) + (↑j : Int)) - (↑i : Int)))), i64 (↑i : Int),
  fnV κ.n48]
  [i64 (IntKind.wrap IntKind.i64 ((↑m : Int) - (↑i : Int))), i64 (IntKind.wrap IntKind.i64 (IntKind.wrap IntKind.i64 ((↑m : Int) + (↑j : Int)) - (↑i : Int))), i64 (↑i : Int), fnV κ.n48] ∧
  WSpec prog κ.n126 κ.n68 κ.n6 (List.map κ.e x)
  [i64 (IntKind.wrap IntKind.i64 ((↑m : Int) - (↑i : Int))), i64 (IntKind.wrap IntKind.i64 (IntKind.wrap IntKind.i64 ((↑m : Int) + (↑j : Int)) - (↑i : Int))), i64 (↑i : Int), fnV κ.n48] (IVal.tup [])
  (List.map κ.e (swR x (Int.toNat (IntKind.wrap IntKind.i64 ((↑m : Int) - (↑i : Int)))) (Int.toNat (IntKind.wrap IntKind.i64 (IntKind.wrap IntKind.i64 ((↑m : Int) + (↑j : Int)) - (↑i : Int)))) i)))
  (Tree.done Exit.normal
  (LState.mk
  [(11, AVal.imm (IVal.v (Value.int IntKind.i64 (IntKind.wrap IntKind.i64 ((↑j : Int) - (↑i : Int)))))), (10, AVal.imm (i64 (↑i : Int))), (4, AVal.imm (fnV κ.n48)),
  (2, AVal.imm (i64 (↑m : Int))), (0, AVal.own 0 (List.length x))]
  [(0,
  Entry.brow l0 κ.n68 κ.n6
  (List.map κ.e (swR x (Int.toNat (IntKind.wrap IntKind.i64 ((↑m : Int) - (↑i : Int)))) (Int.toNat (IntKind.wrap IntKind.i64 (IntKind.wrap IntKind.i64 ((↑m : Int) + (↑j : Int)) - (↑i : Int)))) i)))]
  58 23 []))))
  (Tree.done (Exit.exit 0)
  (LState.mk [(10, AVal.imm (i64 (↑i : Int))), (4, AVal.imm (fnV κ.n48)), (2, AVal.imm (i64 (↑m : Int))), (0, AVal.own 0 (List.length x))]
  [(0, Entry.brow l0 κ.n68 κ.n6 (List.map κ.e x))] 58 4 [])) := by cases κ <;> kernel_rfl
def T123_k {κ : Kd} (l0 : Abs.Loc) (l : List κ.ty) (a m b : Nat) (r : Nat × List κ.ty) : Tell :=
  Tell.mk (fun x x_1 => false) (fun x x_1 => Orc.no) (fun x => Tree.done (Exit.exit 0) (E123_k l0 m r)) (fun x => 0) (fun x => ([11, 10, 4, 2, 0], [0]))
  (oget
  [(1, 8, 7,
  Orc.callw [i64 (IntKind.wrap IntKind.i64 ((↑m : Int) - (↑r.fst : Int))), i64 (↑m : Int), i64 (↑r.fst : Int), fnV κ.n48] (IVal.tup [])
  (List.map κ.e (swR r.snd (Int.toNat (IntKind.wrap IntKind.i64 ((↑m : Int) - (↑r.fst : Int)))) (Int.toNat (↑m : Int)) (Int.toNat (↑r.fst : Int)))))])
  fun x x_1 => Tree.done (Exit.exit 0) (E123_k l0 m r)
theorem t123_k {κ : Kd} (l0 : Abs.Loc) (l : List κ.ty) (a m b : Nat) (r : Nat × List κ.ty) : levW prog κ.f123 l0 κ.n68 κ.n6 (l.map κ.e) [i64 a, i64 m, i64 b, fnV κ.n48] (T123_k l0 l a m b r) =
  Tree.loop 2
  (LState.mk
  [(11, AVal.imm (IVal.v (Value.int IntKind.i64 (IntKind.wrap IntKind.i64 ((↑b : Int) - (↑m : Int)))))), (10, AVal.imm (IVal.v (Value.int IntKind.i64 (IntKind.wrap IntKind.i64 ((↑m : Int) - (↑a : Int)))))),
  (4, AVal.imm (fnV κ.n48)), (2, AVal.imm (i64 (↑m : Int))), (0, AVal.own 0 (List.length (List.map κ.e l)))]
  [(0, Entry.brow l0 κ.n68 κ.n6 (List.map κ.e l))] 58 9 [])
  (Tree.done (Exit.exit 0) (E123_k l0 m r))
  (Tree.need
  (List.length (List.map κ.e r.snd) = List.length r.snd ∧
  ILeL [IVal.v (Value.int IntKind.i64 (IntKind.wrap IntKind.i64 ((↑m : Int) - (↑r.fst : Int)))), i64 (↑m : Int), i64 (↑r.fst : Int), fnV κ.n48]
  [i64 (IntKind.wrap IntKind.i64 ((↑m : Int) - (↑r.fst : Int))), i64 (↑m : Int), i64 (↑r.fst : Int), fnV κ.n48] ∧
  WSpec prog κ.n126 κ.n68 κ.n6 (List.map κ.e r.snd) [i64 (IntKind.wrap IntKind.i64 ((↑m : Int) - (↑r.fst : Int))), i64 (↑m : Int), i64 (↑r.fst : Int), fnV κ.n48] (IVal.tup [])
  (List.map κ.e (swR r.snd (Int.toNat (IntKind.wrap IntKind.i64 ((↑m : Int) - (↑r.fst : Int)))) m r.fst)))
  (Tree.need (eqs []) (Tree.done Exit.ret (lretW l0 κ.n68 κ.n6 (IVal.tup []) (List.map κ.e (swR r.snd (Int.toNat (IntKind.wrap IntKind.i64 ((↑m : Int) - (↑r.fst : Int)))) m r.fst)))))) := by cases κ <;> kernel_rfl
theorem l123_k {κ : Kd} (l0 : Abs.Loc) (m i j f : Nat) (l : List κ.ty) (hi : 0 < i) (hj : 0 < j) (hf : i + j ≤ f) (hm : i ≤ m) (hb : m + j ≤ l.length) (hl : l.length ≤ 2 ^ 61) (σ : LState) (h : LSub σ (I123_k l0 m i j l)) : LoopOk prog [] (bodyOf κ.f123) 2 σ (.done (.exit 0) (E123_k l0 m (rotE m f i j l))) := by
  refine LoopOk.of_levL (γ := { g : Nat × Nat × Nat × List κ.ty // 0 < g.1 ∧ 0 < g.2.1 ∧ g.1 + g.2.1 ≤ g.2.2.1 ∧ g.1 ≤ m ∧ m + g.2.1 ≤ g.2.2.2.length ∧ g.2.2.2.length = l.length ∧ rotE m g.2.2.1 g.1 g.2.1 g.2.2.2 = rotE m f i j l })
    (fun g => T123r_k l0 m g.1.1 g.1.2.1 g.1.2.2.2) fin123_k (fun g => I123_k l0 m g.1.1 g.1.2.1 g.1.2.2.2) (fun g => g.1.1 + g.1.2.1) ⟨(i, j, f, l), hi, hj, hf, hm, hb, rfl, rfl⟩ (by cases κ <;> kernel_rfl) h ?_
  rintro ⟨⟨i, j, f', x⟩, q1, q2, q3, q4, q5, q6, q7⟩
  simp only at q1 q2 q3 q4 q5 q6 q7
  have e1 : IntKind.i64.wrap ((m : Int) - (i : Int)) = ((m - i : Nat) : Int) := i64_sub (by omega) (by omega)
  have e2 : IntKind.i64.wrap (IntKind.i64.wrap ((m : Int) + (j : Int)) - (i : Int)) = ((m + j - i : Nat) : Int) := by rw [i64_add (by omega), i64_sub (by omega) (by omega)]
  have e3 : j ≤ i → IntKind.i64.wrap ((i : Int) - (j : Int)) = ((i - j : Nat) : Int) := fun h => i64_sub h (by omega)
  have e4 : i ≤ j → IntKind.i64.wrap ((j : Int) - (i : Int)) = ((j - i : Nat) : Int) := fun h => i64_sub h (by omega)
  cases f' with
  | zero => omega
  | succ f' =>
    rw [rotE] at q7
    simp only []
    rw [t123r_k]
    refine ⟨fun h1 => ⟨fun h2 => need_sat ⟨(by simp), ILeL.refl _, w126'_k _ _ _ _ ?_ ?_ ?_ ?_ ?_ ?_⟩ ?_, fun h2 => need_sat ⟨(by simp), ILeL.refl _, w126'_k _ _ _ _ ?_ ?_ ?_ ?_ ?_ ?_⟩ ?_⟩, fun h1 => ?_⟩
    · rw [e1]; omega
    · omega
    · omega
    · rw [e1]; omega
    · omega
    · omega
    · have g1 : ¬ i = j := by simp at h1; omega
      have g2 : j < i := by simp at h2; omega
      rw [if_neg g1, if_pos g2] at q7
      refine ⟨⟨(i - j, j, f', swR x (m - i) m j), by simp only; omega, q2, by simp only; omega, by simp only; omega, by simp only [swR_length]; omega, by simp only [swR_length]; omega, q7⟩, by simp only; omega, ?_⟩
      simp only [e1, e3 (by omega), Int.toNat_natCast]
      exact ⟨⟨rfl, rfl, rfl, rfl, congrArg (AVal.own 0) (swR_length _ _ _ _).symm, trivial⟩, ⟨rfl, trivial⟩, rfl, rfl, rfl⟩
    · rw [e1]; omega
    · rw [e2]; omega
    · omega
    · rw [e1]; omega
    · have g1 : ¬ i = j := by simp at h1; omega
      have g2 : ¬ j < i := by simp at h2; omega
      rw [e2]; omega
    · omega
    · have g1 : ¬ i = j := by simp at h1; omega
      have g2 : ¬ j < i := by simp at h2; omega
      rw [if_neg g1, if_neg g2] at q7
      refine ⟨⟨(i, j - i, f', swR x (m - i) (m + j - i) i), q1, by simp only; omega, by simp only; omega, q4, by simp only [swR_length]; omega, by simp only [swR_length]; omega, q7⟩, by simp only; omega, ?_⟩
      simp only [e1, e2, e4 (by omega), Int.toNat_natCast]
      exact ⟨⟨rfl, rfl, rfl, rfl, congrArg (AVal.own 0) (swR_length _ _ _ _).symm, trivial⟩, ⟨rfl, trivial⟩, rfl, rfl, rfl⟩
    · have g1 : i = j := by simp at h1; omega
      rw [if_pos g1] at q7
      rw [← q7]
      exact ⟨rfl, ⟨rfl, rfl, rfl, rfl, trivial⟩, ⟨rfl, trivial⟩, rfl, rfl, rfl⟩
theorem w123_k {κ : Kd} (l : List κ.ty) (a m b : Nat) (ha : a < m) (hb : m < b) (hbl : b ≤ l.length) (hl : l.length ≤ 2 ^ 61) : WSpec prog κ.n123 κ.n68 κ.n6 (l.map κ.e) [i64 a, i64 m, i64 b, fnV κ.n48] (.tup []) ((rot m (b - a) (m - a) (b - m) l).map κ.e) := by
  have hr := rotE_spec m (b - a) (m - a) (b - m) l (by omega) (by omega) (by omega) (by omega) (by omega)
  refine WSpec.tree κ.f123 (fun l0 => T123_k l0 l a m b (rotE m (b - a) (m - a) (b - m) l)) (by cases κ <;> kernel_rfl) (by cases κ <;> kernel_rfl) (by cases κ <;> kernel_rfl) fun l0 => ?_
  have hh := l123_k l0 m (m - a) (b - m) (b - a) l (by omega) (by omega) (by omega) (by omega) (by omega) hl
  generalize rotE m (b - a) (m - a) (b - m) l = r at *
  obtain ⟨r1, r2, r3, r4, r5⟩ := hr
  have e1 : IntKind.i64.wrap ((m : Int) - (r.1 : Int)) = ((m - r.1 : Nat) : Int) := i64_sub (by omega) (by omega)
  have e2 : IntKind.i64.wrap ((m : Int) - (a : Int)) = ((m - a : Nat) : Int) := i64_sub (by omega) (by omega)
  have e3 : IntKind.i64.wrap ((b : Int) - (m : Int)) = ((b - m : Nat) : Int) := i64_sub (by omega) (by omega)
  rw [t123_k]
  refine ⟨?_, need_sat ⟨(by simp), ILeL.refl _, w126'_k _ _ _ _ ?_ ?_ ?_ ?_ ?_ ?_⟩ (need_sat ?_ (lretW_ex ?_ ?_))⟩
  · refine hh _ ?_
    simp only [e2, e3]
    exact ⟨⟨rfl, rfl, rfl, rfl, by simp [tl], trivial⟩, ⟨rfl, trivial⟩, rfl, rfl, rfl⟩
  · rw [e1]; omega
  · omega
  · omega
  · rw [e1]; omega
  · omega
  · omega
  · exact trivial
  · rw [e1, Int.toNat_natCast, r5]
  · exact .refl _
end Gp
