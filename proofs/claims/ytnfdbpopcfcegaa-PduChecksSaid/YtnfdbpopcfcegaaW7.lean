/- Part 7 of the walk and of the plain law of PduCuts. -/
import Derived.Test.YtnfdbpopcfcegaaW6
import Derived.Test.YtnfdbpopcfcegaaRows
import Derived.WalkKit
import Derived.ProofKit
import Derived.OpenShut
import Derived.ShutString
import Derived.ChangeOld
import Derived.Below
import Derived.Carry
set_option maxRecDepth 100000
set_option maxHeartbeats 0
set_option linter.unusedVariables false
set_option linter.unusedSimpArgs false
open Go Go.Abs
noncomputable section
namespace Gp
def d2 (l : List Int) : List Int := (l.drop 1).drop 1
def d8 (l : List Int) : List Int := ((d2 l).drop 2).drop 4
theorem d2_eq (l : List Int) : d2 l = l.drop 2 := by simp [d2]
theorem d8_eq (l : List Int) : d8 l = l.drop 8 := by simp [d8, d2]
theorem d2_len (l : List Int) : (d2 l).length = l.length - 2 := by simp [d2_eq]
theorem d8_len (l : List Int) : (d8 l).length = l.length - 8 := by simp [d8_eq]
def kR1 (l : List Int) : Int := gu8 (l.drop 1)
def p1 (l : List Int) : Pdu := z1 (gu8 l) (kR1 l) (sF (kR1 l) (d2 l)) (aF (kR1 l) (d2 l)) (cF (kR1 l) (d2 l))
def rdS (l : List Int) : Pdu := tS (p1 l) (d8 l)
theorem tS_nil (p : Pdu) (l : List Int) (h1 : p.path.provs = []) (h2 : p.copy = []) : (tS p l).path.provs = [] ∧ (tS p l).copy = [] := by
  unfold tS
  split
  · exact ⟨h1, h2⟩
  split
  · unfold Pdu.withE; split <;> exact ⟨h1, h2⟩
  split
  · exact ⟨h1, h2⟩
  · exact ⟨h1, h2⟩
def lookC (k : Int) : AVal × Bool := if k = 0 then (AVal.imm (formI 0), true) else if k = 1 then (AVal.imm (formI 1), true) else if k = 2 then (AVal.imm (formI 2), true) else if k = 8 then (AVal.imm (formI 8), true) else if k = 4 then (AVal.imm (formI 4), true) else if k = 6 then (AVal.imm (formI 6), true) else if k = 3 then (AVal.imm (formI 3), true) else if k = 7 then (AVal.imm (formI 7), true) else if k = 9 then (AVal.imm (formI 9), true) else if k = 10 then (AVal.imm (formI 10), true) else if k = 11 then (AVal.imm (formI 11), true) else (.imm (.agg [.v .nilFunc, .v .nilFunc, .v .nilFunc, .v .nilFunc, .v .nilFunc]), false)
theorem look_n {k : Int} (h : ¬ isK k) : lookC k = (.imm (.agg [.v .nilFunc, .v .nilFunc, .v .nilFunc, .v .nilFunc, .v .nilFunc]), false) := by
  unfold isK at h
  simp only [not_or] at h
  unfold lookC
  simp [h]
theorem look_y {k : Int} (h : isK k) : lookC k = (.imm (formI k), true) := by
  unfold isK at h
  rcases h with rfl | rfl | rfl | rfl | rfl | rfl | rfl | rfl | rfl | rfl | rfl <;> rfl
theorem look_9 {k : Int} (h : k = 9) : lookC k = (.imm form9, true) := by subst h; rfl
theorem look_10 {k : Int} (h : k = 10) : lookC k = (.imm form10, true) := by subst h; rfl
theorem look_11 {k : Int} (h : k = 11) : lookC k = (.imm form11, true) := by subst h; rfl
def rdK (l : List Int) : Pdu := zK (gu8 l) (kR1 l) 0 (decide (getV (d2 l) 1 = 1)) 0 (kR (d8 l))
def rdE (l : List Int) : Pdu := { zT (gu8 l) (kR1 l) 0 false (gu16 (d2 l)) (bstr (fText (d8 l))) with copy := fCopy (d8 l) }
def rdP (l : List Int) : Pdu := { zP (gu8 l) (kR1 l) 0 (decide (getV (d2 l) 1 = 1)) 0 (gu32 (d8 l)) with path := ⟨gu32 (d8 l), pvR ((d8 l).drop 4) (pN (d8 l))⟩ }
theorem isS_K {k : Int} (h : isS k) : isK k := by unfold isS at h; unfold isK; omega
theorem ile_pdu (p : Pdu) (x y : IVal) (h1 : ILe x (lu32 p.path.provs)) (h2 : ILe y (lu8 p.copy)) : ILe (.agg [u8 p.version, u8 p.kind, u16 p.session, u32 p.serial, bo p.add, u32 p.origin.asn, u8 p.origin.pfx.fam, u64 p.origin.pfx.addr.hi, u64 p.origin.pfx.addr.lo, i64 p.origin.pfx.len, i64 p.origin.max, u32 p.path.cust, x,
  u32 p.key.asn, u8 p.key.root[0], u8 p.key.root[1], u8 p.key.root[2], u8 p.key.root[3], u8 p.key.root[4], u8 p.key.root[5], u8 p.key.root[6], u8 p.key.root[7], u8 p.key.root[8], u8 p.key.root[9], u8 p.key.root[10], u8 p.key.root[11], u8 p.key.root[12], u8 p.key.root[13], u8 p.key.root[14], u8 p.key.root[15], i64 p.key.height, u32 p.refresh, u32 p.retry, u32 p.expire, u16 p.code, y, st p.text]) (encD p) :=
  .agg (.cons (.refl _) (.cons (.refl _) (.cons (.refl _) (.cons (.refl _) (.cons (.refl _) (.cons (.refl _) (.cons (.refl _) (.cons (.refl _) (.cons (.refl _) (.cons (.refl _) (.cons (.refl _) (.cons (.refl _) (.cons (h1) (.cons (.refl _) (.cons (.refl _) (.cons (.refl _) (.cons (.refl _) (.cons (.refl _) (.cons (.refl _) (.cons (.refl _) (.cons (.refl _) (.cons (.refl _) (.cons (.refl _) (.cons (.refl _) (.cons (.refl _) (.cons (.refl _) (.cons (.refl _) (.cons (.refl _) (.cons (.refl _) (.cons (.refl _) (.cons (.refl _) (.cons (.refl _) (.cons (.refl _) (.cons (.refl _) (.cons (.refl _) (.cons (h2) (.cons (.refl _) (.refl _))))))))))))))))))))))))))))))))))))))
theorem ile_n (p : Pdu) (h : p.path.provs = []) : ILe (.v (.slice none 0 0)) (lu32 p.path.provs) := by rw [h]; exact .nil _ _ _
theorem ile_n' (p : Pdu) (h : p.copy = []) : ILe (.v (.slice none 0 0)) (lu8 p.copy) := by rw [h]; exact .nil _ _ _
def zeroP : Pdu := z1 0 0 0 false 0
def kTT (v k : Int) (l : List Int) : Bool := if k = 9 then k66 l else if k = 10 then k71 l else if k = 11 then k74 l else kT v k l
def rdV (l : List Int) : Pdu := if kR1 l = 9 then rdK l else if kR1 l = 10 then rdE l else if kR1 l = 11 then rdP l else rdS l
def rdR (l : List Int) : Bool := if kR1 l = 9 then decide ((((d8 l).drop 21).length : Int) = 0) else if kR1 l = 10 then decide (((fRest (d8 l)).length : Int) = 0) else if kR1 l = 11 then true else decide ((((d8 l).drop (tN (gu8 l) (kR1 l))).length : Int) = 0)
def rdOk (l : List Int) : Bool := decide (8 ≤ l.length) && decide (isK (kR1 l)) && kF (kR1 l) (d2 l) && kTT (gu8 l) (kR1 l) (d8 l)
def rdF (l : List Int) : Pdu × Bool := if rdOk l = true then (rdV l, rdR l) else (zeroP, false)
theorem rdF_no {l : List Int} (h : rdOk l = false) : rdF l = (zeroP, false) := by unfold rdF; rw [h]; rfl
theorem rdF_yes {l : List Int} (h : rdOk l = true) : rdF l = (rdV l, rdR l) := by unfold rdF; rw [h]; rfl
theorem zleaf {l : List Int} (h : rdOk l = false) : ILe (.tup [z42, bo false]) (.tup [encD (rdF l).1, bo (rdF l).2]) := by
  rw [rdF_no h]
  exact .tup (.cons (ile_pdu zeroP _ _ (ile_n _ rfl) (ile_n' _ rfl)) (.refl _))
theorem no_len {l : List Int} (h : ¬ 8 ≤ l.length) : rdOk l = false := by simp [rdOk, h]
theorem no_kind {l : List Int} (h : ¬ isK (kR1 l)) : rdOk l = false := by simp [rdOk, h]
theorem no_F {l : List Int} (h : kF (kR1 l) (d2 l) = false) : rdOk l = false := by simp [rdOk, h]
theorem no_T {l : List Int} (h : kTT (gu8 l) (kR1 l) (d8 l) = false) : rdOk l = false := by simp [rdOk, h]
theorem no_1 {l : List Int} (h : k76 l 1 = false) : rdOk l = false := no_len fun h8 => k76_f h ⟨by omega, by omega⟩
theorem no_2 {l : List Int} (h : k76 (l.drop 1) 1 = false) : rdOk l = false := no_len fun h8 => k76_f h ⟨by omega, by rw [List.length_drop]; omega⟩
theorem no_4 {l : List Int} (h : k76 ((d2 l).drop 2) 4 = false) : rdOk l = false := no_len fun h8 => k76_f h ⟨by omega, by rw [List.length_drop, d2_len]; omega⟩
theorem len_4 {l : List Int} (h : k76 ((d2 l).drop 2) 4 = true) : 8 ≤ l.length := by
  have := (k76_t h).2
  rw [List.length_drop, d2_len] at this; omega
theorem kT_S {v k : Int} {l : List Int} (h : isS k) : kTT v k l = kT v k l := by
  unfold isS at h; unfold kTT
  rw [if_neg (by omega), if_neg (by omega), if_neg (by omega)]
theorem c35n (l : List Int) (hl : l.length ≤ 100000) (hk : ¬ isK (kR1 l)) : ASpec prog 35 [slE 1 u8 l] (.tup [encD (rdF l).1, bo (rdF l).2]) := by
  refine c35_of (fun ls => T35n ls l) fun ls => ?_
  rw [t35n]
  have z := zleaf (no_kind hk)
  refine ⟨fun h1 => need_sat ⟨ALeL.refl _, g42 _ _ ?_ ?_ ?_⟩ ⟨fun h2 => need_sat ⟨ALeL.refl _, g42 _ _ ?_ ?_ ?_⟩ (need_sat ⟨ILeL.refl _, c34⟩ (need_sat ?_ ⟨fun _ => ⟨_, rfl, ?_⟩, fun h => (by cases h)⟩)), fun h2 => need_sat ⟨ALeL.refl _, p42 _ _ ?_⟩ (need_sat ?_ ⟨_, rfl, ?_⟩)⟩, fun h1 => need_sat ⟨ALeL.refl _, p42 _ _ ?_⟩ (need_sat ?_ ⟨_, rfl, ?_⟩)⟩
  all_goals try first
    | exact z
    | exact ⟨rfl, rfl, rfl, rfl, trivial⟩
    | exact (k76_t ‹_›).2
    | assumption
    | omega
  · exact ⟨rfl, look_n hk⟩
theorem c35s (l : List Int) (hl : l.length ≤ 100000) (hk : isS (kR1 l)) : ASpec prog 35 [slE 1 u8 l] (.tup [encD (rdF l).1, bo (rdF l).2]) := by
  refine c35_of (fun ls => T35s ls l) fun ls => ?_
  rw [t35s]
  refine ⟨fun h1 => need_sat ⟨ALeL.refl _, g42 _ _ ?_ ?_ ?_⟩ ⟨fun h2 => need_sat ⟨ALeL.refl _, g42 _ _ ?_ ?_ ?_⟩ (need_sat ⟨ILeL.refl _, c34⟩ (need_sat ?_ ⟨fun h => (by cases h), fun _ => ⟨fun h3 => need_sat ⟨ALeL.refl _, gfirstN _ _ _ ?_ ?_⟩ ⟨fun h4 => need_sat ⟨ALeL.refl _, g76 _ _ ?_ ?_⟩ ⟨fun h5 => need_sat ⟨ALeL.refl _, gthenN _ _ _ _ _ _ ?_ ?_ ?_⟩ ⟨_, rfl, ?_⟩, fun h5 => need_sat ⟨ALeL.refl _, pthenN _ _ _ _ _ _ ?_ ?_⟩ (need_sat ?_ ⟨_, rfl, ?_⟩)⟩, fun h4 => need_sat ⟨ALeL.refl _, p76 _ _ ?_⟩ (need_sat ?_ ⟨_, rfl, ?_⟩)⟩, fun h3 => need_sat ⟨ALeL.refl _, pfirstN _ _ _ ?_ ?_⟩ (need_sat ?_ ⟨_, rfl, ?_⟩)⟩⟩)), fun h2 => need_sat ⟨ALeL.refl _, p42 _ _ ?_⟩ (need_sat ?_ ⟨_, rfl, ?_⟩)⟩, fun h1 => need_sat ⟨ALeL.refl _, p42 _ _ ?_⟩ (need_sat ?_ ⟨_, rfl, ?_⟩)⟩
  all_goals try first
    | exact ⟨rfl, look_y (isS_K hk)⟩
    | exact ⟨rfl, rfl, rfl, rfl, trivial⟩
    | exact isS_K hk
    | exact hk
    | exact kF_t h3
    | exact (kT_t h5).1
    | exact (kT_t h5).2
    | exact (k76_t h1).2
    | exact (k76_t h2).2
    | exact (k76_t h4).2
    | exact zleaf (no_1 h1)
    | exact zleaf (no_2 h2)
    | exact zleaf (no_F h3)
    | exact zleaf (no_4 h4)
    | exact zleaf (no_T ((kT_S hk).trans h5))
    | assumption
    | omega
  · have hok : rdOk l = true := by
      have e3 : kF (kR1 l) (d2 l) = true := h3
      have e5 : kTT (gu8 l) (kR1 l) (d8 l) = true := (kT_S hk).trans h5
      simp only [rdOk, e3, e5, len_4 h4, isS_K hk, decide_true, Bool.and_self]
    have ev : rdV l = rdS l := by unfold isS at hk; unfold rdV; rw [if_neg (by omega), if_neg (by omega), if_neg (by omega)]
    have er : rdR l = decide ((((d8 l).drop (tN (gu8 l) (kR1 l))).length : Int) = 0) := by unfold isS at hk; unfold rdR; rw [if_neg (by omega), if_neg (by omega), if_neg (by omega)]
    rw [rdF_yes hok, ev, er]
    obtain ⟨e1, e2⟩ := tS_nil (p1 l) (d8 l) rfl rfl
    refine .tup (.cons (ile_pdu (rdS l) _ _ (ile_n _ e1) (ile_n' _ e2)) (.cons (ile_eq ?_) (.refl _)))
    rw [List.length_map]; rfl
theorem c35k (l : List Int) (hl : l.length ≤ 100000) (hk : kR1 l = 9) : ASpec prog 35 [slE 1 u8 l] (.tup [encD (rdF l).1, bo (rdF l).2]) := by
  have hK : isK (kR1 l) := by unfold isK; omega
  have h8l := d8_len l
  have eT : kTT (gu8 l) (kR1 l) (d8 l) = k66 (d8 l) := by unfold kTT; simp only [hk]; rfl
  have eF : kF (kR1 l) (d2 l) = k65 (d2 l) := by unfold kF; simp only [hk]; rfl
  refine c35_of (fun ls => T35k ls l) fun ls => ?_
  rw [t35k]
  refine ⟨fun h1 => need_sat ⟨ALeL.refl _, g42 _ _ ?_ ?_ ?_⟩ ⟨fun h2 => need_sat ⟨ALeL.refl _, g42 _ _ ?_ ?_ ?_⟩ (need_sat ⟨ILeL.refl _, c34⟩ (need_sat ?_ ⟨fun h => (by cases h), fun _ => ⟨fun h3 => need_sat ⟨ALeL.refl _, g65 _ _ _ _ _ _ ?_ ?_ ?_⟩ ⟨fun h4 => need_sat ⟨ALeL.refl _, g76 _ _ ?_ ?_⟩ ⟨fun h5 => need_sat ⟨ALeL.refl _, g66 _ _ _ _ _ _ ?_⟩ ⟨_, rfl, ?_⟩, fun h5 => need_sat ⟨ALeL.refl _, p66 _ _ _ _ _ _ ?_⟩ (need_sat ?_ ⟨_, rfl, ?_⟩)⟩, fun h4 => need_sat ⟨ALeL.refl _, p76 _ _ ?_⟩ (need_sat ?_ ⟨_, rfl, ?_⟩)⟩, fun h3 => need_sat ⟨ALeL.refl _, p65 _ _ _ _ _ _ ?_⟩ (need_sat ?_ ⟨_, rfl, ?_⟩)⟩⟩)), fun h2 => need_sat ⟨ALeL.refl _, p42 _ _ ?_⟩ (need_sat ?_ ⟨_, rfl, ?_⟩)⟩, fun h1 => need_sat ⟨ALeL.refl _, p42 _ _ ?_⟩ (need_sat ?_ ⟨_, rfl, ?_⟩)⟩
  all_goals try first
    | exact ⟨rfl, look_9 hk⟩
    | exact ⟨rfl, rfl, rfl, rfl, trivial⟩
    | exact (k76_t h1).2
    | exact (k76_t h2).2
    | exact (k76_t h4).2
    | exact zleaf (no_1 h1)
    | exact zleaf (no_2 h2)
    | exact zleaf (no_F (eF.trans h3))
    | exact zleaf (no_4 h4)
    | exact zleaf (no_T (eT.trans h5))
    | exact k66_t h5
    | exact (k65_t h3).1
    | exact (k65_t h3).2.1
    | exact (k65_t h3).2.2
    | assumption
    | omega
  · have hok : rdOk l = true := by
      have e3 : kF (kR1 l) (d2 l) = true := eF.trans h3
      have e5 : kTT (gu8 l) (kR1 l) (d8 l) = true := eT.trans h5
      simp only [rdOk, e3, e5, len_4 h4, hK, decide_true, Bool.and_self]
    have ev : rdV l = rdK l := by unfold rdV; simp only [hk]; rfl
    have er : rdR l = decide ((((d8 l).drop 21).length : Int) = 0) := by unfold rdR; simp only [hk]; rfl
    rw [rdF_yes hok, ev, er]
    refine .tup (.cons (ile_pdu (rdK l) _ _ (ile_n _ rfl) (ile_n' _ rfl)) (.cons (ile_eq ?_) (.refl _)))
    rw [List.length_map]; rfl
theorem c35e (l : List Int) (hl : l.length ≤ 100000) (hk : kR1 l = 10) : ASpec prog 35 [slE 1 u8 l] (.tup [encD (rdF l).1, bo (rdF l).2]) := by
  have hK : isK (kR1 l) := by unfold isK; omega
  have h8l := d8_len l
  have eT : kTT (gu8 l) (kR1 l) (d8 l) = k71 (d8 l) := by unfold kTT; simp only [hk]; rfl
  have eF : kF (kR1 l) (d2 l) = k50 (d2 l) := by unfold kF; simp only [hk]; rfl
  refine c35_of (fun ls => T35e ls l) fun ls => ?_
  rw [t35e]
  refine ⟨fun h1 => need_sat ⟨ALeL.refl _, g42 _ _ ?_ ?_ ?_⟩ ⟨fun h2 => need_sat ⟨ALeL.refl _, g42 _ _ ?_ ?_ ?_⟩ (need_sat ⟨ILeL.refl _, c34⟩ (need_sat ?_ ⟨fun h => (by cases h), fun _ => ⟨fun h3 => need_sat ⟨ALeL.refl _, g70 _ _ _ _ _ _ ?_⟩ ⟨fun h4 => need_sat ⟨ALeL.refl _, g76 _ _ ?_ ?_⟩ ⟨fun h5 => need_sat ⟨ALeL.refl _, g71 _ _ _ _ _ _ ?_ ?_ ?_ ?_ ?_ ?_ ?_⟩ ⟨_, rfl, ?_⟩, fun h5 => need_sat ⟨ALeL.refl _, p71 _ _ _ _ _ _ ?_ ?_⟩ (need_sat ?_ ⟨_, rfl, ?_⟩)⟩, fun h4 => need_sat ⟨ALeL.refl _, p76 _ _ ?_⟩ (need_sat ?_ ⟨_, rfl, ?_⟩)⟩, fun h3 => need_sat ⟨ALeL.refl _, p70 _ _ _ _ _ _ ?_⟩ (need_sat ?_ ⟨_, rfl, ?_⟩)⟩⟩)), fun h2 => need_sat ⟨ALeL.refl _, p42 _ _ ?_⟩ (need_sat ?_ ⟨_, rfl, ?_⟩)⟩, fun h1 => need_sat ⟨ALeL.refl _, p42 _ _ ?_⟩ (need_sat ?_ ⟨_, rfl, ?_⟩)⟩
  all_goals try first
    | exact ⟨rfl, look_10 hk⟩
    | exact ⟨rfl, rfl, rfl, rfl, trivial⟩
    | exact (k76_t h1).2
    | exact (k76_t h2).2
    | exact (k76_t h4).2
    | exact zleaf (no_1 h1)
    | exact zleaf (no_2 h2)
    | exact zleaf (no_F (eF.trans h3))
    | exact zleaf (no_4 h4)
    | exact zleaf (no_T (eT.trans h5))
    | exact k50_t h3
    | exact (k71_t h5).1
    | exact (k71_t h5).2.1
    | exact (k71_t h5).2.2.1
    | exact (k71_t h5).2.2.2.1
    | exact (k71_t h5).2.2.2.2.1
    | exact (k71_t h5).2.2.2.2.2
    | (show (d8 l).length ≤ 100000; omega)
    | assumption
    | omega
  · have hok : rdOk l = true := by
      have e3 : kF (kR1 l) (d2 l) = true := eF.trans h3
      have e5 : kTT (gu8 l) (kR1 l) (d8 l) = true := eT.trans h5
      simp only [rdOk, e3, e5, len_4 h4, hK, decide_true, Bool.and_self]
    have ev : rdV l = rdE l := by unfold rdV; simp only [hk]; rfl
    have er : rdR l = decide (((fRest (d8 l)).length : Int) = 0) := by unfold rdR; simp only [hk]; rfl
    rw [rdF_yes hok, ev, er]
    refine .tup (.cons (ile_pdu (rdE l) _ _ (ile_n _ rfl) (.sl (by simp) (by simp) (.refl _))) (.cons (ile_eq ?_) (.refl _)))
    rw [List.length_map]; rfl
theorem c35p (l : List Int) (hl : l.length ≤ 100000) (hk : kR1 l = 11) : ASpec prog 35 [slE 1 u8 l] (.tup [encD (rdF l).1, bo (rdF l).2]) := by
  have hK : isK (kR1 l) := by unfold isK; omega
  have h8l := d8_len l
  have eT : kTT (gu8 l) (kR1 l) (d8 l) = k74 (d8 l) := by unfold kTT; simp only [hk]; rfl
  have eF : kF (kR1 l) (d2 l) = k65 (d2 l) := by unfold kF; simp only [hk]; rfl
  refine c35_of (fun ls => T35p ls l) fun ls => ?_
  rw [t35p]
  refine ⟨fun h1 => need_sat ⟨ALeL.refl _, g42 _ _ ?_ ?_ ?_⟩ ⟨fun h2 => need_sat ⟨ALeL.refl _, g42 _ _ ?_ ?_ ?_⟩ (need_sat ⟨ILeL.refl _, c34⟩ (need_sat ?_ ⟨fun h => (by cases h), fun _ => ⟨fun h3 => need_sat ⟨ALeL.refl _, g65 _ _ _ _ _ _ ?_ ?_ ?_⟩ ⟨fun h4 => need_sat ⟨ALeL.refl _, g76 _ _ ?_ ?_⟩ ⟨fun h5 => need_sat ⟨ALeL.refl _, g74 _ _ _ _ _ _ ?_ ?_⟩ (need_sat ?_ ⟨_, rfl, ?_⟩), fun h5 => need_sat ⟨ALeL.refl _, p74 _ _ _ _ _ _ ?_ ?_⟩ (need_sat ?_ ⟨_, rfl, ?_⟩)⟩, fun h4 => need_sat ⟨ALeL.refl _, p76 _ _ ?_⟩ (need_sat ?_ ⟨_, rfl, ?_⟩)⟩, fun h3 => need_sat ⟨ALeL.refl _, p65 _ _ _ _ _ _ ?_⟩ (need_sat ?_ ⟨_, rfl, ?_⟩)⟩⟩)), fun h2 => need_sat ⟨ALeL.refl _, p42 _ _ ?_⟩ (need_sat ?_ ⟨_, rfl, ?_⟩)⟩, fun h1 => need_sat ⟨ALeL.refl _, p42 _ _ ?_⟩ (need_sat ?_ ⟨_, rfl, ?_⟩)⟩
  all_goals try first
    | exact ⟨rfl, look_11 hk⟩
    | exact ⟨rfl, rfl, rfl, rfl, trivial⟩
    | exact (k76_t h1).2
    | exact (k76_t h2).2
    | exact (k76_t h4).2
    | exact zleaf (no_1 h1)
    | exact zleaf (no_2 h2)
    | exact zleaf (no_F (eF.trans h3))
    | exact zleaf (no_4 h4)
    | exact zleaf (no_T (eT.trans h5))
    | exact k74_t h5
    | exact (k65_t h3).1
    | exact (k65_t h3).2.1
    | exact (k65_t h3).2.2
    | (show (d8 l).length ≤ 100000; omega)
    | (show pN (d8 l) ≤ 100000; unfold pN; omega)
    | exact ⟨by rw [List.length_map, pvR_len], trivial⟩
    | assumption
    | omega
  · have hok : rdOk l = true := by
      have e3 : kF (kR1 l) (d2 l) = true := eF.trans h3
      have e5 : kTT (gu8 l) (kR1 l) (d8 l) = true := eT.trans h5
      simp only [rdOk, e3, e5, len_4 h4, hK, decide_true, Bool.and_self]
    have ev : rdV l = rdP l := by unfold rdV; simp only [hk]; rfl
    have er : rdR l = true := by unfold rdR; simp only [hk]; rfl
    rw [rdF_yes hok, ev, er]
    exact .tup (.cons (ile_pdu (rdP l) _ _ (.sl (by simp) (by simp) (.refl _)) (ile_n' _ rfl)) (.refl _))
theorem c35 (l : List Int) (hl : l.length ≤ 100000) : ASpec prog 35 [slE 1 u8 l] (.tup [encD (rdF l).1, bo (rdF l).2]) := by
  by_cases hk : isK (kR1 l)
  · by_cases h9 : kR1 l = 9
    · exact c35k l hl h9
    by_cases h10 : kR1 l = 10
    · exact c35e l hl h10
    by_cases h11 : kR1 l = 11
    · exact c35p l hl h11
    exact c35s l hl (by unfold isK at hk; unfold isS; omega)
  · exact c35n l hl hk
end Gp
namespace Gp
def ck56 (p : Pdu) : Bool := if p.kind = 6 then decide (ckP p.origin.pfx = 0) && decide (p.origin.pfx.fam = 6) && decide (p.origin.pfx.len ≤ p.origin.max) && decide (p.origin.max ≤ 128) else decide (ckP p.origin.pfx = 0) && decide (p.origin.pfx.fam = 4) && decide (p.origin.pfx.len ≤ p.origin.max) && decide (p.origin.max ≤ 32)
def ck59 (p : Pdu) : Bool := decide (p.version = 0) || (decide (1 ≤ p.refresh) && decide (1 ≤ p.retry) && decide (p.expire ≤ 1048576) && decide (p.refresh ≤ p.expire) && decide (p.retry ≤ p.expire))
def ck62 (p : Pdu) : Bool := decide (0 < p.version) && decide (0 ≤ p.key.height) && decide (p.key.height ≤ 4)
def ck67 (p : Pdu) : Bool := decide (p.code ≤ 8)
def ck72 (p : Pdu) : Bool := if p.add then decide (p.version = 2) && decide (ckPr p.path = 0) else decide (p.version = 2) && decide (0 < p.path.cust) && decide (p.path.provs.length = 0)
theorem c47 (p : Pdu) : ASpec prog 47 [encD p] (bo true) := by
  refine ASpec.treeW Proofs.Try.f47 (T47 p) (by kernel_rfl) (by kernel_rfl) (t47 p) ?_
  refine ⟨_, rfl, ?_⟩
  exact .refl _
theorem c56 (p : Pdu) : ASpec prog 56 [encD p] (bo (ck56 p)) := by
  refine ASpec.treeW Proofs.Try.f56 (T56 p) (by kernel_rfl) (by kernel_rfl) (t56 p) ?_
  refine ⟨fun h1 => need_sat ⟨ILeL.refl _, c86 _⟩ ⟨fun h2 => ⟨fun h3 => ⟨fun h4 => ⟨_, rfl, ?_⟩, fun h4 => ⟨_, rfl, ?_⟩⟩, fun h3 => ⟨_, rfl, ?_⟩⟩, fun h2 => ⟨_, rfl, ?_⟩⟩, fun h1 => need_sat ⟨ILeL.refl _, c86 _⟩ ⟨fun h2 => ⟨fun h3 => ⟨fun h4 => ⟨_, rfl, ?_⟩, fun h4 => ⟨_, rfl, ?_⟩⟩, fun h3 => ⟨_, rfl, ?_⟩⟩, fun h2 => ⟨_, rfl, ?_⟩⟩⟩
  all_goals simp only [decide_eq_true_eq, decide_eq_false_iff_not] at *
  all_goals exact ile_bo (by simp [ck56, *])
theorem c59 (p : Pdu) : ASpec prog 59 [encD p] (bo (ck59 p)) := by
  refine ASpec.treeW Proofs.Try.f59 (T59 p) (by kernel_rfl) (by kernel_rfl) (t59 p) ?_
  refine ⟨fun h1 => ⟨_, rfl, ?_⟩, fun h1 => ⟨fun h2 => ⟨fun h3 => ⟨_, rfl, ?_⟩, fun h3 => ⟨_, rfl, ?_⟩⟩, fun h2 => ⟨_, rfl, ?_⟩⟩⟩
  all_goals simp only [decide_eq_true_eq, decide_eq_false_iff_not] at *
  all_goals exact ile_bo (by rw [Bool.eq_iff_iff]; simp [ck59]; grind)
theorem c62 (p : Pdu) : ASpec prog 62 [encD p] (bo (ck62 p)) := by
  refine ASpec.treeW Proofs.Try.f62 (T62 p) (by kernel_rfl) (by kernel_rfl) (t62 p) ?_
  refine ⟨fun h1 => ⟨fun h2 => ⟨_, rfl, ?_⟩, fun h2 => ⟨_, rfl, ?_⟩⟩, fun h1 => ⟨_, rfl, ?_⟩⟩
  all_goals simp only [decide_eq_true_eq, decide_eq_false_iff_not] at *
  all_goals exact ile_bo (by simp [ck62, *])
theorem c67 (p : Pdu) : ASpec prog 67 [encD p] (bo (ck67 p)) := by
  refine ASpec.treeW Proofs.Try.f67 (T67 p) (by kernel_rfl) (by kernel_rfl) (t67 p) ?_
  refine ⟨_, rfl, ?_⟩
  exact .refl _
theorem c72 (p : Pdu) (hp : p.path.provs.length ≤ 100000) : ASpec prog 72 [encD p] (bo (ck72 p)) := by
  refine ASpec.treeW Proofs.Try.f72 (T72 p) (by kernel_rfl) (by kernel_rfl) (t72 p) ?_
  refine ⟨fun h1 => ⟨fun h2 => ⟨fun h3 => ⟨_, rfl, ?_⟩, fun h3 => ⟨_, rfl, ?_⟩⟩, fun h2 => ⟨_, rfl, ?_⟩⟩, fun h1 => ⟨fun h2 => need_sat ⟨ILeL.refl _, c89 _⟩ ⟨_, rfl, ?_⟩, fun h2 => ⟨_, rfl, ?_⟩⟩⟩
  all_goals try omega
  all_goals simp only [decide_eq_true_eq, decide_eq_false_iff_not, Bool.not_eq_true', Bool.not_eq_false'] at *
  all_goals exact ile_bo (by simp [ck72, *])
def ckD (p : Pdu) : Bool := if p.kind = 4 ∨ p.kind = 6 then ck56 p else if p.kind = 7 then ck59 p else if p.kind = 9 then ck62 p else if p.kind = 10 then ck67 p else if p.kind = 11 then ck72 p else true
theorem cchkN (p : Pdu) (hp : p.path.provs.length ≤ 100000) : ASpec prog (chkN p.kind) [encD p] (bo (ckD p)) := by
  unfold chkN ckD
  repeat' split
  · exact c56 p
  · exact c59 p
  · exact c62 p
  · exact c67 p
  · exact c72 p hp
  · exact c47 p
def T40 (a b : List Int) : Tell :=
  Tell.mk (fun x x_1 => false) (fun x x_1 => Orc.no) (fun x => Tree.fail 1000003 0) (fun x => 0) (fun x => ([],[])) (oget [(1,1,1,Orc.tos a),(1,1,3,Orc.tos b)]) fun x x_1 => Tree.fail 1000003 0
theorem t40 (a b : List Int) : levF prog Proofs.Try.f40 [slE 1 u8 a, slE 1 u8 b] (T40 a b) =
  Tree.need (List.map u8 a = List.map (fun n => u8 n) a) (.need (List.map u8 b = List.map (fun n => u8 n) b) (.done Exit.ret (lret (bo (bstr a == bstr b))))) := by kernel_rfl
theorem c40 (a b : List Int) : ASpec prog 40 [slE 1 u8 a, slE 1 u8 b] (bo (bstr a == bstr b)) := by
  refine ASpec.treeW Proofs.Try.f40 (T40 a b) (by kernel_rfl) (by kernel_rfl) (t40 a b) ?_
  refine need_sat ?_ (need_sat ?_ ⟨_, rfl, ?_⟩)
  · rfl
  · rfl
  · exact .refl _
def T16 (m n : Pdu) : Tell :=
  Tell.mk (fun x x_1 => false) (fun x x_1 => Orc.no) (fun x => Tree.fail 1000003 0) (fun x => 0) (fun x => ([],[])) (oget [(51,2,14,Orc.call [slE 1 u32 m.path.provs,slE 1 u32 n.path.provs] (bo (decide (m.path.provs = n.path.provs)))),(51,2,21,Orc.call [slE 1 u8 m.copy,slE 1 u8 n.copy] (bo (bstr m.copy == bstr n.copy)))]) fun x x_1 => Tree.fail 1000003 0
theorem t16 (m n : Pdu) : levF prog Proofs.Try.f16 [encD m, encD n] (T16 m n) =
  (let q0 := decide (m.path.provs = n.path.provs); let q1 := decide (m.origin.pfx.fam = n.origin.pfx.fam) && (decide (m.origin.pfx.addr.hi = n.origin.pfx.addr.hi) && (decide (m.origin.pfx.addr.lo = n.origin.pfx.addr.lo) && (decide (m.origin.pfx.len = n.origin.pfx.len) && (decide (m.origin.max = n.origin.max) && true)))); let q2 := decide (m.key.height = n.key.height) && true; let q3 := decide (m.path.cust = n.path.cust);
  Tree.br (decide (m.version = n.version)) (.br (decide (m.kind = n.kind)) (.br (decide (m.session = n.session)) (.br (decide (m.serial = n.serial)) (.br (m.add == n.add) (.br (if BinOp.eql = BinOp.neq then !(decide (m.origin.asn = n.origin.asn) && q1) else decide (m.origin.asn = n.origin.asn) && q1) (.br q3 (.need (ILeL [lu32 m.path.provs,lu32 n.path.provs] [slE 1 u32 m.path.provs,slE 1 u32 n.path.provs] ∧ ASpec prog 39 [slE 1 u32 m.path.provs,slE 1 u32 n.path.provs] (bo q0)) (.br q0 (.need (ILeL [lu8 m.copy,lu8 n.copy] [slE 1 u8 m.copy,slE 1 u8 n.copy] ∧ ASpec prog 40 [slE 1 u8 m.copy,slE 1 u8
  n.copy] (bo (bstr m.copy == bstr n.copy))) (.br (if BinOp.eql = BinOp.neq then !(decide (m.key.asn = n.key.asn) && (decide (m.key.root[0] = n.key.root[0]) && (decide (m.key.root[1] = n.key.root[1]) && (decide (m.key.root[2] = n.key.root[2]) && (decide (m.key.root[3] = n.key.root[3]) && (decide (m.key.root[4] = n.key.root[4]) && (decide (m.key.root[5] = n.key.root[5]) && (decide (m.key.root[6] = n.key.root[6]) && (decide (m.key.root[7] = n.key.root[7]) && (decide (m.key.root[8] = n.key.root[8]) && (decide (m.key.root[9] = n.key.root[9]) && (decide (m.key.root[10] = n.key.root[10]) && (decide
  (m.key.root[11] = n.key.root[11]) && (decide (m.key.root[12] = n.key.root[12]) && (decide (m.key.root[13] = n.key.root[13]) && (decide (m.key.root[14] = n.key.root[14]) && (decide (m.key.root[15] = n.key.root[15]) && q2))))))))))))))))) else decide (m.key.asn = n.key.asn) && (decide (m.key.root[0] = n.key.root[0]) && (decide (m.key.root[1] = n.key.root[1]) && (decide (m.key.root[2] = n.key.root[2]) && (decide (m.key.root[3] = n.key.root[3]) && (decide (m.key.root[4] = n.key.root[4]) && (decide (m.key.root[5] = n.key.root[5]) && (decide (m.key.root[6] = n.key.root[6]) && (decide (m.key.root[7] =
  n.key.root[7]) && (decide (m.key.root[8] = n.key.root[8]) && (decide (m.key.root[9] = n.key.root[9]) && (decide (m.key.root[10] = n.key.root[10]) && (decide (m.key.root[11] = n.key.root[11]) && (decide (m.key.root[12] = n.key.root[12]) && (decide (m.key.root[13] = n.key.root[13]) && (decide (m.key.root[14] = n.key.root[14]) && (decide (m.key.root[15] = n.key.root[15]) && q2))))))))))))))))) (.br (bstr m.copy == bstr n.copy) (.br (decide (m.refresh = n.refresh)) (.br (decide (m.retry = n.retry)) (.br (decide (m.expire = n.expire)) (.br (decide (m.code = n.code)) (.done Exit.ret (lret (bo (m.text
  == n.text)))) (.done Exit.ret (lret (bo false)))) (.done Exit.ret (lret (bo false)))) (.done Exit.ret (lret (bo false)))) (.done Exit.ret (lret (bo false)))) (.done Exit.ret (lret (bo false)))) (.done Exit.ret (lret (bo false))))) (.br (if BinOp.eql = BinOp.neq then !(decide (m.key.asn = n.key.asn) && (decide (m.key.root[0] = n.key.root[0]) && (decide (m.key.root[1] = n.key.root[1]) && (decide (m.key.root[2] = n.key.root[2]) && (decide (m.key.root[3] = n.key.root[3]) && (decide (m.key.root[4] = n.key.root[4]) && (decide (m.key.root[5] = n.key.root[5]) && (decide (m.key.root[6] = n.key.root[6])
  && (decide (m.key.root[7] = n.key.root[7]) && (decide (m.key.root[8] = n.key.root[8]) && (decide (m.key.root[9] = n.key.root[9]) && (decide (m.key.root[10] = n.key.root[10]) && (decide (m.key.root[11] = n.key.root[11]) && (decide (m.key.root[12] = n.key.root[12]) && (decide (m.key.root[13] = n.key.root[13]) && (decide (m.key.root[14] = n.key.root[14]) && (decide (m.key.root[15] = n.key.root[15]) && q2))))))))))))))))) else decide (m.key.asn = n.key.asn) && (decide (m.key.root[0] = n.key.root[0]) && (decide (m.key.root[1] = n.key.root[1]) && (decide (m.key.root[2] = n.key.root[2]) && (decide
  (m.key.root[3] = n.key.root[3]) && (decide (m.key.root[4] = n.key.root[4]) && (decide (m.key.root[5] = n.key.root[5]) && (decide (m.key.root[6] = n.key.root[6]) && (decide (m.key.root[7] = n.key.root[7]) && (decide (m.key.root[8] = n.key.root[8]) && (decide (m.key.root[9] = n.key.root[9]) && (decide (m.key.root[10] = n.key.root[10]) && (decide (m.key.root[11] = n.key.root[11]) && (decide (m.key.root[12] = n.key.root[12]) && (decide (m.key.root[13] = n.key.root[13]) && (decide (m.key.root[14] = n.key.root[14]) && (decide (m.key.root[15] = n.key.root[15]) && q2))))))))))))))))) (.done Exit.ret
  (lret (bo false))) (.done Exit.ret (lret (bo false)))))) (.br (if BinOp.eql = BinOp.neq then !(decide (m.key.asn = n.key.asn) && (decide (m.key.root[0] = n.key.root[0]) && (decide (m.key.root[1] = n.key.root[1]) && (decide (m.key.root[2] = n.key.root[2]) && (decide (m.key.root[3] = n.key.root[3]) && (decide (m.key.root[4] = n.key.root[4]) && (decide (m.key.root[5] = n.key.root[5]) && (decide (m.key.root[6] = n.key.root[6]) && (decide (m.key.root[7] = n.key.root[7]) && (decide (m.key.root[8] = n.key.root[8]) && (decide (m.key.root[9] = n.key.root[9]) && (decide (m.key.root[10] = n.key.root[10])
  && (decide (m.key.root[11] = n.key.root[11]) && (decide (m.key.root[12] = n.key.root[12]) && (decide (m.key.root[13] = n.key.root[13]) && (decide (m.key.root[14] = n.key.root[14]) && (decide (m.key.root[15] = n.key.root[15]) && q2))))))))))))))))) else decide (m.key.asn = n.key.asn) && (decide (m.key.root[0] = n.key.root[0]) && (decide (m.key.root[1] = n.key.root[1]) && (decide (m.key.root[2] = n.key.root[2]) && (decide (m.key.root[3] = n.key.root[3]) && (decide (m.key.root[4] = n.key.root[4]) && (decide (m.key.root[5] = n.key.root[5]) && (decide (m.key.root[6] = n.key.root[6]) && (decide
  (m.key.root[7] = n.key.root[7]) && (decide (m.key.root[8] = n.key.root[8]) && (decide (m.key.root[9] = n.key.root[9]) && (decide (m.key.root[10] = n.key.root[10]) && (decide (m.key.root[11] = n.key.root[11]) && (decide (m.key.root[12] = n.key.root[12]) && (decide (m.key.root[13] = n.key.root[13]) && (decide (m.key.root[14] = n.key.root[14]) && (decide (m.key.root[15] = n.key.root[15]) && q2))))))))))))))))) (.done Exit.ret (lret (bo false))) (.done Exit.ret (lret (bo false))))) (.br q3 (.need (ILeL [lu32 m.path.provs,lu32 n.path.provs] [slE 1 u32 m.path.provs,slE 1 u32 n.path.provs] ∧ ASpec
  prog 39 [slE 1 u32 m.path.provs,slE 1 u32 n.path.provs] (bo q0)) (.br q0 (.need (ILeL [lu8 m.copy,lu8 n.copy] [slE 1 u8 m.copy,slE 1 u8 n.copy] ∧ ASpec prog 40 [slE 1 u8 m.copy,slE 1 u8 n.copy] (bo (bstr m.copy == bstr n.copy))) (.done Exit.ret (lret (bo false)))) (.done Exit.ret (lret (bo false))))) (.done Exit.ret (lret (bo false))))) (.br q3 (.need (ILeL [lu32 m.path.provs,lu32 n.path.provs] [slE 1 u32 m.path.provs,slE 1 u32 n.path.provs] ∧ ASpec prog 39 [slE 1 u32 m.path.provs,slE 1 u32 n.path.provs] (bo q0)) (.br q0 (.need (ILeL [lu8 m.copy,lu8 n.copy] [slE 1 u8 m.copy,slE 1 u8 n.copy] ∧
  ASpec prog 40 [slE 1 u8 m.copy,slE 1 u8 n.copy] (bo (bstr m.copy == bstr n.copy))) (.done Exit.ret (lret (bo false)))) (.done Exit.ret (lret (bo false))))) (.done Exit.ret (lret (bo false))))) (.br q3 (.need (ILeL [lu32 m.path.provs,lu32 n.path.provs] [slE 1 u32 m.path.provs,slE 1 u32 n.path.provs] ∧ ASpec prog 39 [slE 1 u32 m.path.provs,slE 1 u32 n.path.provs] (bo q0)) (.br q0 (.need (ILeL [lu8 m.copy,lu8 n.copy] [slE 1 u8 m.copy,slE 1 u8 n.copy] ∧ ASpec prog 40 [slE 1 u8 m.copy,slE 1 u8 n.copy] (bo (bstr m.copy == bstr n.copy))) (.done Exit.ret (lret (bo false)))) (.done Exit.ret (lret (bo
  false))))) (.done Exit.ret (lret (bo false))))) (.br q3 (.need (ILeL [lu32 m.path.provs,lu32 n.path.provs] [slE 1 u32 m.path.provs,slE 1 u32 n.path.provs] ∧ ASpec prog 39 [slE 1 u32 m.path.provs,slE 1 u32 n.path.provs] (bo q0)) (.br q0 (.need (ILeL [lu8 m.copy,lu8 n.copy] [slE 1 u8 m.copy,slE 1 u8 n.copy] ∧ ASpec prog 40 [slE 1 u8 m.copy,slE 1 u8 n.copy] (bo (bstr m.copy == bstr n.copy))) (.done Exit.ret (lret (bo false)))) (.done Exit.ret (lret (bo false))))) (.done Exit.ret (lret (bo false))))) (.br q3 (.need (ILeL [lu32 m.path.provs,lu32 n.path.provs] [slE 1 u32 m.path.provs,slE 1 u32
  n.path.provs] ∧ ASpec prog 39 [slE 1 u32 m.path.provs,slE 1 u32 n.path.provs] (bo q0)) (.br q0 (.need (ILeL [lu8 m.copy,lu8 n.copy] [slE 1 u8 m.copy,slE 1 u8 n.copy] ∧ ASpec prog 40 [slE 1 u8 m.copy,slE 1 u8 n.copy] (bo (bstr m.copy == bstr n.copy))) (.done Exit.ret (lret (bo false)))) (.done Exit.ret (lret (bo false))))) (.done Exit.ret (lret (bo false))))) (.br q3 (.need (ILeL [lu32 m.path.provs,lu32 n.path.provs] [slE 1 u32 m.path.provs,slE 1 u32 n.path.provs] ∧ ASpec prog 39 [slE 1 u32 m.path.provs,slE 1 u32 n.path.provs] (bo q0)) (.br q0 (.need (ILeL [lu8 m.copy,lu8 n.copy] [slE 1 u8
  m.copy,slE 1 u8 n.copy] ∧ ASpec prog 40 [slE 1 u8 m.copy,slE 1 u8 n.copy] (bo (bstr m.copy == bstr n.copy))) (.done Exit.ret (lret (bo false)))) (.done Exit.ret (lret (bo false))))) (.done Exit.ret (lret (bo false))))) := by kernel_rfl
end Gp
namespace Gp
def P41 (l r : List Int) (i : Nat) : Bool := neI (l.getD i 0) (r.getD i 0)
def I41 (l r : List Int) (i : Nat) : LState := { t := [(5, .imm (i64 i)), (0, .imm (lu32 l)), (1, .imm (lu32 r))], s := [], m := 26, n := 0 }
def R41 (l r : List Int) (i : Nat) : LState := { t := [(4, .imm (bo false))], s := [], m := 26, n := 0 }
def E41 (l r : List Int) : LState := { t := [], s := [], m := 26, n := 0 }
def fin41 : Exit → Fin
  | .normal => ⟨[], [5, 0, 1], []⟩
  | .ret => ⟨[], [4], []⟩
  | _ => ⟨[], [], []⟩
def L41 (l r : List Int) : Tree := Lfirst (P41 l r) l.length 0 (R41 l r) (E41 l r)
def T41r (l r : List Int) (i : Nat) : Tell :=
  Tell.mk (fun x x_1 => false) (fun x x_1 => Orc.no) (fun x => Tree.fail 1000003 0) (fun x => 0) (fun x => ([],[])) (oget [(4,6,2,Orc.elem (u32 (List.getD l i default))),(4,6,6,Orc.elem (u32 (List.getD r i default)))]) fun x x_1 => Tree.fail 1000003 0
theorem t41r (l r : List Int) (i : Nat) : levL prog Proofs.Try.f41 4 (I41 l r i) (T41r l r i) fin41 =
  Tree.br (decide ((↑i : Int) < (↑(List.length (List.map u32 l)) : Int))) (.need (0 ≤ (↑i : Int) ∧ (List.map u32 l)[i]? = some (u32 (List.getD l i 0))) (.need (0 ≤ (↑i : Int) ∧ (List.map u32 r)[i]? = some (u32 (List.getD r i 0))) (.br (!decide (List.getD l i 0 = List.getD r i 0)) (.done Exit.ret (LState.mk [(4,.imm (bo false))] [] 26 14 [])) (.done Exit.normal (LState.mk [(5,.imm (i64 (IntKind.wrap IntKind.i64 ((↑i : Int) + 1)))),(0,.imm (lu32 l)),(1,.imm (lu32 r))] [] 26 16 []))))) (.done (Exit.exit 0) (LState.mk [] [] 26 4 [])) := by kernel_rfl
def T41 (l r : List Int) : Tell :=
  Tell.mk (fun x x_1 => false) (fun x x_1 => Orc.no) (fun x => L41 l r) (fun x => 0) (fun x => ([5,0,1],[])) (fun x x_1 x_2 => Orc.no) fun x x_1 => L41 l r
theorem t41 (l r : List Int) : levF prog Proofs.Try.f41 [lu32 l, lu32 r] (T41 l r) =
  Tree.br (!decide ((↑(List.length (List.map u32 l)) : Int) = (↑(List.length (List.map u32 r)) : Int))) (.done Exit.ret (lret (bo false))) (.loop 4 (LState.mk [(5,.imm (i64 0)),(0,.imm (lu32 l)),(1,.imm (lu32 r))] [] 26 7 []) (.br (anyI (P41 l r) 0 (List.length l)) (.done Exit.ret (R41 l r (firstI (P41 l r) 0 (List.length l)))) (.done (Exit.exit 0) (E41 l r))) (.br (anyI (P41 l r) 0 (List.length l)) (.done Exit.ret (lret (bo false))) (.done Exit.ret (lret (bo true))))) := by kernel_rfl
theorem l41 (l r : List Int) (hl : l.length ≤ 2 ^ 62) (hlr : l.length = r.length) (σ : LState) (h : LSub σ (I41 l r 0)) : LoopOk prog [] (bodyOf Proofs.Try.f41) 4 σ (L41 l r) := by
  refine LoopOk.first (P41 l r) l.length 0 (I41 l r) (R41 l r) (E41 l r) (T41r l r) fin41 (by kernel_rfl) h fun i hi hz => ?_
  rw [t41r]
  refine ⟨fun h1 => need_sat (elem_need ?_) (need_sat (elem_need ?_) ⟨fun h2 => ?_, fun h2 => ?_⟩), fun h1 => ?_⟩
  · (refine ⟨by omega, ?_, ?_⟩ <;> (simp only [List.length_map, decide_eq_true_eq, decide_eq_false_iff_not, Int.toNat_natCast] at * <;> omega))
  · (refine ⟨by omega, ?_, ?_⟩ <;> (simp only [List.length_map, decide_eq_true_eq, decide_eq_false_iff_not, Int.toNat_natCast] at * <;> omega))
  · exact ⟨by (simp only [List.length_map, decide_eq_true_eq, decide_eq_false_iff_not, Int.toNat_natCast] at * <;> omega), h2, by simp [R41, bo, LSub, tsub, ssub, tl, sl, linT, linS, ainB, ainBL]⟩
  · exact ⟨by (simp only [List.length_map, decide_eq_true_eq, decide_eq_false_iff_not, Int.toNat_natCast] at * <;> omega), h2, by simp [I41, i64, i64_small (n := i) (by (simp only [List.length_map, decide_eq_true_eq, decide_eq_false_iff_not, Int.toNat_natCast] at * <;> omega)) hl, LSub, tsub, ssub, tl, sl, linT, linS, ainB, ainBL]⟩
  · exact ⟨rfl, by (simp only [List.length_map, decide_eq_true_eq, decide_eq_false_iff_not, Int.toNat_natCast] at * <;> omega), by simp [E41, LSub, tsub, ssub, tl, sl, linT, linS, ainB, ainBL]⟩
theorem c41 (l r : List Int) (hl : l.length ≤ 2 ^ 62) : ASpec prog 41 [lu32 l, lu32 r] (bo (decide (l = r))) := by
  have he : sameL neI 0 l r = decide (l = r) := by rw [Bool.eq_iff_iff, sameL_iff (fun a b => by simp [neI])]; simp
  rw [← he]
  refine ASpec.treeW Proofs.Try.f41 (T41 l r) (by kernel_rfl) (by kernel_rfl) (t41 l r) ?_
  refine ⟨fun h1 => ⟨_, rfl, ?_⟩, fun h1 => ⟨?_, ⟨fun h2 => ⟨_, rfl, ?_⟩, fun h2 => ⟨_, rfl, ?_⟩⟩⟩⟩
  · have : ¬ l.length = r.length := by simp at h1; omega
    exact ile_bo (by simp [sameL, this])
  · exact l41 l r hl (by simp at h1; omega) _ (by simp [I41, i64, LSub, tsub, ssub, tl, sl, linT, linS, ainB, ainBL])
  · have : l.length = r.length := by simp at h1; omega
    refine ile_bo ?_
    simp only [sameL, show diffAt neI 0 l r = P41 l r from rfl, h2]; simp
  · have : l.length = r.length := by simp at h1; omega
    refine ile_bo ?_
    simp only [sameL, show diffAt neI 0 l r = P41 l r from rfl, h2]; simp [this]
def P27 (l r : List Int) (i : Nat) : Bool := neI (l.getD i 0) (r.getD i 0)
def I27 (l r : List Int) (i : Nat) : LState := { t := [(5, .imm (i64 i)), (0, .imm (lu8 l)), (1, .imm (lu8 r))], s := [], m := 26, n := 0 }
def R27 (l r : List Int) (i : Nat) : LState := { t := [(4, .imm (bo false))], s := [], m := 26, n := 0 }
def E27 (l r : List Int) : LState := { t := [], s := [], m := 26, n := 0 }
def fin27 : Exit → Fin
  | .normal => ⟨[], [5, 0, 1], []⟩
  | .ret => ⟨[], [4], []⟩
  | _ => ⟨[], [], []⟩
def L27 (l r : List Int) : Tree := Lfirst (P27 l r) l.length 0 (R27 l r) (E27 l r)
def T27r (l r : List Int) (i : Nat) : Tell :=
  Tell.mk (fun x x_1 => false) (fun x x_1 => Orc.no) (fun x => Tree.fail 1000003 0) (fun x => 0) (fun x => ([],[])) (oget [(4,6,2,Orc.elem (u8 (List.getD l i default))),(4,6,6,Orc.elem (u8 (List.getD r i default)))]) fun x x_1 => Tree.fail 1000003 0
theorem t27r (l r : List Int) (i : Nat) : levL prog Proofs.Try.f27 4 (I27 l r i) (T27r l r i) fin27 =
  Tree.br (decide ((↑i : Int) < (↑(List.length (List.map u8 l)) : Int))) (.need (0 ≤ (↑i : Int) ∧ (List.map u8 l)[i]? = some (u8 (List.getD l i 0))) (.need (0 ≤ (↑i : Int) ∧ (List.map u8 r)[i]? = some (u8 (List.getD r i 0))) (.br (!decide (List.getD l i 0 = List.getD r i 0)) (.done Exit.ret (LState.mk [(4,.imm (bo false))] [] 26 14 [])) (.done Exit.normal (LState.mk [(5,.imm (i64 (IntKind.wrap IntKind.i64 ((↑i : Int) + 1)))),(0,.imm (lu8 l)),(1,.imm (lu8 r))] [] 26 16 []))))) (.done (Exit.exit 0) (LState.mk [] [] 26 4 [])) := by kernel_rfl
def T27 (l r : List Int) : Tell :=
  Tell.mk (fun x x_1 => false) (fun x x_1 => Orc.no) (fun x => L27 l r) (fun x => 0) (fun x => ([5,0,1],[])) (fun x x_1 x_2 => Orc.no) fun x x_1 => L27 l r
theorem t27 (l r : List Int) : levF prog Proofs.Try.f27 [lu8 l, lu8 r] (T27 l r) =
  Tree.br (!decide ((↑(List.length (List.map u8 l)) : Int) = (↑(List.length (List.map u8 r)) : Int))) (.done Exit.ret (lret (bo false))) (.loop 4 (LState.mk [(5,.imm (i64 0)),(0,.imm (lu8 l)),(1,.imm (lu8 r))] [] 26 7 []) (.br (anyI (P27 l r) 0 (List.length l)) (.done Exit.ret (R27 l r (firstI (P27 l r) 0 (List.length l)))) (.done (Exit.exit 0) (E27 l r))) (.br (anyI (P27 l r) 0 (List.length l)) (.done Exit.ret (lret (bo false))) (.done Exit.ret (lret (bo true))))) := by kernel_rfl
theorem l27 (l r : List Int) (hl : l.length ≤ 2 ^ 62) (hlr : l.length = r.length) (σ : LState) (h : LSub σ (I27 l r 0)) : LoopOk prog [] (bodyOf Proofs.Try.f27) 4 σ (L27 l r) := by
  refine LoopOk.first (P27 l r) l.length 0 (I27 l r) (R27 l r) (E27 l r) (T27r l r) fin27 (by kernel_rfl) h fun i hi hz => ?_
  rw [t27r]
  refine ⟨fun h1 => need_sat (elem_need ?_) (need_sat (elem_need ?_) ⟨fun h2 => ?_, fun h2 => ?_⟩), fun h1 => ?_⟩
  · (refine ⟨by omega, ?_, ?_⟩ <;> (simp only [List.length_map, decide_eq_true_eq, decide_eq_false_iff_not, Int.toNat_natCast] at * <;> omega))
  · (refine ⟨by omega, ?_, ?_⟩ <;> (simp only [List.length_map, decide_eq_true_eq, decide_eq_false_iff_not, Int.toNat_natCast] at * <;> omega))
  · exact ⟨by (simp only [List.length_map, decide_eq_true_eq, decide_eq_false_iff_not, Int.toNat_natCast] at * <;> omega), h2, by simp [R27, bo, LSub, tsub, ssub, tl, sl, linT, linS, ainB, ainBL]⟩
  · exact ⟨by (simp only [List.length_map, decide_eq_true_eq, decide_eq_false_iff_not, Int.toNat_natCast] at * <;> omega), h2, by simp [I27, i64, i64_small (n := i) (by (simp only [List.length_map, decide_eq_true_eq, decide_eq_false_iff_not, Int.toNat_natCast] at * <;> omega)) hl, LSub, tsub, ssub, tl, sl, linT, linS, ainB, ainBL]⟩
  · exact ⟨rfl, by (simp only [List.length_map, decide_eq_true_eq, decide_eq_false_iff_not, Int.toNat_natCast] at * <;> omega), by simp [E27, LSub, tsub, ssub, tl, sl, linT, linS, ainB, ainBL]⟩
theorem c27 (l r : List Int) (hl : l.length ≤ 2 ^ 62) : ASpec prog 27 [lu8 l, lu8 r] (bo (decide (l = r))) := by
  have he : sameL neI 0 l r = decide (l = r) := by rw [Bool.eq_iff_iff, sameL_iff (fun a b => by simp [neI])]; simp
  rw [← he]
  refine ASpec.treeW Proofs.Try.f27 (T27 l r) (by kernel_rfl) (by kernel_rfl) (t27 l r) ?_
  refine ⟨fun h1 => ⟨_, rfl, ?_⟩, fun h1 => ⟨?_, ⟨fun h2 => ⟨_, rfl, ?_⟩, fun h2 => ⟨_, rfl, ?_⟩⟩⟩⟩
  · have : ¬ l.length = r.length := by simp at h1; omega
    exact ile_bo (by simp [sameL, this])
  · exact l27 l r hl (by simp at h1; omega) _ (by simp [I27, i64, LSub, tsub, ssub, tl, sl, linT, linS, ainB, ainBL])
  · have : l.length = r.length := by simp at h1; omega
    refine ile_bo ?_
    simp only [sameL, show diffAt neI 0 l r = P27 l r from rfl, h2]; simp
  · have : l.length = r.length := by simp at h1; omega
    refine ile_bo ?_
    simp only [sameL, show diffAt neI 0 l r = P27 l r from rfl, h2]; simp [this]
theorem ba_eq (a b : ByteArray) : (a == b) = true ↔ a = b := by
  obtain ⟨a⟩ := a; obtain ⟨b⟩ := b
  rw [ByteArray.mk.injEq]
  show (a == b) = true ↔ a = b
  simp
theorem pdu_eq (m n : Pdu) : decide (m = n) = (decide (m.version = n.version) && (decide (m.kind = n.kind) && (decide (m.session = n.session) && (decide (m.serial = n.serial) && ((m.add == n.add) && (!neO m.origin n.origin && (decide (m.path.cust = n.path.cust) && (decide (m.path.provs = n.path.provs) && (!neK m.key n.key && (decide (m.refresh = n.refresh) && (decide (m.retry = n.retry) && (decide (m.expire = n.expire) && (decide (m.code = n.code) && (decide (m.copy = n.copy) && (m.text == n.text)))))))))))))) ) := by
  have h1 : (!neO m.origin n.origin) = decide (m.origin = n.origin) := by
    rw [Bool.eq_iff_iff, Bool.not_eq_true', neO_iff]; simp
  have h2 : (!neK m.key n.key) = decide (m.key = n.key) := by
    rw [Bool.eq_iff_iff, Bool.not_eq_true', neK_iff]; simp
  rw [h1, h2]
  obtain ⟨v, k, s, r, a, o, ⟨pc, pp⟩, ky, x, y, z, c, cp, tx⟩ := m
  obtain ⟨v', k', s', r', a', o', ⟨pc', pp'⟩, ky', x', y', z', c', cp', tx'⟩ := n
  rw [Bool.eq_iff_iff]
  simp [and_assoc, ba_eq]
def T17 (m n : Pdu) : Tell :=
  Tell.mk (fun x x_1 => false) (fun x x_1 => Orc.no) (fun x => Tree.fail 1000003 0) (fun x => 0) (fun x => ([],[])) (oget [(44,2,17,Orc.call [lu32 m.path.provs,lu32 n.path.provs] (bo (decide (m.path.provs = n.path.provs)))),(44,2,59,Orc.call [lu8 m.copy,lu8 n.copy] (bo (decide (m.copy = n.copy))))]) fun x x_1 => Tree.fail 1000003 0
theorem t17 (m n : Pdu) : levF prog Proofs.Try.f17 [encD m, encD n] (T17 m n) =
  (let q0 := decide (m.origin.pfx.fam = n.origin.pfx.fam) && (decide (m.origin.pfx.addr.hi = n.origin.pfx.addr.hi) && (decide (m.origin.pfx.addr.lo = n.origin.pfx.addr.lo) && (decide (m.origin.pfx.len = n.origin.pfx.len) && (decide (m.origin.max = n.origin.max) && true)))); let q1 := decide (m.key.height = n.key.height) && true; let q2 := decide (m.path.provs = n.path.provs);
  Tree.br (decide (m.version = n.version)) (.br (decide (m.kind = n.kind)) (.br (decide (m.session = n.session)) (.br (decide (m.serial = n.serial)) (.br (m.add == n.add) (.br (if BinOp.eql = BinOp.neq then !(decide (m.origin.asn = n.origin.asn) && q0) else decide (m.origin.asn = n.origin.asn) && q0) (.br (decide (m.path.cust = n.path.cust)) (.need (ILeL [lu32 m.path.provs,lu32 n.path.provs] [lu32 m.path.provs,lu32 n.path.provs] ∧ ASpec prog 41 [lu32 m.path.provs,lu32 n.path.provs] (bo q2)) (.br q2 (.br (if BinOp.eql = BinOp.neq then !(decide (m.key.asn = n.key.asn) && (decide (m.key.root[0] =
  n.key.root[0]) && (decide (m.key.root[1] = n.key.root[1]) && (decide (m.key.root[2] = n.key.root[2]) && (decide (m.key.root[3] = n.key.root[3]) && (decide (m.key.root[4] = n.key.root[4]) && (decide (m.key.root[5] = n.key.root[5]) && (decide (m.key.root[6] = n.key.root[6]) && (decide (m.key.root[7] = n.key.root[7]) && (decide (m.key.root[8] = n.key.root[8]) && (decide (m.key.root[9] = n.key.root[9]) && (decide (m.key.root[10] = n.key.root[10]) && (decide (m.key.root[11] = n.key.root[11]) && (decide (m.key.root[12] = n.key.root[12]) && (decide (m.key.root[13] = n.key.root[13]) && (decide
  (m.key.root[14] = n.key.root[14]) && (decide (m.key.root[15] = n.key.root[15]) && q1))))))))))))))))) else decide (m.key.asn = n.key.asn) && (decide (m.key.root[0] = n.key.root[0]) && (decide (m.key.root[1] = n.key.root[1]) && (decide (m.key.root[2] = n.key.root[2]) && (decide (m.key.root[3] = n.key.root[3]) && (decide (m.key.root[4] = n.key.root[4]) && (decide (m.key.root[5] = n.key.root[5]) && (decide (m.key.root[6] = n.key.root[6]) && (decide (m.key.root[7] = n.key.root[7]) && (decide (m.key.root[8] = n.key.root[8]) && (decide (m.key.root[9] = n.key.root[9]) && (decide (m.key.root[10] =
  n.key.root[10]) && (decide (m.key.root[11] = n.key.root[11]) && (decide (m.key.root[12] = n.key.root[12]) && (decide (m.key.root[13] = n.key.root[13]) && (decide (m.key.root[14] = n.key.root[14]) && (decide (m.key.root[15] = n.key.root[15]) && q1))))))))))))))))) (.br (decide (m.refresh = n.refresh)) (.br (decide (m.retry = n.retry)) (.br (decide (m.expire = n.expire)) (.br (decide (m.code = n.code)) (.need (ILeL [lu8 m.copy,lu8 n.copy] [lu8 m.copy,lu8 n.copy] ∧ ASpec prog 27 [lu8 m.copy,lu8 n.copy] (bo (decide (m.copy = n.copy)))) (.br (decide (m.copy = n.copy)) (.done Exit.ret (lret (bo
  (m.text == n.text)))) (.done Exit.ret (lret (bo false))))) (.done Exit.ret (lret (bo false)))) (.done Exit.ret (lret (bo false)))) (.done Exit.ret (lret (bo false)))) (.done Exit.ret (lret (bo false)))) (.done Exit.ret (lret (bo false)))) (.done Exit.ret (lret (bo false))))) (.done Exit.ret (lret (bo false)))) (.done Exit.ret (lret (bo false)))) (.done Exit.ret (lret (bo false)))) (.done Exit.ret (lret (bo false)))) (.done Exit.ret (lret (bo false)))) (.done Exit.ret (lret (bo false)))) (.done Exit.ret (lret (bo false)))) := by kernel_rfl
def T11 (m : Pdu) : Tell :=
  Tell.mk (fun x x_1 => false) (fun x x_1 => Orc.no) (fun x => Tree.fail 1000003 0) (fun x => 0) (fun x => ([],[])) (fun x x_1 x_2 => Orc.no) fun x x_1 => Tree.fail 1000003 0
theorem t11 (m : Pdu) : levF prog Proofs.Try.f11 [encD m] (T11 m) =
  Tree.br (decide (5000 < (↑(List.length (List.map u8 m.copy)) : Int))) (.done Exit.ret (lret (bo true))) (.br (decide (5000 < (↑(ByteArray.size m.text) : Int))) (.done Exit.ret (lret (bo true))) (.done Exit.ret (lret (bo (decide (80 < (↑(List.length (List.map u32 m.path.provs)) : Int))))))) := by kernel_rfl
def great (m : Pdu) : Bool := decide (5000 < m.copy.length) || decide (5000 < m.text.size) || decide (80 < m.path.provs.length)
theorem c11 (m : Pdu) : ASpec prog 11 [encD m] (bo (great m)) := by
  refine ASpec.treeW Proofs.Try.f11 (T11 m) (by kernel_rfl) (by kernel_rfl) (t11 m) ?_
  refine ⟨fun h1 => ⟨_, rfl, ?_⟩, fun h1 => ⟨fun h2 => ⟨_, rfl, ?_⟩, fun h2 => ⟨_, rfl, ?_⟩⟩⟩
  all_goals simp only [decide_eq_true_eq, decide_eq_false_iff_not, List.length_map] at *
  all_goals exact ile_bo (by rw [Bool.eq_iff_iff]; simp [great] <;> omega)
theorem c17 (m n : Pdu) (h1c : m.copy.length ≤ 2 ^ 62) (h2c : m.path.provs.length ≤ 2 ^ 62) : ASpec prog 17 [encD m, encD n] (bo (decide (m = n))) := by
  refine ASpec.treeW Proofs.Try.f17 (T17 m n) (by kernel_rfl) (by kernel_rfl) (t17 m n) ?_
  have e := pdu_eq m n
  simp only [neO, neK, Bool.not_not] at e
  rw [e]
  refine ⟨fun h1 => ⟨fun h2 => ⟨fun h3 => ⟨fun h4 => ⟨fun h5 => ⟨fun h6 => ⟨fun h7 => need_sat ⟨ILeL.refl _, c41 _ _ ?_⟩ ⟨fun h8 => ⟨fun h9 => ⟨fun h10 => ⟨fun h11 => ⟨fun h12 => ⟨fun h13 => need_sat ⟨ILeL.refl _, c27 _ _ ?_⟩ ⟨fun h14 => ⟨_, rfl, ?_⟩, fun h14 => ⟨_, rfl, ?_⟩⟩, fun h13 => ⟨_, rfl, ?_⟩⟩, fun h12 => ⟨_, rfl, ?_⟩⟩, fun h11 => ⟨_, rfl, ?_⟩⟩, fun h10 => ⟨_, rfl, ?_⟩⟩, fun h9 => ⟨_, rfl, ?_⟩⟩, fun h8 => ⟨_, rfl, ?_⟩⟩, fun h7 => ⟨_, rfl, ?_⟩⟩, fun h6 => ⟨_, rfl, ?_⟩⟩, fun h5 => ⟨_, rfl, ?_⟩⟩, fun h4 => ⟨_, rfl, ?_⟩⟩, fun h3 => ⟨_, rfl, ?_⟩⟩, fun h2 => ⟨_, rfl, ?_⟩⟩, fun h1 => ⟨_, rfl, ?_⟩⟩
  all_goals try assumption
  all_goals clear e
  all_goals refine ile_bo ?_
  all_goals try simp only [reduceCtorEq, if_false] at h6
  all_goals try simp only [reduceCtorEq, if_false] at h9
  all_goals simp only [*, Bool.true_and, Bool.false_and, Bool.and_false]
theorem c16 (m n : Pdu) (h2c : m.path.provs.length ≤ 2 ^ 62) (hb : (bstr m.copy == bstr n.copy) = decide (m.copy = n.copy)) : ASpec prog 16 [encD m, encD n] (bo (decide (m = n))) := by
  refine ASpec.treeW Proofs.Try.f16 (T16 m n) (by kernel_rfl) (by kernel_rfl) (t16 m n) ?_
  have e := pdu_eq m n
  simp only [neO, neK, Bool.not_not] at e
  rw [e]
  refine ⟨fun h1 => ⟨fun h2 => ⟨fun h3 => ⟨fun h4 => ⟨fun h5 => ⟨fun h6 => ⟨fun h7 => need_sat ⟨ILeL.refl _, c39 _ _ ?_⟩ ⟨fun h8 => need_sat ⟨ILeL.refl _, c40 _ _⟩ ⟨fun h9 => ⟨fun h10 => ⟨fun h11 => ⟨fun h12 => ⟨fun h13 => ⟨fun h14 => ⟨_, rfl, ?_⟩, fun h14 => ⟨_, rfl, ?_⟩⟩, fun h13 => ⟨_, rfl, ?_⟩⟩, fun h12 => ⟨_, rfl, ?_⟩⟩, fun h11 => ⟨_, rfl, ?_⟩⟩, fun h10 => ⟨_, rfl, ?_⟩⟩, fun h9 => ⟨_, rfl, ?_⟩⟩, fun h8 => ⟨fun h9 => ⟨_, rfl, ?_⟩, fun h9 => ⟨_, rfl, ?_⟩⟩⟩, fun h7 => ⟨fun h8 => ⟨_, rfl, ?_⟩, fun h8 => ⟨_, rfl, ?_⟩⟩⟩, fun h6 => ⟨fun h7 => need_sat ⟨ILeL.refl _, c39 _ _ ?_⟩ ⟨fun h8 => need_sat ⟨ILeL.refl _, c40 _ _⟩ ⟨_, rfl, ?_⟩, fun h8 => ⟨_, rfl, ?_⟩⟩, fun h7 => ⟨_, rfl, ?_⟩⟩⟩, fun h5 => ⟨fun h6 => need_sat ⟨ILeL.refl _, c39 _ _ ?_⟩ ⟨fun h7 => need_sat ⟨ILeL.refl _, c40 _ _⟩ ⟨_, rfl, ?_⟩, fun h7 => ⟨_, rfl, ?_⟩⟩, fun h6 => ⟨_, rfl, ?_⟩⟩⟩, fun h4 => ⟨fun h5 => need_sat ⟨ILeL.refl _, c39 _ _ ?_⟩ ⟨fun h6 => need_sat ⟨ILeL.refl _, c40 _ _⟩ ⟨_, rfl, ?_⟩, fun h6 => ⟨_, rfl, ?_⟩⟩, fun h5 => ⟨_, rfl, ?_⟩⟩⟩, fun h3 => ⟨fun h4 => need_sat ⟨ILeL.refl _, c39 _ _ ?_⟩ ⟨fun h5 => need_sat ⟨ILeL.refl _, c40 _ _⟩ ⟨_, rfl, ?_⟩, fun h5 => ⟨_, rfl, ?_⟩⟩, fun h4 => ⟨_, rfl, ?_⟩⟩⟩, fun h2 => ⟨fun h3 => need_sat ⟨ILeL.refl _, c39 _ _ ?_⟩ ⟨fun h4 => need_sat ⟨ILeL.refl _, c40 _ _⟩ ⟨_, rfl, ?_⟩, fun h4 => ⟨_, rfl, ?_⟩⟩, fun h3 => ⟨_, rfl, ?_⟩⟩⟩, fun h1 => ⟨fun h2 => need_sat ⟨ILeL.refl _, c39 _ _ ?_⟩ ⟨fun h3 => need_sat ⟨ILeL.refl _, c40 _ _⟩ ⟨_, rfl, ?_⟩, fun h3 => ⟨_, rfl, ?_⟩⟩, fun h2 => ⟨_, rfl, ?_⟩⟩⟩
  all_goals try assumption
  all_goals clear e
  all_goals refine ile_bo ?_
  all_goals try replace h10 := hb.symm.trans h10
  all_goals clear hb
  all_goals try simp only [reduceCtorEq, if_false] at h6
  all_goals try simp only [reduceCtorEq, if_false] at h9
  all_goals simp only [*, Bool.true_and, Bool.false_and, Bool.and_false]
end Gp
namespace Gp
def T14y (p : Pdu) : Tell :=
  Tell.mk (fun x x_1 => false) (fun r i => if (r == 3 && i == 3) = true then Orc.look (AVal.imm (formI p.kind)) true else Orc.no) (fun x => Tree.fail 1000003 0) (fun x => 0) (fun x => ([],[])) (ogetO (fun r i => if (r == 3 && i == 3) = true then Orc.look (AVal.imm (formI p.kind)) true else Orc.no) [(19,3,0,Orc.call [] (.map ksF dsF)),(29,4,12,Orc.call [encD p] (bo (ckD p))),(44,6,2,Orc.call [encD p,formI p.kind] (slF 1 u8 (encB p))),(44,6,3,Orc.call [slE 1 u8 (encB p)] (.tup [encD (rdF (encB p)).fst,bo (rdF (encB p)).snd])),(54,7,5,Orc.call [encD p,encD (rdF (encB p)).fst] (bo (decide (p = (rdF
  (encB p)).fst))))]) fun x x_1 => Tree.fail 1000003 0
theorem t14y (p : Pdu) : levF prog Proofs.Try.f14 [encD p] (T14y p) =
  (let q0 := rdF (encB p);
  Tree.br (decide (4096 < (↑(List.length (List.map u8 p.copy)) : Int))) (.done Exit.ret (lret (i64 4))) (.br (decide (200 < (↑(ByteArray.size p.text) : Int))) (.done Exit.ret (lret (i64 4))) (.br (decide (50 < (↑(List.length (List.map u32 p.path.provs)) : Int))) (.done Exit.ret (lret (i64 4))) (.need (ILeL [] [] ∧ ASpec prog 34 [] (.map ksF dsF)) (.need (true = true ∧ (if p.kind = 0 then (AVal.imm (formI 0),true) else if p.kind = 1 then (AVal.imm (formI 1),true) else if p.kind = 2 then (AVal.imm (formI 2),true) else if p.kind = 8 then (AVal.imm (formI 8),true) else if p.kind = 4 then (AVal.imm
  (formI 4),true) else if p.kind = 6 then (AVal.imm (formI 6),true) else if p.kind = 3 then (AVal.imm (formI 3),true) else if p.kind = 7 then (AVal.imm (formI 7),true) else if p.kind = 9 then (AVal.imm (formI 9),true) else if p.kind = 10 then (AVal.imm (formI 10),true) else if p.kind = 11 then (AVal.imm (formI 11),true) else (AVal.imm (IVal.agg [IVal.v Value.nilFunc,IVal.v Value.nilFunc,IVal.v Value.nilFunc,IVal.v Value.nilFunc,IVal.v Value.nilFunc]),false)) = (AVal.imm (formI p.kind),true)) (.br false (.done Exit.ret (lret (i64 8))) (.br (decide (2 < p.version)) (.done Exit.ret (lret (i64 8)))
  (.need (ILeL [.agg [u8 p.version,u8 p.kind,u16 p.session,u32 p.serial,bo p.add,u32 p.origin.asn,u8 p.origin.pfx.fam,u64 p.origin.pfx.addr.hi,u64 p.origin.pfx.addr.lo,i64 p.origin.pfx.len,i64 p.origin.max,u32 p.path.cust,lu32 p.path.provs,u32 p.key.asn,u8 p.key.root[0],u8 p.key.root[1],u8 p.key.root[2],u8 p.key.root[3],u8 p.key.root[4],u8 p.key.root[5],u8 p.key.root[6],u8 p.key.root[7],u8 p.key.root[8],u8 p.key.root[9],u8 p.key.root[10],u8 p.key.root[11],u8 p.key.root[12],u8 p.key.root[13],u8 p.key.root[14],u8 p.key.root[15],i64 p.key.height,u32 p.refresh,u32 p.retry,u32 p.expire,u16 p.code,lu8
  p.copy,st p.text]] [encD p] ∧ ASpec prog (chkN p.kind) [encD p] (bo (ckD p))) (.br (!ckD p) (.done Exit.ret (lret (i64 8))) (.need (ILeL [encD p,formI p.kind] [encD p,formI p.kind] ∧ ASpec prog 36 [encD p,formI p.kind] (slF 1 u8 (encB p))) (.need (ILeL [slF 1 u8 (encB p)] [slE 1 u8 (encB p)] ∧ ASpec prog 35 [slE 1 u8 (encB p)] (.tup [encD q0.fst,bo q0.snd])) (.br (!q0.snd) (.done Exit.ret (lret (i64 8))) (.need (ILeL [encD p,encD q0.fst] [encD p,encD q0.fst] ∧ ASpec prog 16 [encD p,encD q0.fst] (bo (decide (p = q0.fst)))) (.br (!decide (p = q0.fst)) (.done Exit.ret (lret (i64 8))) (.done
  Exit.ret (lret (i64 0))))))))))))))))) := by kernel_rfl
def T14n (p : Pdu) : Tell :=
  Tell.mk (fun x x_1 => false) (fun r i => if (r == 3 && i == 3) = true then Orc.look (.imm (.agg [.v Value.nilFunc,.v Value.nilFunc,.v Value.nilFunc,.v Value.nilFunc,.v Value.nilFunc])) false else Orc.no) (fun x => Tree.fail 1000003 0) (fun x => 0) (fun x => ([],[])) (ogetO (fun r i => if (r == 3 && i == 3) = true then Orc.look (.imm (.agg [.v Value.nilFunc,.v Value.nilFunc,.v Value.nilFunc,.v Value.nilFunc,.v Value.nilFunc])) false else Orc.no) [(19,3,0,Orc.call [] (.map ksF dsF))]) fun x x_1 => Tree.fail 1000003 0
theorem t14n (p : Pdu) : levF prog Proofs.Try.f14 [encD p] (T14n p) =
  (let q0 := decide (50 < (↑(List.length (List.map u32 p.path.provs)) : Int)); let q1 := decide (200 < (↑(ByteArray.size p.text) : Int)); let q2 := List.length (List.map u8 p.copy); let q3 := decide (2 < p.version);
  Tree.br (decide (4096 < (↑q2 : Int))) (.done Exit.ret (lret (i64 4))) (.br q1 (.done Exit.ret (lret (i64 4))) (.br q0 (.done Exit.ret (lret (i64 4))) (.need (ILeL [] [] ∧ ASpec prog 34 [] (.map ksF dsF)) (.need (true = true ∧ (if p.kind = 0 then (AVal.imm (formI 0),true) else if p.kind = 1 then (AVal.imm (formI 1),true) else if p.kind = 2 then (AVal.imm (formI 2),true) else if p.kind = 8 then (AVal.imm (formI 8),true) else if p.kind = 4 then (AVal.imm (formI 4),true) else if p.kind = 6 then (AVal.imm (formI 6),true) else if p.kind = 3 then (AVal.imm (formI 3),true) else if p.kind = 7 then
  (AVal.imm (formI 7),true) else if p.kind = 9 then (AVal.imm (formI 9),true) else if p.kind = 10 then (AVal.imm (formI 10),true) else if p.kind = 11 then (AVal.imm (formI 11),true) else (AVal.imm (IVal.agg [IVal.v Value.nilFunc,IVal.v Value.nilFunc,IVal.v Value.nilFunc,IVal.v Value.nilFunc,IVal.v Value.nilFunc]),false)) = (.imm (.agg [.v Value.nilFunc,.v Value.nilFunc,.v Value.nilFunc,.v Value.nilFunc,.v Value.nilFunc]),false)) (.br true (.done Exit.ret (lret (i64 8))) (.br q3 (.done Exit.ret (lret (i64 8))) (.stop (LState.mk [(38,.imm (bo false)),(42,.agg [.imm (u8 p.version),.imm (u8
  p.kind),.imm (u16 p.session),.imm (u32 p.serial),.imm (bo p.add),.imm (u32 p.origin.asn),.imm (u8 p.origin.pfx.fam),.imm (u64 p.origin.pfx.addr.hi),.imm (u64 p.origin.pfx.addr.lo),.imm (i64 p.origin.pfx.len),.imm (i64 p.origin.max),.imm (u32 p.path.cust),.imm (lu32 p.path.provs),.imm (u32 p.key.asn),.imm (u8 p.key.root[0]),.imm (u8 p.key.root[1]),.imm (u8 p.key.root[2]),.imm (u8 p.key.root[3]),.imm (u8 p.key.root[4]),.imm (u8 p.key.root[5]),.imm (u8 p.key.root[6]),.imm (u8 p.key.root[7]),.imm (u8 p.key.root[8]),.imm (u8 p.key.root[9]),.imm (u8 p.key.root[10]),.imm (u8 p.key.root[11]),.imm (u8
  p.key.root[12]),.imm (u8 p.key.root[13]),.imm (u8 p.key.root[14]),.imm (u8 p.key.root[15]),.imm (i64 p.key.height),.imm (u32 p.refresh),.imm (u32 p.retry),.imm (u32 p.expire),.imm (u16 p.code),.imm (lu8 p.copy),.imm (st p.text)]),(41,.imm (encD p)),(40,.imm (.v Value.nilFunc)),(39,.ptr 26 0),(37,.imm (bo q3)),(36,.imm (bo q3)),(33,.imm (bo false)),(35,.imm (u8 p.version)),(34,.ptr 0 0),(32,.imm (bo true)),(31,.imm (bo false)),(4,.imm (bo false)),(3,.ptr 26 0),(30,.imm (bo false)),(29,.imm (.agg [.v Value.nilFunc,.v Value.nilFunc,.v Value.nilFunc,.v Value.nilFunc,.v Value.nilFunc])),(24,.tup
  [.imm (.agg [.v Value.nilFunc,.v Value.nilFunc,.v Value.nilFunc,.v Value.nilFunc,.v Value.nilFunc]),.imm (bo false)]),(28,.tup [.imm (.agg [.v Value.nilFunc,.v Value.nilFunc,.v Value.nilFunc,.v Value.nilFunc,.v Value.nilFunc]),.imm (bo false)]),(27,.imm (u8 p.kind)),(26,.ptr 0 1),(25,.imm (.map ksF dsF)),(23,.imm (bo q0)),(22,.imm (bo q0)),(17,.imm (bo false)),(21,.imm (i64 (↑(List.length (List.map u32 p.path.provs)) : Int))),(20,.imm (lu32 p.path.provs)),(19,.ptr 0 12),(18,.ptr 0 11),(16,.imm (bo q1)),(15,.imm (bo q1)),(11,.imm (bo false)),(14,.imm (i64 (↑(ByteArray.size p.text) :
  Int))),(13,.imm (st p.text)),(12,.ptr 0 36),(10,.imm (bo (decide (4096 < (↑q2 : Int))))),(9,.imm (i64 (↑q2 : Int))),(8,.imm (lu8 p.copy)),(7,.ptr 0 35),(2,.imm (i64 0)),(1,.ptr 0 0),(0,.imm (encD p))] [(26,Entry.box 80 (.imm (.agg [.v Value.nilFunc,.v Value.nilFunc,.v Value.nilFunc,.v Value.nilFunc,.v Value.nilFunc]))),(0,Entry.box 42 (.imm (encD p)))] 61 29 [(38,false),(33,false),(17,false),(11,false)]) 4 12 (Op.call (Call.mk (Callee.value (Operand.tmp 40)) (Array.mk [Operand.tmp 42]) (Array.mk [85]))))))))))) := by kernel_rfl
def byteL (l : List Int) : Prop := ∀ x ∈ l, 0 ≤ x ∧ x < 256
theorem byteL_nil : byteL [] := fun x h => by simp at h
theorem byteL_app {a b : List Int} (ha : byteL a) (hb : byteL b) : byteL (a ++ b) := fun x h => by
  rcases List.mem_append.1 h with h | h
  · exact ha x h
  · exact hb x h
theorem byteL_sub {a b : List Int} (ha : byteL a) (h : ∀ x ∈ b, x ∈ a) : byteL b := fun x hx => ha x (h x hx)
theorem wrap8 (x : Int) : 0 ≤ IntKind.u8.wrap x ∧ IntKind.u8.wrap x < 256 := by
  show 0 ≤ x % 256 ∧ x % 256 < 256
  omega
theorem num_byte (x n : Int) : byteL (num x n) := by
  rw [num_eq]
  intro y hy
  simp only [nbI, List.mem_map] at hy
  obtain ⟨j, _, rfl⟩ := hy
  exact wrap8 _
theorem flI_byte (b : Bool) : byteL (flI b) := num_byte _ _
theorem bytesL_byte (s : ByteArray) : byteL (bytesL s) := by
  intro y hy
  simp only [bytesL, List.mem_map] at hy
  obtain ⟨b, _, rfl⟩ := hy
  have := b.toNat_lt
  omega
theorem pvL_byte (l : List Int) : byteL (pvL l) := by
  intro y hy
  simp only [pvL, List.mem_flatMap] at hy
  obtain ⟨x, _, hx⟩ := hy
  exact num_byte _ _ y hx
def wfB (p : Pdu) : Prop := byteL p.copy ∧ byteL (rootL p.key)
theorem hdL_byte (p : Pdu) : byteL (hdL p) := by
  unfold hdL; repeat' split
  · exact byteL_app (flI_byte _) (num_byte _ _)
  · exact num_byte _ _
  · exact num_byte _ _
  · exact num_byte _ _
theorem rsL_byte (p : Pdu) (h : wfB p) : byteL (rsL p) := by
  have n := num_byte
  unfold rsL; repeat' split
  · unfold rs57
    refine byteL_app (byteL_app (byteL_app (byteL_app (byteL_app (flI_byte _) (n _ _)) (n _ _)) (n _ _)) ?_) (n _ _)
    split
    · exact byteL_app (n _ _) (n _ _)
    · exact n _ _
  · unfold rs60 rs49
    refine byteL_app (n _ _) ?_
    split
    · exact byteL_app (byteL_app (n _ _) (n _ _)) (n _ _)
    · exact byteL_nil
  · exact byteL_app (byteL_app (n _ _) (n _ _)) h.2
  · exact byteL_app (byteL_app (byteL_app (n _ _) h.1) (n _ _)) (bytesL_byte _)
  · exact byteL_app (n _ _) (pvL_byte _)
  · exact n _ _
  · exact byteL_nil
theorem encB_byte (p : Pdu) (h : wfB p) : byteL (encB p) := byteL_app (byteL_app (byteL_app (byteL_app (num_byte _ _) (num_byte _ _)) (hdL_byte p)) (num_byte _ _)) (rsL_byte p h)
theorem rdF_byte (l : List Int) (h : byteL l) : byteL (rdF l).1.copy := by
  cases hk : rdOk l with
  | false => rw [rdF_no hk]; exact byteL_nil
  | true =>
    rw [rdF_yes hk]
    show byteL (rdV l).copy
    unfold rdV; repeat' split
    · exact byteL_nil
    · show byteL (fCopy (d8 l))
      refine byteL_sub h fun x hx => ?_
      unfold fCopy at hx
      rw [d8_eq] at hx
      exact List.mem_of_mem_drop (List.mem_of_mem_drop (List.mem_of_mem_take hx))
    · exact byteL_nil
    · have e : (rdS l).copy = [] := (tS_nil (p1 l) (d8 l) rfl rfl).2
      rw [e]; exact byteL_nil
theorem bstr_data (l : List Int) (r : ByteArray) : (l.foldl (fun r n => r.push (UInt8.ofNat n.toNat)) r).data.toList = r.data.toList ++ l.map fun n => UInt8.ofNat n.toNat := by
  induction l generalizing r with
  | nil => simp
  | cons x l ih =>
    rw [List.foldl_cons, ih]
    show (r.data.push _).toList ++ _ = _
    simp
theorem bstr_inj {a b : List Int} (ha : byteL a) (hb : byteL b) : (bstr a == bstr b) = decide (a = b) := by
  rw [Bool.eq_iff_iff, ba_eq, decide_eq_true_eq]
  refine ⟨fun h => ?_, fun h => by rw [h]⟩
  have h1 := congrArg (fun s : ByteArray => s.data.toList) h
  simp only [bstr, bstr_data] at h1
  have h2 := (List.append_right_inj _).1 h1
  refine List.ext_getElem (by simpa using congrArg List.length h2) fun i h3 h4 => ?_
  have h5 := congrArg (fun l : List UInt8 => l[i]?) h2
  simp only [List.getElem?_map, List.getElem?_eq_getElem h3, List.getElem?_eq_getElem h4, Option.map_some, Option.some.injEq] at h5
  have h6 := congrArg UInt8.toNat h5
  simp only [UInt8.toNat_ofNat'] at h6
  have r1 := ha _ (List.getElem_mem h3)
  have r2 := hb _ (List.getElem_mem h4)
  omega
theorem encB_len (p : Pdu) : (encB p).length = 8 + (rsL p).length := by
  simp [encB, num_len, hdL_len]; omega
theorem rsL_le (p : Pdu) : (rsL p).length ≤ 40 + p.copy.length + p.text.size + 4 * p.path.provs.length := by
  unfold rsL; repeat' split
  · simp only [rs57, List.length_append, flI_len, num_len]; split <;> simp [num_len] <;> omega
  · simp only [rs60, rs49, List.length_append, num_len]; split <;> simp [num_len] <;> omega
  · simp [rs64, num_len, rootL]; omega
  · simp [rs69, num_len, bytesL]; omega
  · simp [rs73, num_len, pvL_len]; omega
  · simp [rs49, num_len]; omega
  · simp
def chk (p : Pdu) : Int := if 4096 < p.copy.length ∨ 200 < p.text.size ∨ 50 < p.path.provs.length then 4 else
  if ¬ isK p.kind ∨ 2 < p.version ∨ ckD p = false then 8 else if (rdF (encB p)).2 = true ∧ p = (rdF (encB p)).1 then 0 else 8
def small (p : Pdu) : Prop := ¬ (4096 < p.copy.length ∨ 200 < p.text.size ∨ 50 < p.path.provs.length)
theorem chk_b {p : Pdu} (h : ¬ small p) : chk p = 4 := if_pos (Classical.not_not.1 h)
theorem chk_k {p : Pdu} (h : small p) (hk : ¬ isK p.kind) : chk p = 8 := (if_neg h).trans (if_pos (.inl hk))
theorem chk_v {p : Pdu} (h : small p) (hv : 2 < p.version) : chk p = 8 := (if_neg h).trans (if_pos (.inr (.inl hv)))
theorem chk_c {p : Pdu} (h : small p) (hc : ckD p = false) : chk p = 8 := (if_neg h).trans (if_pos (.inr (.inr hc)))
theorem chk_p {p : Pdu} (h : small p) (hk : isK p.kind) (hv : ¬ 2 < p.version) (hc : ckD p = true) : chk p = if (rdF (encB p)).2 = true ∧ p = (rdF (encB p)).1 then 0 else 8 :=
  (if_neg h).trans (if_neg fun hh => hh.elim (fun h => h hk) fun h => h.elim hv fun h => by rw [hc] at h; cases h)
theorem chk_r {p : Pdu} (h : small p) (hk : isK p.kind) (hv : ¬ 2 < p.version) (hc : ckD p = true) (hr : (rdF (encB p)).2 = false) : chk p = 8 := (chk_p h hk hv hc).trans (if_neg fun hh => by rw [hr] at hh; cases hh.1)
theorem chk_n {p : Pdu} (h : small p) (hk : isK p.kind) (hv : ¬ 2 < p.version) (hc : ckD p = true) (hr : ¬ p = (rdF (encB p)).1) : chk p = 8 := (chk_p h hk hv hc).trans (if_neg fun hh => hr hh.2)
theorem chk_o {p : Pdu} (h : small p) (hk : isK p.kind) (hv : ¬ 2 < p.version) (hc : ckD p = true) (hr : (rdF (encB p)).2 = true) (hp : p = (rdF (encB p)).1) : chk p = 0 := (chk_p h hk hv hc).trans (if_pos ⟨hr, hp⟩)
theorem c14 (p : Pdu) (hw : wfB p) : ASpec prog 14 [encD p] (i64 (chk p)) := by
  by_cases hk : isK p.kind
  · refine ASpec.treeW Proofs.Try.f14 (T14y p) (by kernel_rfl) (by kernel_rfl) (t14y p) ?_
    have hlen := encB_len p
    have hle := rsL_le p
    have hb := bstr_inj hw.1 (rdF_byte _ (encB_byte p hw))
    refine ⟨fun h1 => ⟨_, rfl, ?_⟩, fun h1 => ⟨fun h2 => ⟨_, rfl, ?_⟩, fun h2 => ⟨fun h3 => ⟨_, rfl, ?_⟩, fun h3 => need_sat ⟨ILeL.refl _, c34⟩ (need_sat ?_ ⟨fun h => (by cases h), fun _ => ⟨fun h4 => ⟨_, rfl, ?_⟩, fun h4 => need_sat ⟨ILeL.refl _, cchkN _ ?_⟩ ⟨fun h5 => ⟨_, rfl, ?_⟩, fun h5 => need_sat ⟨ILeL.refl _, c36 _ ?_ ?_⟩ (need_sat ⟨(by repeat' first | exact ILeL.refl _ | exact ILe.refl _ | exact ILe.nil _ _ _ | exact ILe.sl (fun h => by cases h) (fun h => h) (ILeL.refl _) | apply ILeL.cons | apply ILe.agg | apply ILe.tup), c35 _ ?_⟩ ⟨fun h6 => ⟨_, rfl, ?_⟩, fun h6 => need_sat ⟨ILeL.refl _, c16 _ _ ?_ ?_⟩ ⟨fun h7 => ⟨_, rfl, ?_⟩, fun h7 => ⟨_, rfl, ?_⟩⟩⟩)⟩⟩⟩)⟩⟩⟩
    all_goals try first
      | assumption
      | exact ⟨rfl, look_y hk⟩
    all_goals simp only [decide_eq_true_eq, decide_eq_false_iff_not, List.length_map, Bool.not_eq_true', Bool.not_eq_false'] at *
    all_goals try first
      | omega
      | (unfold Pdu.ok; omega)
      | exact ile_eq (congrArg i64 (chk_b (by unfold small; omega))).symm
      | exact ile_eq (congrArg i64 (chk_v (by unfold small; omega) (by omega))).symm
      | exact ile_eq (congrArg i64 (chk_c (by unfold small; omega) (by assumption))).symm
      | exact ile_eq (congrArg i64 (chk_r (by unfold small; omega) hk (by omega) (by assumption) (by assumption))).symm
      | exact ile_eq (congrArg i64 (chk_n (by unfold small; omega) hk (by omega) (by assumption) (by assumption))).symm
      | exact ile_eq (congrArg i64 (chk_o (by unfold small; omega) hk (by omega) (by assumption) (by assumption) (by assumption))).symm
  · refine ASpec.treeW Proofs.Try.f14 (T14n p) (by kernel_rfl) (by kernel_rfl) (t14n p) ?_
    refine ⟨fun h1 => ⟨_, rfl, ?_⟩, fun h1 => ⟨fun h2 => ⟨_, rfl, ?_⟩, fun h2 => ⟨fun h3 => ⟨_, rfl, ?_⟩, fun h3 => need_sat ⟨ILeL.refl _, c34⟩ (need_sat ?_ ⟨fun _ => ⟨_, rfl, ?_⟩, fun h => (by cases h)⟩)⟩⟩⟩
    all_goals try first
      | exact ⟨rfl, look_n hk⟩
    all_goals simp only [decide_eq_true_eq, decide_eq_false_iff_not, List.length_map] at *
    all_goals try first
      | exact ile_eq (congrArg i64 (chk_b (by unfold small; omega))).symm
      | exact ile_eq (congrArg i64 (chk_k (by unfold small; omega) hk)).symm
end Gp
namespace Gp
end Gp
namespace Gp
section
variable {H : Type} {enc : TypeId × Value → H} {w : World} {base : Nat} {spare : Nat → Bool} {held : Bool}
theorem wf_in {k : IntKind} {n : Int} (h : (Lit.int k n).wf = true) : k.min ≤ n ∧ n ≤ k.max := by simpa [Lit.wf] using h
theorem iv {k : IntKind} {n : Int} : IRep w (allF w) (.v (.int k n)) (.int k n) := by rw [IRep]; exact ⟨rfl, rfl⟩
theorem ib {b : Bool} : IRep w (allF w) (bo b) (.bool b) := by rw [bo, IRep]; exact ⟨rfl, rfl⟩
theorem ic {d : IVal} {ds : List IVal} {u : Value} {us : List Value} (h : IRep w (allF w) d u) (h' : IRepL w (allF w) ds us) : IRepL w (allF w) (d :: ds) (u :: us) := by rw [IRepL]; exact ⟨u, us, rfl, h, h'⟩
theorem in0 : IRepL w (allF w) [] [] := by rw [IRepL]
theorem ia {ds : List IVal} {us : List Value} (h : IRepL w (allF w) ds us) (ho : ds.all ione = true) : IRep w (allF w) (.agg ds) (.agg us.toArray) := by rw [IRep]; exact ⟨us.toArray, rfl, by simpa using h, ho⟩
end
end Gp
