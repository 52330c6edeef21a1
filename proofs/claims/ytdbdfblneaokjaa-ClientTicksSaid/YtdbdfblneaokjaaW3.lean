/- Part 3 of the walk and of the plain law of ClientTicks. -/
import Derived.Test.YtdbdfblneaokjaaW2

set_option maxRecDepth 100000
set_option maxHeartbeats 0
set_option linter.unusedVariables false
set_option linter.unusedSimpArgs false
open Go Go.Abs
namespace Gp
/-! messages -/
structure Pdu where
  version : Int
  kind : Int
  session : Int
  serial : Int
  add : Bool
  origin : Origin
  path : Attest
  key : RKey
  refresh : Int
  retry : Int
  expire : Int
  code : Int
  copy : List Int
  text : ByteArray
  deriving DecidableEq
instance : Inhabited Pdu := ⟨⟨0, 0, 0, 0, false, default, default, default, 0, 0, 0, 0, [], .empty⟩⟩
def st (s : ByteArray) : IVal := .v (.string s)
def encD (m : Pdu) : IVal := .agg [u8 m.version, u8 m.kind, u16 m.session, u32 m.serial, bo m.add, u32 m.origin.asn, u8 m.origin.pfx.fam, u64 m.origin.pfx.addr.hi, u64 m.origin.pfx.addr.lo, i64 m.origin.pfx.len, i64 m.origin.max, u32 m.path.cust, lu32 m.path.provs,
  u32 m.key.asn, u8 m.key.root[0], u8 m.key.root[1], u8 m.key.root[2], u8 m.key.root[3], u8 m.key.root[4], u8 m.key.root[5], u8 m.key.root[6], u8 m.key.root[7], u8 m.key.root[8], u8 m.key.root[9], u8 m.key.root[10], u8 m.key.root[11], u8 m.key.root[12], u8 m.key.root[13], u8 m.key.root[14], u8 m.key.root[15], i64 m.key.height,
  u32 m.refresh, u32 m.retry, u32 m.expire, u16 m.code, lu8 m.copy, st m.text]
def T35 (m n : Pdu) : Tell :=
  Tell.mk (fun x x_1 => false) (fun x x_1 => Orc.no) (fun x => Tree.fail (1000003 : Nat) (0 : Nat)) (fun x => (0 : Nat)) (fun x => ([], []))
  (oget
  [((44 : Nat), (2 : Nat), (17 : Nat), Orc.call [lu32 m.path.provs, lu32 n.path.provs] (bo (decide (m.path.provs = n.path.provs)))), ((44 : Nat), (2 : Nat), (59 : Nat), Orc.call [lu8 m.copy, lu8 n.copy] (bo (decide (m.copy = n.copy))))])
  fun x x_1 => Tree.fail (1000003 : Nat) (0 : Nat)
theorem t35 (m n : Pdu) : levF prog Proofs.Try.f35 [encD m, encD n] (T35 m n) =
  Tree.br (decide (m.version = n.version))
  (Tree.br (decide (m.kind = n.kind))
  (Tree.br (decide (m.session = n.session))
  (Tree.br (decide (m.serial = n.serial))
  (Tree.br (m.add == n.add)
  (Tree.br
  (if BinOp.eql = BinOp.neq then
  !(decide (m.origin.asn = n.origin.asn) &&
  (decide (m.origin.pfx.fam = n.origin.pfx.fam) &&
  (decide (m.origin.pfx.addr.hi = n.origin.pfx.addr.hi) && (decide (m.origin.pfx.addr.lo = n.origin.pfx.addr.lo) && (decide (m.origin.pfx.len = n.origin.pfx.len) && (decide (m.origin.max = n.origin.max) && true))))))
  else
  decide (m.origin.asn = n.origin.asn) &&
  (decide (m.origin.pfx.fam = n.origin.pfx.fam) &&
  (decide (m.origin.pfx.addr.hi = n.origin.pfx.addr.hi) && (decide (m.origin.pfx.addr.lo = n.origin.pfx.addr.lo) && (decide (m.origin.pfx.len = n.origin.pfx.len) && (decide (m.origin.max = n.origin.max) && true))))))
  (Tree.br (decide (m.path.cust = n.path.cust))
  (Tree.need (ILeL [lu32 m.path.provs, lu32 n.path.provs] [lu32 m.path.provs, lu32 n.path.provs] ∧ ASpec prog (46 : Nat) [lu32 m.path.provs, lu32 n.path.provs] (bo (decide (m.path.provs = n.path.provs))))
  (Tree.br (decide (m.path.provs = n.path.provs))
  (Tree.br
  (if BinOp.eql = BinOp.neq then
  !(decide (m.key.asn = n.key.asn) &&
  (decide (m.key.root[(0 : Nat)] = n.key.root[(0 : Nat)]) &&
  (decide (m.key.root[(1 : Nat)] = n.key.root[(1 : Nat)]) &&
  (decide (m.key.root[(2 : Nat)] = n.key.root[(2 : Nat)]) &&
  (decide (m.key.root[(3 : Nat)] = n.key.root[(3 : Nat)]) &&
  (decide (m.key.root[(4 : Nat)] = n.key.root[(4 : Nat)]) &&
  (decide (m.key.root[(5 : Nat)] = n.key.root[(5 : Nat)]) &&
  (decide (m.key.root[(6 : Nat)] = n.key.root[(6 : Nat)]) &&
  (decide (m.key.root[(7 : Nat)] = n.key.root[(7 : Nat)]) &&
  (decide (m.key.root[(8 : Nat)] = n.key.root[(8 : Nat)]) &&
  (decide (m.key.root[(9 : Nat)] = n.key.root[(9 : Nat)]) &&
  (decide (m.key.root[(10 : Nat)] = n.key.root[(10 : Nat)]) &&
  (decide (m.key.root[(11 : Nat)] = n.key.root[(11 : Nat)]) &&
  (decide (m.key.root[(12 : Nat)] = n.key.root[(12 : Nat)]) &&
  (decide (m.key.root[(13 : Nat)] = n.key.root[(13 : Nat)]) &&
  (decide (m.key.root[(14 : Nat)] = n.key.root[(14 : Nat)]) && (decide (m.key.root[(15 : Nat)] = n.key.root[(15 : Nat)]) && (decide (m.key.height = n.key.height) && true))))))))))))))))))
  else
  decide (m.key.asn = n.key.asn) &&
  (decide (m.key.root[(0 : Nat)] = n.key.root[(0 : Nat)]) &&
  (decide (m.key.root[(1 : Nat)] = n.key.root[(1 : Nat)]) &&
  (decide (m.key.root[(2 : Nat)] = n.key.root[(2 : Nat)]) &&
  (decide (m.key.root[(3 : Nat)] = n.key.root[(3 : Nat)]) &&
  (decide (m.key.root[(4 : Nat)] = n.key.root[(4 : Nat)]) &&
  (decide (m.key.root[(5 : Nat)] = n.key.root[(5 : Nat)]) &&
  (decide (m.key.root[(6 : Nat)] = n.key.root[(6 : Nat)]) &&
  (decide (m.key.root[(7 : Nat)] = n.key.root[(7 : Nat)]) &&
  (decide (m.key.root[(8 : Nat)] = n.key.root[(8 : Nat)]) &&
  (decide (m.key.root[(9 : Nat)] = n.key.root[(9 : Nat)]) &&
  (decide (m.key.root[(10 : Nat)] = n.key.root[(10 : Nat)]) &&
  (decide (m.key.root[(11 : Nat)] = n.key.root[(11 : Nat)]) &&
  (decide (m.key.root[(12 : Nat)] = n.key.root[(12 : Nat)]) &&
  (decide (m.key.root[(13 : Nat)] = n.key.root[(13 : Nat)]) &&
  (decide (m.key.root[(14 : Nat)] = n.key.root[(14 : Nat)]) && (decide (m.key.root[(15 : Nat)] = n.key.root[(15 : Nat)]) && (decide (m.key.height = n.key.height) && true))))))))))))))))))
  (Tree.br (decide (m.refresh = n.refresh))
  (Tree.br (decide (m.retry = n.retry))
  (Tree.br (decide (m.expire = n.expire))
  (Tree.br (decide (m.code = n.code))
  (Tree.need (ILeL [lu8 m.copy, lu8 n.copy] [lu8 m.copy, lu8 n.copy] ∧ ASpec prog (47 : Nat) [lu8 m.copy, lu8 n.copy] (bo (decide (m.copy = n.copy))))
  (Tree.br (decide (m.copy = n.copy)) (Tree.done Exit.ret (lret (IVal.v (Value.bool (m.text == n.text))))) (Tree.done Exit.ret (lret (IVal.v (Value.bool false))))))
  (Tree.done Exit.ret (lret (IVal.v (Value.bool false)))))
  (Tree.done Exit.ret (lret (IVal.v (Value.bool false)))))
  (Tree.done Exit.ret (lret (IVal.v (Value.bool false)))))
  (Tree.done Exit.ret (lret (IVal.v (Value.bool false)))))
  (Tree.done Exit.ret (lret (IVal.v (Value.bool false)))))
  (Tree.done Exit.ret (lret (IVal.v (Value.bool false))))))
  (Tree.done Exit.ret (lret (IVal.v (Value.bool false)))))
  (Tree.done Exit.ret (lret (IVal.v (Value.bool false)))))
  (Tree.done Exit.ret (lret (IVal.v (Value.bool false)))))
  (Tree.done Exit.ret (lret (IVal.v (Value.bool false)))))
  (Tree.done Exit.ret (lret (IVal.v (Value.bool false)))))
  (Tree.done Exit.ret (lret (IVal.v (Value.bool false)))))
  (Tree.done Exit.ret (lret (IVal.v (Value.bool false)))) := by kernel_rfl
theorem ba_eq (a b : ByteArray) : (a == b) = true ↔ a = b := by
  obtain ⟨a⟩ := a; obtain ⟨b⟩ := b
  rw [ByteArray.mk.injEq]
  show (a == b) = true ↔ a = b
  simp
theorem pdu_eq (m n : Pdu) : decide (m = n) = (decide (m.version = n.version) && (decide (m.kind = n.kind) && (decide (m.session = n.session) && (decide (m.serial = n.serial) && ((m.add == n.add) && (!neO m.origin n.origin && (decide (m.path.cust = n.path.cust) && (decide (m.path.provs = n.path.provs) && (!neK m.key n.key && (decide (m.refresh = n.refresh) && (decide (m.retry = n.retry) && (decide (m.expire = n.expire) && (decide (m.code = n.code) && (decide (m.copy = n.copy) && (m.text == n.text)))))))))))))) ) := by
  have h1 : (!neO m.origin n.origin) = decide (m.origin = n.origin) := by
    rw [Bool.eq_iff_iff, Bool.not_eq_true', neO_iff]; simp
  have h2 : (!neK m.key n.key) = decide (m.key = n.key) := by
    rw [Bool.eq_iff_iff, Bool.not_eq_true', neK_iff]; simp
  rw [h1, h2]
  obtain ⟨v, k, s, r, a, o, ⟨pc, pp⟩, ky, x, y, z, c, cp, tx⟩ := m
  obtain ⟨v', k', s', r', a', o', ⟨pc', pp'⟩, ky', x', y', z', c', cp', tx'⟩ := n
  rw [Bool.eq_iff_iff]
  simp [and_assoc, ba_eq]
end Gp
namespace Gp
theorem c35 (m n : Pdu) (h1 : m.path.provs.length ≤ 2 ^ 62) (h2 : m.copy.length ≤ 2 ^ 62) : ASpec prog 35 [encD m, encD n] (bo (decide (m = n))) := by
  refine ASpec.treeW Proofs.Try.f35 (T35 m n) (by kernel_rfl) (by kernel_rfl) (t35 m n) ?_
  rw [pdu_eq]
  have e1 : (BinOp.eql = BinOp.neq) = False := by simp
  have eO : neO m.origin n.origin = !(!neO m.origin n.origin) := by simp
  refine ⟨fun h1 => ⟨fun h2 => ⟨fun h3 => ⟨fun h4 => ⟨fun h5 => ⟨fun h6 => ⟨fun h7 => ⟨⟨ILeL.refl _, c46 _ _ ?_⟩, fun _ => ⟨fun h8 => ⟨fun h9 => ⟨fun h10 => ⟨fun h11 => ⟨fun h12 => ⟨fun h13 => ⟨⟨ILeL.refl _, c47 _ _ ?_⟩, fun _ => ⟨fun h14 => ⟨_, rfl, ?_⟩, fun h14 => ⟨_, rfl, ?_⟩⟩⟩, fun h13 => ⟨_, rfl, ?_⟩⟩, fun h12 => ⟨_, rfl, ?_⟩⟩, fun h11 => ⟨_, rfl, ?_⟩⟩, fun h10 => ⟨_, rfl, ?_⟩⟩, fun h9 => ⟨_, rfl, ?_⟩⟩, fun h8 => ⟨_, rfl, ?_⟩⟩⟩, fun h7 => ⟨_, rfl, ?_⟩⟩, fun h6 => ⟨_, rfl, ?_⟩⟩, fun h5 => ⟨_, rfl, ?_⟩⟩, fun h4 => ⟨_, rfl, ?_⟩⟩, fun h3 => ⟨_, rfl, ?_⟩⟩, fun h2 => ⟨_, rfl, ?_⟩⟩, fun h1 => ⟨_, rfl, ?_⟩⟩
  all_goals try assumption
  all_goals (refine ile_bo ?_)
  all_goals (try simp only [reduceCtorEq, if_false] at *)
  all_goals (simp only [neO, neK, Bool.not_not, *, Bool.true_and, Bool.false_and, Bool.and_false])

theorem getD_memG {α : Type} [Inhabited α] (l : List α) (i : Nat) (h : i < l.length) : l.getD i default ∈ l := by
  simp [List.getD_eq_getElem?_getD, List.getElem?_eq_getElem h]
def P17 (l r : List Pdu) (i : Nat) : Bool := !decide (l.getD i default = r.getD i default)
def I17 (l r : List Pdu) (i : Nat) : LState := { t := [(5, .imm (i64 i)), (1, .imm (slE 37 encD r)), (0, .imm (slE 37 encD l))], s := [], m := 27, n := 0 }
def R17 (l r : List Pdu) (i : Nat) : LState := { t := [(4, .imm (bo false))], s := [], m := 27, n := 0 }
def E17 (l r : List Pdu) : LState := { t := [], s := [], m := 27, n := 0 }
def fin17 : Exit → Fin
  | .normal => ⟨[], [5, 1, 0], []⟩
  | .ret => ⟨[], [4], []⟩
  | _ => ⟨[], [], []⟩
def L17 (l r : List Pdu) : Tree := Lfirst (P17 l r) l.length 0 (R17 l r) (E17 l r)
def T17r (l r : List Pdu) (i : Nat) : Tell :=
  Tell.mk (fun x x_1 => false) (fun x x_1 => Orc.no) (fun x => Tree.fail (1000003 : Nat) (0 : Nat)) (fun x => (0 : Nat)) (fun x => ([], []))
  (oget
  [((4 : Nat), (6 : Nat), (2 : Nat), Orc.elem (encD (List.getD l i default))), ((4 : Nat), (6 : Nat), (6 : Nat), Orc.elem (encD (List.getD r i default))),
  ((4 : Nat), (6 : Nat), (8 : Nat), Orc.call [encD (List.getD l i default), encD (List.getD r i default)] (bo (decide (List.getD l i default = List.getD r i default))))])
  fun x x_1 => Tree.fail (1000003 : Nat) (0 : Nat)
theorem t17r (l r : List Pdu) (i : Nat) : levL prog Proofs.Try.f17 4 (I17 l r i) (T17r l r i) fin17 =
  Tree.br (decide ((↑i : Int) < (↑(List.length (List.map encD l)) : Int)))
  (Tree.need ((0 : Int) ≤ (↑i : Int) ∧ (List.map encD l)[i]? = some (encD (List.getD l i default)))
  (Tree.need ((0 : Int) ≤ (↑i : Int) ∧ (List.map encD r)[i]? = some (encD (List.getD r i default)))
  (Tree.need
  (ILeL [encD (List.getD l i default), encD (List.getD r i default)] [encD (List.getD l i default), encD (List.getD r i default)] ∧
  ASpec prog (35 : Nat) [encD (List.getD l i default), encD (List.getD r i default)] (bo (decide (List.getD l i default = List.getD r i default))))
  (Tree.br (!decide (List.getD l i default = List.getD r i default)) (Tree.done Exit.ret (LState.mk [((4 : Nat), AVal.imm (IVal.v (Value.bool false)))] [] (27 : Nat) (15 : Nat) []))
  (Tree.done Exit.normal
  (LState.mk [((5 : Nat), AVal.imm (IVal.v (Value.int IntKind.i64 (IntKind.wrap IntKind.i64 ((↑i : Int) + (1 : Int)))))), ((1 : Nat), AVal.imm (slE (37 : Nat) encD r)), ((0 : Nat), AVal.imm (slE (37 : Nat) encD l))] [] (27 : Nat)
  (17 : Nat) []))))))
  (Tree.done (Exit.exit (0 : Nat)) (LState.mk [] [] (27 : Nat) (4 : Nat) [])) := by kernel_rfl
def B17 (l r : List Pdu) : Tell := { Lp := fun _ => L17 l r, lv := fun _ => ([5, 1, 0], []) }
def T17 (l r : List Pdu) : Tell :=
  Tell.mk (fun x x_1 => false) (fun x x_1 => Orc.no) (fun x => L17 l r) (fun x => (0 : Nat)) (fun x => ([(5 : Nat), (1 : Nat), (0 : Nat)], [])) (fun x x_1 x_2 => Orc.no) fun x x_1 => L17 l r
theorem t17 (l r : List Pdu) : levF prog Proofs.Try.f17 [slE 37 encD l, slE 37 encD r] (T17 l r) =
  Tree.br (!decide ((↑(List.length (List.map encD l)) : Int) = (↑(List.length (List.map encD r)) : Int))) (Tree.done Exit.ret (lret (IVal.v (Value.bool false))))
  (Tree.loop (4 : Nat) (LState.mk [((5 : Nat), AVal.imm (IVal.v (Value.int IntKind.i64 (0 : Int)))), ((1 : Nat), AVal.imm (slE (37 : Nat) encD r)), ((0 : Nat), AVal.imm (slE (37 : Nat) encD l))] [] (27 : Nat) (7 : Nat) [])
  (Tree.br (anyI (P17 l r) (0 : Nat) (List.length l)) (Tree.done Exit.ret (R17 l r (firstI (P17 l r) (0 : Nat) (List.length l)))) (Tree.done (Exit.exit (0 : Nat)) (E17 l r)))
  (Tree.br (anyI (P17 l r) (0 : Nat) (List.length l)) (Tree.done Exit.ret (lret (IVal.v (Value.bool false)))) (Tree.done Exit.ret (lret (IVal.v (Value.bool true)))))) := by kernel_rfl
theorem l17 (l r : List Pdu) (hd : ∀ m ∈ l, m.path.provs.length ≤ 2 ^ 62 ∧ m.copy.length ≤ 2 ^ 62) (hl : l.length ≤ 2 ^ 62) (hlr : l.length = r.length) (σ : LState) (h : LSub σ (I17 l r 0)) : LoopOk prog [] (bodyOf Proofs.Try.f17) 4 σ (L17 l r) := by
  refine LoopOk.first (P17 l r) l.length 0 (I17 l r) (R17 l r) (E17 l r) (T17r l r) fin17 (by kernel_rfl) h fun i hi hz => ?_
  rw [t17r]
  refine ⟨fun h1 => ⟨elem_need ?_, fun _ => ⟨elem_need ?_, fun _ => ⟨⟨ILeL.refl _, c35 _ _ ?_ ?_⟩, fun _ => ⟨fun h2 => ?_, fun h2 => ?_⟩⟩⟩⟩, fun h1 => ?_⟩
  · (refine ⟨by omega, ?_, ?_⟩ <;> (simp only [List.length_map, decide_eq_true_eq, decide_eq_false_iff_not, Int.toNat_natCast] at * <;> omega))
  · (refine ⟨by omega, ?_, ?_⟩ <;> (simp only [List.length_map, decide_eq_true_eq, decide_eq_false_iff_not, Int.toNat_natCast] at * <;> omega))
  · exact (hd _ (getD_memG l i (by (simp only [List.length_map, decide_eq_true_eq, decide_eq_false_iff_not, Int.toNat_natCast] at * <;> omega)))).1
  · exact (hd _ (getD_memG l i (by (simp only [List.length_map, decide_eq_true_eq, decide_eq_false_iff_not, Int.toNat_natCast] at * <;> omega)))).2
  · exact ⟨by (simp only [List.length_map, decide_eq_true_eq, decide_eq_false_iff_not, Int.toNat_natCast] at * <;> omega), h2, by simp [R17, bo, LSub, tsub, ssub, tl, sl, linT, linS, ainB, ainBL]⟩
  · exact ⟨by (simp only [List.length_map, decide_eq_true_eq, decide_eq_false_iff_not, Int.toNat_natCast] at * <;> omega), h2, by simp [I17, i64, i64_small (n := i) (by (simp only [List.length_map, decide_eq_true_eq, decide_eq_false_iff_not, Int.toNat_natCast] at * <;> omega)) hl, LSub, tsub, ssub, tl, sl, linT, linS, ainB, ainBL]⟩
  · exact ⟨rfl, by (simp only [List.length_map, decide_eq_true_eq, decide_eq_false_iff_not, Int.toNat_natCast] at * <;> omega), by simp [E17, LSub, tsub, ssub, tl, sl, linT, linS, ainB, ainBL]⟩
theorem c17 (l r : List Pdu) (hd : ∀ m ∈ l, m.path.provs.length ≤ 2 ^ 62 ∧ m.copy.length ≤ 2 ^ 62) (hl : l.length ≤ 2 ^ 62) : ASpec prog 17 [slE 37 encD l, slE 37 encD r] (bo (decide (l = r))) := by
  have he : sameL (fun a b => !decide (a = b)) default l r = decide (l = r) := by rw [Bool.eq_iff_iff, sameL_iff (fun a b => by simp)]; simp
  have d1 : diffAt (fun a b => !decide (a = b)) default l r = P17 l r := rfl
  rw [← he]
  refine ASpec.treeW Proofs.Try.f17 (T17 l r) (by kernel_rfl) (by kernel_rfl) (t17 l r) ?_
  refine ⟨fun h1 => ⟨_, rfl, ?_⟩, fun h1 => ⟨?_, ⟨fun h2 => ⟨_, rfl, ?_⟩, fun h2 => ⟨_, rfl, ?_⟩⟩⟩⟩
  · have : ¬ l.length = r.length := by simp at h1; omega
    exact ile_bo (by simp [sameL, this])
  · exact l17 l r hd hl (by simp at h1; omega) _ (by simp [I17, i64, LSub, tsub, ssub, tl, sl, linT, linS, ainB, ainBL])
  · exact ile_bo (by simp [sameL, d1, h2])
  · have : l.length = r.length := by simp at h1; omega
    exact ile_bo (by simp only [sameL, d1, h2]; simp [this])
def T14 (r s : Router) : Tell :=
  Tell.mk (fun x x_1 => false) (fun x x_1 => Orc.no) (fun x => Tree.fail (1000003 : Nat) (0 : Nat)) (fun x => (0 : Nat)) (fun x => ([], []))
  (oget [((44 : Nat), (2 : Nat), (34 : Nat), Orc.call [encL r.data, encL s.data] (bo (decide (r.data = s.data)))), ((44 : Nat), (2 : Nat), (41 : Nat), Orc.call [encL r.build, encL s.build] (bo (decide (r.build = s.build))))]) fun x x_1 =>
  Tree.fail (1000003 : Nat) (0 : Nat)
theorem t14 (r s : Router) : levF prog Proofs.Try.f14 [encR r, encR s] (T14 r s) =
  Tree.br (decide (r.version = s.version))
  (Tree.br (decide (r.state = s.state))
  (Tree.br (r.has == s.has)
  (Tree.br (decide (r.session = s.session))
  (Tree.br (decide (r.serial = s.serial))
  (Tree.br
  (if BinOp.eql = BinOp.neq then !(decide (r.timers.refresh = s.timers.refresh) && (decide (r.timers.retry = s.timers.retry) && (decide (r.timers.expire = s.timers.expire) && true)))
  else decide (r.timers.refresh = s.timers.refresh) && (decide (r.timers.retry = s.timers.retry) && (decide (r.timers.expire = s.timers.expire) && true)))
  (Tree.br (decide (r.good = s.good))
  (Tree.br (decide (r.next = s.next))
  (Tree.br (r.full == s.full)
  (Tree.br (decide (r.heard = s.heard))
  (Tree.need
  (ILeL
  [IVal.agg [slE (6 : Nat) encO r.data.origins, slE (2 : Nat) encT r.data.paths, slE (18 : Nat) encK r.data.keys],
  IVal.agg [slE (6 : Nat) encO s.data.origins, slE (2 : Nat) encT s.data.paths, slE (18 : Nat) encK s.data.keys]]
  [encL r.data, encL s.data] ∧
  ASpec prog (18 : Nat) [encL r.data, encL s.data] (bo (decide (r.data = s.data))))
  (Tree.br (decide (r.data = s.data))
  (Tree.need
  (ILeL
  [IVal.agg [slE (6 : Nat) encO r.build.origins, slE (2 : Nat) encT r.build.paths, slE (18 : Nat) encK r.build.keys],
  IVal.agg [slE (6 : Nat) encO s.build.origins, slE (2 : Nat) encT s.build.paths, slE (18 : Nat) encK s.build.keys]]
  [encL r.build, encL s.build] ∧
  ASpec prog (18 : Nat) [encL r.build, encL s.build] (bo (decide (r.build = s.build))))
  (Tree.done Exit.ret (lret (IVal.v (Value.bool (decide (r.build = s.build)))))))
  (Tree.done Exit.ret (lret (IVal.v (Value.bool false))))))
  (Tree.done Exit.ret (lret (IVal.v (Value.bool false)))))
  (Tree.done Exit.ret (lret (IVal.v (Value.bool false)))))
  (Tree.done Exit.ret (lret (IVal.v (Value.bool false)))))
  (Tree.done Exit.ret (lret (IVal.v (Value.bool false)))))
  (Tree.done Exit.ret (lret (IVal.v (Value.bool false)))))
  (Tree.done Exit.ret (lret (IVal.v (Value.bool false)))))
  (Tree.done Exit.ret (lret (IVal.v (Value.bool false)))))
  (Tree.done Exit.ret (lret (IVal.v (Value.bool false)))))
  (Tree.done Exit.ret (lret (IVal.v (Value.bool false)))))
  (Tree.done Exit.ret (lret (IVal.v (Value.bool false)))) := by kernel_rfl
theorem router_eq (r s : Router) : decide (r = s) = (decide (r.version = s.version) && (decide (r.state = s.state) && ((r.has == s.has) && (decide (r.session = s.session) && (decide (r.serial = s.serial) && (decide (r.timers = s.timers) && (decide (r.good = s.good) && (decide (r.next = s.next) && ((r.full == s.full) && (decide (r.heard = s.heard) && (decide (r.data = s.data) && decide (r.build = s.build)))))))))))) := by
  obtain ⟨a, b, c, d, e, f, g, h, i, j, k, l⟩ := r
  obtain ⟨a', b', c', d', e', f', g', h', i', j', k', l'⟩ := s
  rw [Bool.eq_iff_iff]
  simp only [Router.mk.injEq, decide_eq_true_eq, Bool.and_eq_true, beq_iff_eq]
  constructor
  · rintro ⟨h1, h2, h3, h4, h5, h6, h7, h8, h9, h10, h11, h12⟩; exact ⟨h1, h2, h3, h4, h5, h7, h8, h9, h10, h11, h6, h12⟩
  · rintro ⟨h1, h2, h3, h4, h5, h7, h8, h9, h10, h11, h6, h12⟩; exact ⟨h1, h2, h3, h4, h5, h6, h7, h8, h9, h10, h11, h12⟩
theorem timers_eq (a b : Timers) : (decide (a.refresh = b.refresh) && (decide (a.retry = b.retry) && (decide (a.expire = b.expire) && true))) = decide (a = b) := by
  obtain ⟨x, y, z⟩ := a; obtain ⟨x', y', z'⟩ := b
  rw [Bool.eq_iff_iff]; simp
theorem c14 (r s : Router) (hr : r.ok) : ASpec prog 14 [encR r, encR s] (bo (decide (r = s))) := by
  refine ASpec.treeW Proofs.Try.f14 (T14 r s) (by kernel_rfl) (by kernel_rfl) (t14 r s) ?_
  rw [router_eq]
  refine ⟨fun h1 => ⟨fun h2 => ⟨fun h3 => ⟨fun h4 => ⟨fun h5 => ⟨fun h6 => ⟨fun h7 => ⟨fun h8 => ⟨fun h9 => ⟨fun h10 => ⟨⟨ILeL.refl _, c18 _ _ ?_⟩, fun _ => ⟨fun h11 => ⟨⟨ILeL.refl _, c18 _ _ ?_⟩, fun _ => ⟨_, rfl, ?_⟩⟩, fun h11 => ⟨_, rfl, ?_⟩⟩⟩, fun h10 => ⟨_, rfl, ?_⟩⟩, fun h9 => ⟨_, rfl, ?_⟩⟩, fun h8 => ⟨_, rfl, ?_⟩⟩, fun h7 => ⟨_, rfl, ?_⟩⟩, fun h6 => ⟨_, rfl, ?_⟩⟩, fun h5 => ⟨_, rfl, ?_⟩⟩, fun h4 => ⟨_, rfl, ?_⟩⟩, fun h3 => ⟨_, rfl, ?_⟩⟩, fun h2 => ⟨_, rfl, ?_⟩⟩, fun h1 => ⟨_, rfl, ?_⟩⟩
  all_goals try exact hr.d
  all_goals try exact hr.b
  all_goals (refine ile_bo ?_)
  all_goals (try simp only [reduceCtorEq, if_false, timers_eq] at *)
  all_goals (simp only [*, Bool.true_and, Bool.false_and, Bool.and_false])
end Gp
