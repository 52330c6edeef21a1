/- PROVED HERE: the statement ClientTicksSaid: whatever the router, the version, the timers and the time, ClientTicks returns true and each argument reads as before. No condition. -/
import Derived.Test.YtdbdfblneaokjaaW8
import Derived.Test.YtdbdfblneaokjaaRows
import Derived.WalkKit
import Derived.ProofKit
import Derived.OpenShut
import Derived.ShutString
import Derived.ChangeOld
import Derived.Below
import Derived.Carry
set_option maxRecDepth 100000
set_option maxHeartbeats 0
set_option linter.unusedVariables false
set_option linter.unusedSimpArgs false
open Go Go.Abs
namespace Gp
/-! ### What came in -/
section
variable {H : Type} {enc : TypeId × Value → H} {w : World} {base : Nat} {spare : Nat → Bool} {held : Bool}
theorem wf_in {k : IntKind} {n : Int} (h : (Lit.int k n).wf = true) : k.min ≤ n ∧ n ≤ k.max := by simpa [Lit.wf] using h
theorem wf_u8 {n : Int} (h : (Lit.int .u8 n).wf = true) : byteI n := by have := wf_in h; simp [IntKind.min, IntKind.max, IntKind.bits, IntKind.signed] at this; exact this
theorem wf_u32 {n : Int} (h : (Lit.int .u32 n).wf = true) : 0 ≤ n := by have := wf_in h; simp [IntKind.min, IntKind.max, IntKind.bits, IntKind.signed] at this; omega
theorem wf_u64 {n : Int} (h : (Lit.int .u64 n).wf = true) : 0 ≤ n ∧ n < 2 ^ 64 := by have := wf_in h; simp [IntKind.min, IntKind.max, IntKind.bits, IntKind.signed] at this; omega
theorem fl23 : flatT prog 5 23 = some [.int .u32] := by kernel_rfl
theorem fl77 : flatT prog 5 77 = some [.int .u32, .sl 75] := by kernel_rfl
theorem fl74 : flatT prog 5 74 = some [.int .u32, .int .u8, .int .u64, .int .u64, .int .i64, .int .i64] := by kernel_rfl
theorem fl83 : flatT prog 5 83 = some [.int .u32, .int .u8, .int .u8, .int .u8, .int .u8, .int .u8, .int .u8, .int .u8, .int .u8, .int .u8, .int .u8, .int .u8, .int .u8, .int .u8, .int .u8, .int .u8, .int .u8, .int .i64] := by kernel_rfl
theorem fl30 : flatT prog 5 30 = some [.int .u32, .int .u32, .int .u32] := by kernel_rfl
theorem fl32 : flatT prog 5 32 = some [.int .u8, .int .u8, .bool, .int .u16, .int .u32, .sl 24, .sl 25, .sl 26, .int .u32, .int .u32, .int .u32, .int .i64, .int .i64, .bool, .int .u16, .sl 24, .sl 25, .sl 26] := by kernel_rfl
theorem un75 : prog.underlying 75 = some (.slice 23) := by kernel_rfl
theorem un24 : prog.underlying 24 = some (.slice 74) := by kernel_rfl
theorem un25 : prog.underlying 25 = some (.slice 77) := by kernel_rfl
theorem un26 : prog.underlying 26 = some (.slice 83) := by kernel_rfl
theorem rd23 {fuel : Nat} {cs : List Value} {x : DataW H × List MemPlace} (_ : cs.length = 1) (h : DataW.trod enc prog w base spare held fuel 23 cs = some x) : ∃ (n : Int) (v : Value), v.cells.toList = cs ∧ IRep w (allF w) (u32 n) v ∧ 0 ≤ n := by
  obtain ⟨_, _, rfl, ⟨n, rfl, w1⟩, rfl⟩ := flat_read 5 23 _ fuel cs x fl23 h
  refine ⟨n, .int .u32 n, rfl, ?_, wf_u32 w1⟩
  rw [u32, IRep]; exact ⟨rfl, rfl⟩
theorem rd75 {fuel : Nat} {v : Value} {x : DataW H × List MemPlace} (h : DataW.trod enc prog w base spare held fuel 75 [v] = some x) : ∃ l : List Int, IRep w (allF w) (lu32 l) v ∧ (∀ n ∈ l, 0 ≤ n) ∧ l.length ≤ maxLen :=
  slice_read u32 (fun n => 0 ≤ n) un75 (by kernel_rfl) (by decide) (fun _ _ _ => rd23) h
theorem iv {k : IntKind} {n : Int} : IRep w (allF w) (.v (.int k n)) (.int k n) := by rw [IRep]; exact ⟨rfl, rfl⟩
theorem ib {b : Bool} : IRep w (allF w) (bo b) (.bool b) := by rw [bo, IRep]; exact ⟨rfl, rfl⟩
theorem ic {d : IVal} {ds : List IVal} {u : Value} {us : List Value} (h : IRep w (allF w) d u) (h' : IRepL w (allF w) ds us) : IRepL w (allF w) (d :: ds) (u :: us) := by rw [IRepL]; exact ⟨u, us, rfl, h, h'⟩
theorem in0 : IRepL w (allF w) [] [] := by rw [IRepL]
theorem ia {ds : List IVal} {us : List Value} (h : IRepL w (allF w) ds us) (ho : ds.all ione = true) : IRep w (allF w) (.agg ds) (.agg us.toArray) := by rw [IRep]; exact ⟨us.toArray, rfl, by simpa using h, ho⟩
theorem rd77 {fuel : Nat} {cs : List Value} {x : DataW H × List MemPlace} (_ : cs.length = 2) (h : DataW.trod enc prog w base spare held fuel 77 cs = some x) : ∃ (a : Attest) (v : Value), v.cells.toList = cs ∧ IRep w (allF w) (encT a) v ∧ a.rng := by
  obtain ⟨_, _, rfl, ⟨n, rfl, w1⟩, v2, _, rfl, ⟨f2, x2, h2⟩, rfl⟩ := flat_read 5 77 _ fuel cs x fl77 h
  obtain ⟨l, g1, g2, _⟩ := rd75 h2
  exact ⟨⟨n, l⟩, .agg [.int .u32 n, v2].toArray, rfl, ia (ic iv (ic g1 in0)) rfl, wf_u32 w1, g2⟩
theorem rd74 {fuel : Nat} {cs : List Value} {x : DataW H × List MemPlace} (_ : cs.length = 6) (h : DataW.trod enc prog w base spare held fuel 74 cs = some x) : ∃ (o : Origin) (v : Value), v.cells.toList = cs ∧ IRep w (allF w) (encO o) v ∧ o.pfx.addr.rng := by
  obtain ⟨_, _, rfl, ⟨n1, rfl, w1⟩, _, _, rfl, ⟨n2, rfl, w2⟩, _, _, rfl, ⟨n3, rfl, w3⟩, _, _, rfl, ⟨n4, rfl, w4⟩, _, _, rfl, ⟨n5, rfl, w5⟩, _, _, rfl, ⟨n6, rfl, w6⟩, rfl⟩ := flat_read 5 74 _ fuel cs x fl74 h
  exact ⟨⟨n1, ⟨n2, ⟨n3, n4⟩, n5⟩, n6⟩, .agg [.int .u32 n1, .int .u8 n2, .int .u64 n3, .int .u64 n4, .int .i64 n5, .int .i64 n6].toArray, rfl, ia (ic iv (ic iv (ic iv (ic iv (ic iv (ic iv in0)))))) rfl, wf_u64 w3, wf_u64 w4⟩
theorem rd83 {fuel : Nat} {cs : List Value} {x : DataW H × List MemPlace} (_ : cs.length = 18) (h : DataW.trod enc prog w base spare held fuel 83 cs = some x) : ∃ (k : RKey) (v : Value), v.cells.toList = cs ∧ IRep w (allF w) (encK k) v ∧ k.rng := by
  obtain ⟨_, _, rfl, ⟨n, rfl, _⟩, _, _, rfl, ⟨b0, rfl, w0⟩, _, _, rfl, ⟨b1, rfl, w1⟩, _, _, rfl, ⟨b2, rfl, w2⟩, _, _, rfl, ⟨b3, rfl, w3⟩, _, _, rfl, ⟨b4, rfl, w4⟩, _, _, rfl, ⟨b5, rfl, w5⟩, _, _, rfl, ⟨b6, rfl, w6⟩, _, _, rfl, ⟨b7, rfl, w7⟩,
    _, _, rfl, ⟨b8, rfl, w8⟩, _, _, rfl, ⟨b9, rfl, w9⟩, _, _, rfl, ⟨b10, rfl, w10⟩, _, _, rfl, ⟨b11, rfl, w11⟩, _, _, rfl, ⟨b12, rfl, w12⟩, _, _, rfl, ⟨b13, rfl, w13⟩, _, _, rfl, ⟨b14, rfl, w14⟩, _, _, rfl, ⟨b15, rfl, w15⟩, _, _, rfl, ⟨hh, rfl, _⟩, rfl⟩ := flat_read 5 83 _ fuel cs x fl83 h
  refine ⟨⟨n, #v[b0, b1, b2, b3, b4, b5, b6, b7, b8, b9, b10, b11, b12, b13, b14, b15], hh⟩, .agg [.int .u32 n, .int .u8 b0, .int .u8 b1, .int .u8 b2, .int .u8 b3, .int .u8 b4, .int .u8 b5, .int .u8 b6, .int .u8 b7, .int .u8 b8, .int .u8 b9, .int .u8 b10, .int .u8 b11, .int .u8 b12, .int .u8 b13, .int .u8 b14, .int .u8 b15, .int .i64 hh].toArray, rfl,
    ia (ic iv (ic iv (ic iv (ic iv (ic iv (ic iv (ic iv (ic iv (ic iv (ic iv (ic iv (ic iv (ic iv (ic iv (ic iv (ic iv (ic iv (ic iv in0)))))))))))))))))) rfl, ?_⟩
  intro z hz
  have hz : z ∈ [b0, b1, b2, b3, b4, b5, b6, b7, b8, b9, b10, b11, b12, b13, b14, b15] := hz
  simp only [List.mem_cons, List.not_mem_nil, or_false] at hz
  rcases hz with rfl | rfl | rfl | rfl | rfl | rfl | rfl | rfl | rfl | rfl | rfl | rfl | rfl | rfl | rfl | rfl
  all_goals (apply wf_u8; assumption)
theorem rdP {f1 f2 f3 : Nat} {v1 v2 v3 : Value} {x1 x2 x3 : DataW H × List MemPlace} (h1 : DataW.trod enc prog w base spare held f1 24 [v1] = some x1) (h2 : DataW.trod enc prog w base spare held f2 25 [v2] = some x2) (h3 : DataW.trod enc prog w base spare held f3 26 [v3] = some x3) :
    ∃ p : Payload, IRep w (allF w) (slE 6 encO p.origins) v1 ∧ IRep w (allF w) (slE 2 encT p.paths) v2 ∧ IRep w (allF w) (slE 18 encK p.keys) v3 ∧ p.rng ∧ p.paths.length ≤ maxLen := by
  obtain ⟨l1, a1, b1, _⟩ := slice_read encO (fun o => o.pfx.addr.rng) un24 (by kernel_rfl) (by decide) (fun _ _ _ => rd74) h1
  obtain ⟨l2, a2, b2, c2⟩ := slice_read encT Attest.rng un25 (by kernel_rfl) (by decide) (fun _ _ _ => rd77) h2
  obtain ⟨l3, a3, b3, _⟩ := slice_read encK RKey.rng un26 (by kernel_rfl) (by decide) (fun _ _ _ => rd83) h3
  exact ⟨⟨l1, l2, l3⟩, a1, a2, a3, ⟨b1, b2, b3⟩, c2⟩
theorem rd32 {fuel : Nat} {vs : Array Value} {x : DataW H × List MemPlace} (h : DataW.trod enc prog w base spare held fuel 32 (Value.agg vs).cells.toList = some x) : ∃ r : Router, IRep w (allF w) (encR r) (.agg vs) ∧ r.rng ∧ r.data.paths.length ≤ maxLen ∧ r.build.paths.length ≤ maxLen := by
  have hf := flat_read 5 32 _ fuel _ x fl32 h
  obtain ⟨_, _, e1, ⟨n1, rfl, _⟩, _, _, rfl, ⟨n2, rfl, _⟩, _, _, rfl, ⟨n3, rfl⟩, _, _, rfl, ⟨n4, rfl, _⟩, _, _, rfl, ⟨n5, rfl, _⟩, v6, _, rfl, ⟨f6, x6, h6⟩, v7, _, rfl, ⟨f7, x7, h7⟩, v8, _, rfl, ⟨f8, x8, h8⟩, _, _, rfl, ⟨n9, rfl, _⟩, _, _, rfl, ⟨n10, rfl, _⟩, _, _, rfl, ⟨n11, rfl, _⟩,
    _, _, rfl, ⟨n12, rfl, _⟩, _, _, rfl, ⟨n13, rfl, _⟩, _, _, rfl, ⟨n14, rfl⟩, _, _, rfl, ⟨n15, rfl, _⟩, v16, _, rfl, ⟨f16, x16, h16⟩, v17, _, rfl, ⟨f17, x17, h17⟩, v18, _, rfl, ⟨f18, x18, h18⟩, rfl⟩ := hf
  obtain ⟨p, p1, p2, p3, p4, p5⟩ := rdP h6 h7 h8
  obtain ⟨q, q1, q2, q3, q4, q5⟩ := rdP h16 h17 h18
  have e2 : vs = [Value.int .u8 n1, .int .u8 n2, .bool n3, .int .u16 n4, .int .u32 n5, v6, v7, v8, .int .u32 n9, .int .u32 n10, .int .u32 n11, .int .i64 n12, .int .i64 n13, .bool n14, .int .u16 n15, v16, v17, v18].toArray := by
    rw [← Array.toList_inj]; exact e1
  rw [e2]
  exact ⟨⟨n1, n2, n3, n4, n5, p, ⟨n9, n10, n11⟩, n12, n13, n14, n15, q⟩, ia (ic iv (ic iv (ic ib (ic iv (ic iv (ic p1 (ic p2 (ic p3 (ic iv (ic iv (ic iv (ic iv (ic iv (ic ib (ic iv (ic q1 (ic q2 (ic q3 in0)))))))))))))))))) rfl, ⟨p4, q4⟩, p5, q5⟩
theorem rd30 {fuel : Nat} {vs : Array Value} {x : DataW H × List MemPlace} (h : DataW.trod enc prog w base spare held fuel 30 (Value.agg vs).cells.toList = some x) : ∃ t : Timers, IRep w (allF w) (encM t) (.agg vs) := by
  obtain ⟨_, _, e1, ⟨n1, rfl, _⟩, _, _, rfl, ⟨n2, rfl, _⟩, _, _, rfl, ⟨n3, rfl, _⟩, rfl⟩ := flat_read 5 30 _ fuel _ x fl30 h
  have e2 : vs = [Value.int .u32 n1, .int .u32 n2, .int .u32 n3].toArray := by
    rw [← Array.toList_inj]; exact e1
  rw [e2]
  exact ⟨⟨n1, n2, n3⟩, ia (ic iv (ic iv (ic iv in0))) rfl⟩
end
end Gp
namespace Gp
open Go.ChangeShapes Go.WideShapes Go.ChangeAt Go.RowKit
open Go.Proofs Go.Proofs.Ytdbdfblneaokjaa
theorem own : ownKnob prog.godebug = none := by kernel_rfl
theorem laidOut : laidOutB prog = true := by kernel_rfl
def isStruct : Option TypeDesc → Bool
  | some (.struct _) => true
  | _ => false
theorem isStruct_spec {x : Option TypeDesc} (h : isStruct x = true) : ∃ fs, x = some (.struct fs) := by
  unfold isStruct at h; split at h
  · exact ⟨_, rfl⟩
  · cases h
theorem un32 : ∃ fs, prog.underlying 32 = some (.struct fs) := isStruct_spec (by kernel_rfl)
theorem un30 : ∃ fs, prog.underlying 30 = some (.struct fs) := isStruct_spec (by kernel_rfl)
theorem un5 : prog.underlying 5 = some (.int .u8) := by kernel_rfl
theorem un2 : prog.underlying 2 = some (.int .i64) := by kernel_rfl
theorem un4 : prog.underlying 4 = some .bool := by kernel_rfl
theorem params3 : Proofs.Try.f3.params.toList = [32, 5, 30, 2] := by kernel_rfl
set_option maxRecDepth 100000 in
theorem walk (W : World) {H : Type} {enc : TypeId × Value → H} {f0 f2 : Nat} {v0 v2 : Array Value} {n1 n3 : Int} {x0 x2 : DataW H × List MemPlace} {held : Bool} {sp : Nat → Bool}
    (h0 : DataW.trod enc prog W 0 sp held f0 32 (Value.agg v0).cells.toList = some x0) (h2 : DataW.trod enc prog W 0 sp held f2 30 (Value.agg v2).cells.toList = some x2) :
    Calls prog 3 #[.agg v0, .int .u8 n1, .agg v2, .int .i64 n3] W fun e W' => e = .returned (.bool true) ∧ Below W.heap.size W W' := by
  obtain ⟨r, g1, g2, g3, g4⟩ := rd32 h0
  obtain ⟨t, k1⟩ := rd30 h2
  have hm : maxLen = 2 ^ 63 - 1 := rfl
  rw [hm] at g3 g4
  refine ((law r n1 t n3 g3 g4 g2).2 W (allF W) #[.agg v0, .int .u8 n1, .agg v2, .int .i64 n3] (fun c b h => h.2) (fun b h => by cases h.1) (ic g1 (ic iv (ic k1 (ic iv in0))))).mono ?_
  rintro e W' ⟨v, F', rfl, hb, _, _, _, _, hv⟩
  rw [bo, IRep] at hv
  rw [hv.1]
  exact ⟨rfl, hb⟩
set_option maxRecDepth 100000 in
theorem lifted (os : Os) (started : os.Started) (H : Type) (enc : TypeId × Value → H) :
    ReturnsInHanded {} Proofs.Try.checked os 3 .any (Rows.clientTicksSpec.pre6 enc prog Proofs.Try.f3 Rows.clientTicksRow.domain false) (Rows.clientTicksSpec.post enc prog Proofs.Try.f3 false true false false) := by
  refine returnsInHanded_of_change (C := Proofs.Try.checked) own started (by kernel_rfl) (show prog.funcs[3]? = some Proofs.Try.f3 by kernel_rfl)
    (ChangeSpec.witness6 (enc := enc) (C := Proofs.Try.checked) false ⟨#[], #[.agg #[.int .u8 0, .int .u8 0, .bool false, .int .u16 0, .int .u32 0, .slice none 0 0, .slice none 0 0, .slice none 0 0, .int .u32 0, .int .u32 0, .int .u32 0, .int .i64 0, .int .i64 0, .bool false, .int .u16 0, .slice none 0 0, .slice none 0 0, .slice none 0 0], .int .u8 0, .agg #[.int .u32 0, .int .u32 0, .int .u32 0], .int .i64 0], []⟩ 8 (by kernel_rfl) (by kernel_rfl) (by kernel_rfl) (by kernel_rfl)) ?_
  intro W base args ds gs before hval0 hW hcnd _
  have hval : ∀ (j : Nat) t v, Proofs.Try.f3.params[j]? = some t → args[j]? = some v → Value.okWide prog W .any base t v := hval0
  have hW' := hW
  obtain ⟨p, q, hA0, hV, rfl, hfz, hnd⟩ := hW
  have hA : DataW.TrodAll enc prog W 0 (fun _ => true) true Proofs.Try.f3.params.toList args.toList ds p := hA0
  rw [params3] at hA
  have hp0 : Proofs.Try.f3.params[0]? = some 32 := by kernel_rfl
  have hp1 : Proofs.Try.f3.params[1]? = some 5 := by kernel_rfl
  have hp2 : Proofs.Try.f3.params[2]? = some 30 := by kernel_rfl
  have hp3 : Proofs.Try.f3.params[3]? = some 2 := by kernel_rfl
  obtain ⟨v0, vs0, d0, ds0, p0, q0, hargs, rfl, rfl, h0, r0⟩ := trodAll_cons hA
  obtain ⟨v1, vs1, d1, ds1, p1, q1, rfl, rfl, rfl, h1, r1⟩ := trodAll_cons r0
  obtain ⟨v2, vs2, d2, ds2, p2, q2, rfl, rfl, rfl, h2, r2⟩ := trodAll_cons r1
  obtain ⟨v3, vs3, d3, ds3, p3, q3, rfl, rfl, rfl, h3, r3⟩ := trodAll_cons r2
  obtain ⟨rfl, rfl, rfl⟩ := trodAll_nil r3
  obtain rfl : args = #[v0, v1, v2, v3] := by cases args; simp_all
  obtain ⟨rfl, rfl⟩ := trodVars_none hV
  obtain ⟨fs32, u32⟩ := un32
  obtain ⟨fs30, u30⟩ := un30
  obtain ⟨a0, rfl, _⟩ := okWide_struct u32 (hval 0 32 v0 hp0 rfl)
  obtain ⟨a2, rfl, _⟩ := okWide_struct u30 (hval 2 30 v2 hp2 rfl)
  have k0 := h0
  have lt0 : ∀ x ∈ p0, x.block < W.heap.size := by obtain ⟨m, hm⟩ := k0; exact DataW.trod_lt m _ _ _ hm
  have k2 := h2
  have lt2 : ∀ x ∈ p2, x.block < W.heap.size := by obtain ⟨m, hm⟩ := k2; exact DataW.trod_lt m _ _ _ hm
  obtain ⟨n1, rfl, rfl, rfl, w1⟩ := open_int un5 (hval 1 5 v1 hp1 rfl) h1
  obtain ⟨n3, rfl, rfl, rfl, w3⟩ := open_int un2 (hval 3 2 v3 hp3 rfl) h3
  obtain ⟨f0, e0⟩ := h0
  obtain ⟨f2, e2⟩ := h2
  clear hA0 hval0
  refine (walk W e0 e2).mono fun e W' ⟨he, bel⟩ => ?_
  subst he
  exact ⟨_, rfl, _, _, _, [], _, [], hW', trodAll_mk1 (shut_bool un4 _),
    (trodAll_cons_mk (Below.trod laidOut (by kernel_rfl) (of_decide_eq_true (by kernel_rfl)) k0 bel lt0) (trodAll_cons_mk (shut_int un5 w1) (trodAll_cons_mk (Below.trod laidOut (by kernel_rfl) (of_decide_eq_true (by kernel_rfl)) k2 bel lt2) (trodAll_cons_mk (shut_int un2 w3) trodAll_mk0)))), rfl, bel.frame _, fun h => by cases h⟩
theorem over : Rows.clientTicksRow.holds Ytdbdfblneaokjaa.Try.pinned (OpenSpec.ofChange Rows.clientTicksSpec) :=
  OpenClaim.holds_of_wide 3 Proofs.Try.f3 rfl rfl rfl rfl rfl rfl rfl ⟨rfl, rfl, rfl, rfl, rfl⟩ rfl rfl rfl rfl rfl (by kernel_rfl) (show prog.funcs[3]? = some Proofs.Try.f3 by kernel_rfl) (by kernel_rfl)
    (of_decide_eq_true (by kernel_rfl)) (by unfold Func.isWrapper; first | (rw [if_pos (by decide +kernel)]; kernel_rfl) | (rw [if_neg (by decide +kernel)]; exact ⟨rfl, rfl⟩))
    (fun os started H enc _ => lifted os started H enc)
theorem proved : Rows.ClientTicksSaid := over
end Gp
namespace Go.Proofs.Ytdbdfblneaokjaa
theorem clientTicks_holds : Rows.ClientTicksSaid := Gp.proved
#print axioms clientTicks_holds
end Go.Proofs.Ytdbdfblneaokjaa
