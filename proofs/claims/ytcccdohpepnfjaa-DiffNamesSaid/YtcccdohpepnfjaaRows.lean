/-
  No cell of these rows narrows 'for every input' (looked for: loops, veiled, ifaces, maps, wideKeys, modest, calm, conditions, laid).
  DERIVED. THE GIVEN ROWS OF THIS SEAT. 5 by the template 'for every input the law returns true; each argument reads behind the call as it read before'; 0 by the template 'total and deterministic' (their statements: YtcccdohpepnfjaaTotals.lean).
  GIVEN WITH THE SEED: the statements are not yours to turn. If you find one false, say at which input.
  Laid BY PROGRAM, IN A SANDBOX (cutbox-rows.mjs): the forced cells as the released guide's own fill.sh prints them over the translation e19b57348e9e4e61… (all of the seat's roots in one cut). By AI agents, Wed Nov 11 2026. No macro, syntax, notation, axiom, sorry.
-/
import Derived.Test.YtcccdohpepnfjaaChecked
import GoSem.Claim
import GoSem.ClaimJoined
import GoSem.ClaimMapViews
import Derived.JoinedTies
import Derived.KernelRfl
namespace Go.Proofs.Ytcccdohpepnfjaa
/- THE CELL 'sum', in the pinned program and in every row, IS THE sha256 OF THE DUMP (.gsa) THAT YtcccdohpepnfjaaProg.lean LOADS. Nothing in Lean hashes anything: it is a label: what it is worth is what the hold of that sum in a sandbox is worth. -/
noncomputable def Try.pinned : Pinned := { name := "ytcccdohpepnfjaa", sum := "e19b57348e9e4e61919e4a6f9c053a0043cc304e7dd60af42c195f6dd7a3eabf", checked := Try.checked }
namespace Rows
def none {H : Type} : Left H := { results := [], args := [] }

/-- 'gatepathlaw34.DiffChecks': WHATEVER THE INPUT: true; the input reads as it did. -/
def diffChecksSpec : ChangeSpec := { name := "diffChecks", fn := fun _ => fun
  | [d1, d2, d3, d4] => { results := [.lit (.bool true)], args := [d1, d2, d3, d4] }
  | _ => none }
def diffChecksRow : OpenClaim := { program := "ytcccdohpepnfjaa", sum := "e19b57348e9e4e61919e4a6f9c053a0043cc304e7dd60af42c195f6dd7a3eabf", func := "gatepath/gatepathlaw34.DiffChecks", spec := "diffChecks", inPlace := ["internal/bytealg.Compare"], unfollowed := true, recurses := true, apart := false }
def DiffChecksSaid : Prop := diffChecksRow.holds Try.pinned (OpenSpec.ofChange diffChecksSpec)

/-- ITS FALSE NEIGHBOUR: 'it returns false'. Refute it at one input. -/
def diffChecksWrong : ChangeSpec := { name := "diffChecks", fn := fun _ => fun
  | [d1, d2, d3, d4] => { results := [.lit (.bool false)], args := [d1, d2, d3, d4] }
  | _ => none }
def DiffChecksWrongFalsely : Prop := diffChecksRow.holds Try.pinned (OpenSpec.ofChange diffChecksWrong)

/-- 'gatepathlaw34.DiffSerials': WHATEVER THE INPUT: true; the input reads as it did. -/
def diffSerialsSpec : ChangeSpec := { name := "diffSerials", fn := fun _ => fun
  | [d1, d2, d3] => { results := [.lit (.bool true)], args := [d1, d2, d3] }
  | _ => none }
def diffSerialsRow : OpenClaim := { program := "ytcccdohpepnfjaa", sum := "e19b57348e9e4e61919e4a6f9c053a0043cc304e7dd60af42c195f6dd7a3eabf", func := "gatepath/gatepathlaw34.DiffSerials", spec := "diffSerials", inPlace := ["internal/bytealg.Compare"], unfollowed := true, recurses := true, apart := false }
def DiffSerialsSaid : Prop := diffSerialsRow.holds Try.pinned (OpenSpec.ofChange diffSerialsSpec)

/-- ITS FALSE NEIGHBOUR: 'it returns false'. Refute it at one input. -/
def diffSerialsWrong : ChangeSpec := { name := "diffSerials", fn := fun _ => fun
  | [d1, d2, d3] => { results := [.lit (.bool false)], args := [d1, d2, d3] }
  | _ => none }
def DiffSerialsWrongFalsely : Prop := diffSerialsRow.holds Try.pinned (OpenSpec.ofChange diffSerialsWrong)

/-- 'gatepathlaw34.DiffBoth': WHATEVER THE INPUT: true; the input reads as it did. -/
def diffBothSpec : ChangeSpec := { name := "diffBoth", fn := fun _ => fun
  | [d1, d2, d3, d4] => { results := [.lit (.bool true)], args := [d1, d2, d3, d4] }
  | _ => none }
def diffBothRow : OpenClaim := { program := "ytcccdohpepnfjaa", sum := "e19b57348e9e4e61919e4a6f9c053a0043cc304e7dd60af42c195f6dd7a3eabf", func := "gatepath/gatepathlaw34.DiffBoth", spec := "diffBoth", inPlace := ["internal/bytealg.Compare"], unfollowed := true, recurses := true, apart := false }
def DiffBothSaid : Prop := diffBothRow.holds Try.pinned (OpenSpec.ofChange diffBothSpec)

/-- ITS FALSE NEIGHBOUR: 'it returns false'. Refute it at one input. -/
def diffBothWrong : ChangeSpec := { name := "diffBoth", fn := fun _ => fun
  | [d1, d2, d3, d4] => { results := [.lit (.bool false)], args := [d1, d2, d3, d4] }
  | _ => none }
def DiffBothWrongFalsely : Prop := diffBothRow.holds Try.pinned (OpenSpec.ofChange diffBothWrong)

/-- 'gatepathlaw34.DiffNames': WHATEVER THE INPUT: true; the input reads as it did. -/
def diffNamesSpec : ChangeSpec := { name := "diffNames", fn := fun _ => fun
  | [] => { results := [.lit (.bool true)], args := [] }
  | _ => none }
def diffNamesRow : OpenClaim := { program := "ytcccdohpepnfjaa", sum := "e19b57348e9e4e61919e4a6f9c053a0043cc304e7dd60af42c195f6dd7a3eabf", func := "gatepath/gatepathlaw34.DiffNames", spec := "diffNames", inPlace := ["internal/bytealg.Compare"], unfollowed := true, recurses := true, apart := false }
def DiffNamesSaid : Prop := diffNamesRow.holds Try.pinned (OpenSpec.ofChange diffNamesSpec)

/-- ITS FALSE NEIGHBOUR: 'it returns false'. Refute it at one input. -/
def diffNamesWrong : ChangeSpec := { name := "diffNames", fn := fun _ => fun
  | [] => { results := [.lit (.bool false)], args := [] }
  | _ => none }
def DiffNamesWrongFalsely : Prop := diffNamesRow.holds Try.pinned (OpenSpec.ofChange diffNamesWrong)

/-- 'gatepathlaw34.DiffBack': WHATEVER THE INPUT: true; the input reads as it did. -/
def diffBackSpec : ChangeSpec := { name := "diffBack", fn := fun _ => fun
  | [d1, d2] => { results := [.lit (.bool true)], args := [d1, d2] }
  | _ => none }
def diffBackRow : OpenClaim := { program := "ytcccdohpepnfjaa", sum := "e19b57348e9e4e61919e4a6f9c053a0043cc304e7dd60af42c195f6dd7a3eabf", func := "gatepath/gatepathlaw34.DiffBack", spec := "diffBack", inPlace := ["internal/bytealg.Compare"], unfollowed := true, recurses := true, apart := false }
def DiffBackSaid : Prop := diffBackRow.holds Try.pinned (OpenSpec.ofChange diffBackSpec)

/-- ITS FALSE NEIGHBOUR: 'it returns false'. Refute it at one input. -/
def diffBackWrong : ChangeSpec := { name := "diffBack", fn := fun _ => fun
  | [d1, d2] => { results := [.lit (.bool false)], args := [d1, d2] }
  | _ => none }
def DiffBackWrongFalsely : Prop := diffBackRow.holds Try.pinned (OpenSpec.ofChange diffBackWrong)

/- THE SECOND FORM. 'bulk': how many values and letters a reading holds, each counted each time it is reached (what is shared counts as often as it is met; a slice's spare places count too). A statement '..UptoSaid' is the law's where the arguments, and the package variables that the reading takes, are together of bulk at most 1048576: NARROWER than '..Said'. Prove '..Said' where nothing that the law and all that it calls make is longer than what came in: it says more and counts as full. Else prove '..UptoSaid'. A law counts once. -/
mutual
def uptoBulk {H : Type} : DataW H → Nat
  | .lit (.string bytes) => bytes.length + 1
  | .lit _ => 1
  | .nil => 1
  | .ptr d => uptoBulk d + 1
  | .slice elems spare => uptoBulkAll elems + uptoBulkAll spare + 1
  | .agg parts => uptoBulkAll parts + 1
  | .iface _ d => uptoBulk d + 1
  | .map entries => uptoBulkEntries entries + 1
  | .held _ => 1
def uptoBulkAll {H : Type} : List (DataW H) → Nat
  | [] => 0
  | d :: r => uptoBulk d + uptoBulkAll r
def uptoBulkEntries {H : Type} : List (Lit × DataW H) → Nat
  | [] => 0
  | x :: r => uptoBulkEntry x + uptoBulkEntries r
def uptoBulkEntry {H : Type} : Lit × DataW H → Nat
  | (.string bytes, d) => bytes.length + uptoBulk d + 1
  | (_, d) => uptoBulk d + 1
 end
def uptoSmall : (H : Type) → List (DataW H) → Bool := fun _ ds => decide (uptoBulkAll ds ≤ 1048576)
def OpenSpec.upto (s : _root_.Go.ChangeSpec) : _root_.Go.OpenSpec := { _root_.Go.OpenSpec.ofChange s with cond := some uptoSmall }

/-- 'gatepathlaw34.DiffChecks', WHERE WHAT IT READS IS OF BULK AT MOST 1048576: true; the input reads as it did. -/
def diffChecksUptoRow : OpenClaim := { program := "ytcccdohpepnfjaa", sum := "e19b57348e9e4e61919e4a6f9c053a0043cc304e7dd60af42c195f6dd7a3eabf", func := "gatepath/gatepathlaw34.DiffChecks", spec := "diffChecks", inPlace := ["internal/bytealg.Compare"], unfollowed := true, recurses := true, apart := false, narrowed := true }
def DiffChecksUptoSaid : Prop := diffChecksUptoRow.holds Try.pinned (OpenSpec.upto diffChecksSpec)

/-- 'gatepathlaw34.DiffSerials', WHERE WHAT IT READS IS OF BULK AT MOST 1048576: true; the input reads as it did. -/
def diffSerialsUptoRow : OpenClaim := { program := "ytcccdohpepnfjaa", sum := "e19b57348e9e4e61919e4a6f9c053a0043cc304e7dd60af42c195f6dd7a3eabf", func := "gatepath/gatepathlaw34.DiffSerials", spec := "diffSerials", inPlace := ["internal/bytealg.Compare"], unfollowed := true, recurses := true, apart := false, narrowed := true }
def DiffSerialsUptoSaid : Prop := diffSerialsUptoRow.holds Try.pinned (OpenSpec.upto diffSerialsSpec)

/-- 'gatepathlaw34.DiffBoth', WHERE WHAT IT READS IS OF BULK AT MOST 1048576: true; the input reads as it did. -/
def diffBothUptoRow : OpenClaim := { program := "ytcccdohpepnfjaa", sum := "e19b57348e9e4e61919e4a6f9c053a0043cc304e7dd60af42c195f6dd7a3eabf", func := "gatepath/gatepathlaw34.DiffBoth", spec := "diffBoth", inPlace := ["internal/bytealg.Compare"], unfollowed := true, recurses := true, apart := false, narrowed := true }
def DiffBothUptoSaid : Prop := diffBothUptoRow.holds Try.pinned (OpenSpec.upto diffBothSpec)

/-- 'gatepathlaw34.DiffNames', WHERE WHAT IT READS IS OF BULK AT MOST 1048576: true; the input reads as it did. -/
def diffNamesUptoRow : OpenClaim := { program := "ytcccdohpepnfjaa", sum := "e19b57348e9e4e61919e4a6f9c053a0043cc304e7dd60af42c195f6dd7a3eabf", func := "gatepath/gatepathlaw34.DiffNames", spec := "diffNames", inPlace := ["internal/bytealg.Compare"], unfollowed := true, recurses := true, apart := false, narrowed := true }
def DiffNamesUptoSaid : Prop := diffNamesUptoRow.holds Try.pinned (OpenSpec.upto diffNamesSpec)

/-- 'gatepathlaw34.DiffBack', WHERE WHAT IT READS IS OF BULK AT MOST 1048576: true; the input reads as it did. -/
def diffBackUptoRow : OpenClaim := { program := "ytcccdohpepnfjaa", sum := "e19b57348e9e4e61919e4a6f9c053a0043cc304e7dd60af42c195f6dd7a3eabf", func := "gatepath/gatepathlaw34.DiffBack", spec := "diffBack", inPlace := ["internal/bytealg.Compare"], unfollowed := true, recurses := true, apart := false, narrowed := true }
def DiffBackUptoSaid : Prop := diffBackUptoRow.holds Try.pinned (OpenSpec.upto diffBackSpec)

end Rows
end Go.Proofs.Ytcccdohpepnfjaa
