/-
  No cell of these rows narrows 'for every input' (looked for: loops, veiled, ifaces, maps, wideKeys, modest, calm, conditions, laid).
  DERIVED. THE GIVEN ROWS OF THIS SEAT. 8 by the template 'for every input the law returns true; each argument reads behind the call as it read before'; 0 by the template 'total and deterministic' (their statements: YtnfdbpopcfcegaaTotals.lean).
  GIVEN WITH THE SEED: the statements are not yours to turn. If you find one false, say at which input.
  Laid BY PROGRAM, IN A SANDBOX (cutbox-rows.mjs): the forced cells as the released guide's own fill.sh prints them over the translation 94fab12d638a04b3… (all of the seat's roots in one cut). By AI agents, Wed Nov 11 2026. No macro, syntax, notation, axiom, sorry.
-/
import Derived.Test.YtnfdbpopcfcegaaChecked
import GoSem.Claim
import GoSem.ClaimJoined
import GoSem.ClaimMapViews
import Derived.JoinedTies
import Derived.KernelRfl
namespace Go.Proofs.Ytnfdbpopcfcegaa
/- THE CELL 'sum', in the pinned program and in every row, IS THE sha256 OF THE DUMP (.gsa) THAT YtnfdbpopcfcegaaProg.lean LOADS. Nothing in Lean hashes anything: it is a label: what it is worth is what the hold of that sum in a sandbox is worth. -/
noncomputable def Try.pinned : Pinned := { name := "ytnfdbpopcfcegaa", sum := "94fab12d638a04b311a15d47bc90332b835771fcef33973f922c116548bcf4ca", checked := Try.checked }
namespace Rows
def none {H : Type} : Left H := { results := [], args := [] }

/-- 'gatepathlaw35.PduChecks': WHATEVER THE INPUT: true; the input reads as it did. -/
def pduChecksSpec : ChangeSpec := { name := "pduChecks", fn := fun _ => fun
  | [d1, d2] => { results := [.lit (.bool true)], args := [d1, d2] }
  | _ => none }
def pduChecksRow : OpenClaim := { program := "ytnfdbpopcfcegaa", sum := "94fab12d638a04b311a15d47bc90332b835771fcef33973f922c116548bcf4ca", func := "gatepath/gatepathlaw35.PduChecks", spec := "pduChecks", unfollowed := true, recurses := true, apart := false }
def PduChecksSaid : Prop := pduChecksRow.holds Try.pinned (OpenSpec.ofChange pduChecksSpec)

/-- ITS FALSE NEIGHBOUR: 'it returns false'. Refute it at one input. -/
def pduChecksWrong : ChangeSpec := { name := "pduChecks", fn := fun _ => fun
  | [d1, d2] => { results := [.lit (.bool false)], args := [d1, d2] }
  | _ => none }
def PduChecksWrongFalsely : Prop := pduChecksRow.holds Try.pinned (OpenSpec.ofChange pduChecksWrong)

/-- 'gatepathlaw35.PduNames': WHATEVER THE INPUT: true; the input reads as it did. -/
def pduNamesSpec : ChangeSpec := { name := "pduNames", fn := fun _ => fun
  | [] => { results := [.lit (.bool true)], args := [] }
  | _ => none }
def pduNamesRow : OpenClaim := { program := "ytnfdbpopcfcegaa", sum := "94fab12d638a04b311a15d47bc90332b835771fcef33973f922c116548bcf4ca", func := "gatepath/gatepathlaw35.PduNames", spec := "pduNames", unfollowed := true, recurses := true, apart := false }
def PduNamesSaid : Prop := pduNamesRow.holds Try.pinned (OpenSpec.ofChange pduNamesSpec)

/-- ITS FALSE NEIGHBOUR: 'it returns false'. Refute it at one input. -/
def pduNamesWrong : ChangeSpec := { name := "pduNames", fn := fun _ => fun
  | [] => { results := [.lit (.bool false)], args := [] }
  | _ => none }
def PduNamesWrongFalsely : Prop := pduNamesRow.holds Try.pinned (OpenSpec.ofChange pduNamesWrong)

/-- 'gatepathlaw35.PduCodes': WHATEVER THE INPUT: true; the input reads as it did. -/
def pduCodesSpec : ChangeSpec := { name := "pduCodes", fn := fun _ => fun
  | [d1, d2] => { results := [.lit (.bool true)], args := [d1, d2] }
  | _ => none }
def pduCodesRow : OpenClaim := { program := "ytnfdbpopcfcegaa", sum := "94fab12d638a04b311a15d47bc90332b835771fcef33973f922c116548bcf4ca", func := "gatepath/gatepathlaw35.PduCodes", spec := "pduCodes", unfollowed := true, recurses := true, apart := false }
def PduCodesSaid : Prop := pduCodesRow.holds Try.pinned (OpenSpec.ofChange pduCodesSpec)

/-- ITS FALSE NEIGHBOUR: 'it returns false'. Refute it at one input. -/
def pduCodesWrong : ChangeSpec := { name := "pduCodes", fn := fun _ => fun
  | [d1, d2] => { results := [.lit (.bool false)], args := [d1, d2] }
  | _ => none }
def PduCodesWrongFalsely : Prop := pduCodesRow.holds Try.pinned (OpenSpec.ofChange pduCodesWrong)

/-- 'gatepathlaw35.PduBack': WHATEVER THE INPUT: true; the input reads as it did. -/
def pduBackSpec : ChangeSpec := { name := "pduBack", fn := fun _ => fun
  | [d1, d2] => { results := [.lit (.bool true)], args := [d1, d2] }
  | _ => none }
def pduBackRow : OpenClaim := { program := "ytnfdbpopcfcegaa", sum := "94fab12d638a04b311a15d47bc90332b835771fcef33973f922c116548bcf4ca", func := "gatepath/gatepathlaw35.PduBack", spec := "pduBack", unfollowed := true, recurses := true, apart := false }
def PduBackSaid : Prop := pduBackRow.holds Try.pinned (OpenSpec.ofChange pduBackSpec)

/-- ITS FALSE NEIGHBOUR: 'it returns false'. Refute it at one input. -/
def pduBackWrong : ChangeSpec := { name := "pduBack", fn := fun _ => fun
  | [d1, d2] => { results := [.lit (.bool false)], args := [d1, d2] }
  | _ => none }
def PduBackWrongFalsely : Prop := pduBackRow.holds Try.pinned (OpenSpec.ofChange pduBackWrong)

/-- 'gatepathlaw35.PduOnce': WHATEVER THE INPUT: true; the input reads as it did. -/
def pduOnceSpec : ChangeSpec := { name := "pduOnce", fn := fun _ => fun
  | [d] => { results := [.lit (.bool true)], args := [d] }
  | _ => none }
def pduOnceRow : OpenClaim := { program := "ytnfdbpopcfcegaa", sum := "94fab12d638a04b311a15d47bc90332b835771fcef33973f922c116548bcf4ca", func := "gatepath/gatepathlaw35.PduOnce", spec := "pduOnce", unfollowed := true, recurses := true, apart := false }
def PduOnceSaid : Prop := pduOnceRow.holds Try.pinned (OpenSpec.ofChange pduOnceSpec)

/-- ITS FALSE NEIGHBOUR: 'it returns false'. Refute it at one input. -/
def pduOnceWrong : ChangeSpec := { name := "pduOnce", fn := fun _ => fun
  | [d] => { results := [.lit (.bool false)], args := [d] }
  | _ => none }
def PduOnceWrongFalsely : Prop := pduOnceRow.holds Try.pinned (OpenSpec.ofChange pduOnceWrong)

/-- 'gatepathlaw35.PduStreams': WHATEVER THE INPUT: true; the input reads as it did. -/
def pduStreamsSpec : ChangeSpec := { name := "pduStreams", fn := fun _ => fun
  | [d] => { results := [.lit (.bool true)], args := [d] }
  | _ => none }
def pduStreamsRow : OpenClaim := { program := "ytnfdbpopcfcegaa", sum := "94fab12d638a04b311a15d47bc90332b835771fcef33973f922c116548bcf4ca", func := "gatepath/gatepathlaw35.PduStreams", spec := "pduStreams", unfollowed := true, recurses := true, apart := false }
def PduStreamsSaid : Prop := pduStreamsRow.holds Try.pinned (OpenSpec.ofChange pduStreamsSpec)

/-- ITS FALSE NEIGHBOUR: 'it returns false'. Refute it at one input. -/
def pduStreamsWrong : ChangeSpec := { name := "pduStreams", fn := fun _ => fun
  | [d] => { results := [.lit (.bool false)], args := [d] }
  | _ => none }
def PduStreamsWrongFalsely : Prop := pduStreamsRow.holds Try.pinned (OpenSpec.ofChange pduStreamsWrong)

/-- 'gatepathlaw35.PduCuts': WHATEVER THE INPUT: true; the input reads as it did. -/
def pduCutsSpec : ChangeSpec := { name := "pduCuts", fn := fun _ => fun
  | [d1, d2] => { results := [.lit (.bool true)], args := [d1, d2] }
  | _ => none }
def pduCutsRow : OpenClaim := { program := "ytnfdbpopcfcegaa", sum := "94fab12d638a04b311a15d47bc90332b835771fcef33973f922c116548bcf4ca", func := "gatepath/gatepathlaw35.PduCuts", spec := "pduCuts", unfollowed := true, recurses := true, apart := false }
def PduCutsSaid : Prop := pduCutsRow.holds Try.pinned (OpenSpec.ofChange pduCutsSpec)

/-- ITS FALSE NEIGHBOUR: 'it returns false'. Refute it at one input. -/
def pduCutsWrong : ChangeSpec := { name := "pduCuts", fn := fun _ => fun
  | [d1, d2] => { results := [.lit (.bool false)], args := [d1, d2] }
  | _ => none }
def PduCutsWrongFalsely : Prop := pduCutsRow.holds Try.pinned (OpenSpec.ofChange pduCutsWrong)

/-- 'gatepathlaw35.PduJoins': WHATEVER THE INPUT: true; the input reads as it did. -/
def pduJoinsSpec : ChangeSpec := { name := "pduJoins", fn := fun _ => fun
  | [d1, d2] => { results := [.lit (.bool true)], args := [d1, d2] }
  | _ => none }
def pduJoinsRow : OpenClaim := { program := "ytnfdbpopcfcegaa", sum := "94fab12d638a04b311a15d47bc90332b835771fcef33973f922c116548bcf4ca", func := "gatepath/gatepathlaw35.PduJoins", spec := "pduJoins", unfollowed := true, recurses := true, apart := false }
def PduJoinsSaid : Prop := pduJoinsRow.holds Try.pinned (OpenSpec.ofChange pduJoinsSpec)

/-- ITS FALSE NEIGHBOUR: 'it returns false'. Refute it at one input. -/
def pduJoinsWrong : ChangeSpec := { name := "pduJoins", fn := fun _ => fun
  | [d1, d2] => { results := [.lit (.bool false)], args := [d1, d2] }
  | _ => none }
def PduJoinsWrongFalsely : Prop := pduJoinsRow.holds Try.pinned (OpenSpec.ofChange pduJoinsWrong)

/- THE SECOND FORM. 'bulk': how many values and letters a reading holds, each counted each time it is reached (what is shared counts as often as it is met; a slice's spare places count too). A statement '..UptoSaid' is the law's where the arguments, and the package variables that the reading takes, are together of bulk at most 1048576: NARROWER than '..Said'. Prove '..Said' where nothing that the law and all that it calls make is longer than what came in: it says more and counts as full. Else prove '..UptoSaid'. A law counts once. -/
mutual
def uptoBulk {H : Type} : DataW H → Nat
  | .lit (.string bytes) => bytes.length + 1
  | .lit _ => 1
  | .nil => 1
  | .ptr d => uptoBulk d + 1
  | .slice elems spare => uptoBulkAll elems + uptoBulkAll spare + 1
  | .agg parts => uptoBulkAll parts + 1
  | .iface _ d => uptoBulk d + 1
  | .map entries => uptoBulkEntries entries + 1
  | .held _ => 1
def uptoBulkAll {H : Type} : List (DataW H) → Nat
  | [] => 0
  | d :: r => uptoBulk d + uptoBulkAll r
def uptoBulkEntries {H : Type} : List (Lit × DataW H) → Nat
  | [] => 0
  | x :: r => uptoBulkEntry x + uptoBulkEntries r
def uptoBulkEntry {H : Type} : Lit × DataW H → Nat
  | (.string bytes, d) => bytes.length + uptoBulk d + 1
  | (_, d) => uptoBulk d + 1
 end
def uptoSmall : (H : Type) → List (DataW H) → Bool := fun _ ds => decide (uptoBulkAll ds ≤ 1048576)
def OpenSpec.upto (s : _root_.Go.ChangeSpec) : _root_.Go.OpenSpec := { _root_.Go.OpenSpec.ofChange s with cond := some uptoSmall }

/-- 'gatepathlaw35.PduChecks', WHERE WHAT IT READS IS OF BULK AT MOST 1048576: true; the input reads as it did. -/
def pduChecksUptoRow : OpenClaim := { program := "ytnfdbpopcfcegaa", sum := "94fab12d638a04b311a15d47bc90332b835771fcef33973f922c116548bcf4ca", func := "gatepath/gatepathlaw35.PduChecks", spec := "pduChecks", unfollowed := true, recurses := true, apart := false, narrowed := true }
def PduChecksUptoSaid : Prop := pduChecksUptoRow.holds Try.pinned (OpenSpec.upto pduChecksSpec)

/-- 'gatepathlaw35.PduNames', WHERE WHAT IT READS IS OF BULK AT MOST 1048576: true; the input reads as it did. -/
def pduNamesUptoRow : OpenClaim := { program := "ytnfdbpopcfcegaa", sum := "94fab12d638a04b311a15d47bc90332b835771fcef33973f922c116548bcf4ca", func := "gatepath/gatepathlaw35.PduNames", spec := "pduNames", unfollowed := true, recurses := true, apart := false, narrowed := true }
def PduNamesUptoSaid : Prop := pduNamesUptoRow.holds Try.pinned (OpenSpec.upto pduNamesSpec)

/-- 'gatepathlaw35.PduCodes', WHERE WHAT IT READS IS OF BULK AT MOST 1048576: true; the input reads as it did. -/
def pduCodesUptoRow : OpenClaim := { program := "ytnfdbpopcfcegaa", sum := "94fab12d638a04b311a15d47bc90332b835771fcef33973f922c116548bcf4ca", func := "gatepath/gatepathlaw35.PduCodes", spec := "pduCodes", unfollowed := true, recurses := true, apart := false, narrowed := true }
def PduCodesUptoSaid : Prop := pduCodesUptoRow.holds Try.pinned (OpenSpec.upto pduCodesSpec)

/-- 'gatepathlaw35.PduBack', WHERE WHAT IT READS IS OF BULK AT MOST 1048576: true; the input reads as it did. -/
def pduBackUptoRow : OpenClaim := { program := "ytnfdbpopcfcegaa", sum := "94fab12d638a04b311a15d47bc90332b835771fcef33973f922c116548bcf4ca", func := "gatepath/gatepathlaw35.PduBack", spec := "pduBack", unfollowed := true, recurses := true, apart := false, narrowed := true }
def PduBackUptoSaid : Prop := pduBackUptoRow.holds Try.pinned (OpenSpec.upto pduBackSpec)

/-- 'gatepathlaw35.PduOnce', WHERE WHAT IT READS IS OF BULK AT MOST 1048576: true; the input reads as it did. -/
def pduOnceUptoRow : OpenClaim := { program := "ytnfdbpopcfcegaa", sum := "94fab12d638a04b311a15d47bc90332b835771fcef33973f922c116548bcf4ca", func := "gatepath/gatepathlaw35.PduOnce", spec := "pduOnce", unfollowed := true, recurses := true, apart := false, narrowed := true }
def PduOnceUptoSaid : Prop := pduOnceUptoRow.holds Try.pinned (OpenSpec.upto pduOnceSpec)

/-- 'gatepathlaw35.PduStreams', WHERE WHAT IT READS IS OF BULK AT MOST 1048576: true; the input reads as it did. -/
def pduStreamsUptoRow : OpenClaim := { program := "ytnfdbpopcfcegaa", sum := "94fab12d638a04b311a15d47bc90332b835771fcef33973f922c116548bcf4ca", func := "gatepath/gatepathlaw35.PduStreams", spec := "pduStreams", unfollowed := true, recurses := true, apart := false, narrowed := true }
def PduStreamsUptoSaid : Prop := pduStreamsUptoRow.holds Try.pinned (OpenSpec.upto pduStreamsSpec)

/-- 'gatepathlaw35.PduCuts', WHERE WHAT IT READS IS OF BULK AT MOST 1048576: true; the input reads as it did. -/
def pduCutsUptoRow : OpenClaim := { program := "ytnfdbpopcfcegaa", sum := "94fab12d638a04b311a15d47bc90332b835771fcef33973f922c116548bcf4ca", func := "gatepath/gatepathlaw35.PduCuts", spec := "pduCuts", unfollowed := true, recurses := true, apart := false, narrowed := true }
def PduCutsUptoSaid : Prop := pduCutsUptoRow.holds Try.pinned (OpenSpec.upto pduCutsSpec)

/-- 'gatepathlaw35.PduJoins', WHERE WHAT IT READS IS OF BULK AT MOST 1048576: true; the input reads as it did. -/
def pduJoinsUptoRow : OpenClaim := { program := "ytnfdbpopcfcegaa", sum := "94fab12d638a04b311a15d47bc90332b835771fcef33973f922c116548bcf4ca", func := "gatepath/gatepathlaw35.PduJoins", spec := "pduJoins", unfollowed := true, recurses := true, apart := false, narrowed := true }
def PduJoinsUptoSaid : Prop := pduJoinsUptoRow.holds Try.pinned (OpenSpec.upto pduJoinsSpec)

end Rows
end Go.Proofs.Ytnfdbpopcfcegaa
