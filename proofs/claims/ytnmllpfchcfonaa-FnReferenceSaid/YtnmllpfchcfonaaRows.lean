/-
  No cell of these rows narrows 'for every input' (looked for: loops, veiled, ifaces, maps, wideKeys, modest, calm, conditions, laid).
  DERIVED. THE GIVEN ROWS OF THIS SEAT. 8 by the template 'for every input the law returns true; each argument reads behind the call as it read before'; 0 by the template 'total and deterministic' (their statements: YtnmllpfchcfonaaTotals.lean).
  GIVEN WITH THE SEED: the statements are not yours to turn. If you find one false, say at which input.
  Laid BY PROGRAM, IN A SANDBOX (cutbox-rows.mjs): the forced cells as the released guide's own fill.sh prints them over the translation aea387355d72c891… (all of the seat's roots in one cut). By AI agents, Wed Nov 11 2026. No macro, syntax, notation, axiom, sorry.
-/
import Derived.Test.YtnmllpfchcfonaaChecked
import GoSem.Claim
import GoSem.ClaimJoined
import GoSem.ClaimMapViews
import Derived.JoinedTies
import Derived.KernelRfl
namespace Go.Proofs.Ytnmllpfchcfonaa
/- THE CELL 'sum', in the pinned program and in every row, IS THE sha256 OF THE DUMP (.gsa) THAT YtnmllpfchcfonaaProg.lean LOADS. Nothing in Lean hashes anything: it is a label: what it is worth is what the hold of that sum in a sandbox is worth. -/
noncomputable def Try.pinned : Pinned := { name := "ytnmllpfchcfonaa", sum := "aea387355d72c891936cef24a5f16a86cf4a37b864fe186d9260f6b447404cc3", checked := Try.checked }
namespace Rows
def none {H : Type} : Left H := { results := [], args := [] }

/-- 'laws.FnBadPolicy': WHATEVER THE INPUT: true; the input reads as it did. -/
def fnBadPolicySpec : ChangeSpec := { name := "fnBadPolicy", fn := fun _ => fun
  | [d] => { results := [.lit (.bool true)], args := [d] }
  | _ => none }
def fnBadPolicyRow : OpenClaim := { program := "ytnmllpfchcfonaa", sum := "aea387355d72c891936cef24a5f16a86cf4a37b864fe186d9260f6b447404cc3", func := "loop.example/g00977/laws.FnBadPolicy", spec := "fnBadPolicy", apart := false }
def FnBadPolicySaid : Prop := fnBadPolicyRow.holds Try.pinned (OpenSpec.ofChange fnBadPolicySpec)

/-- ITS FALSE NEIGHBOUR: 'it returns false'. Refute it at one input. -/
def fnBadPolicyWrong : ChangeSpec := { name := "fnBadPolicy", fn := fun _ => fun
  | [d] => { results := [.lit (.bool false)], args := [d] }
  | _ => none }
def FnBadPolicyWrongFalsely : Prop := fnBadPolicyRow.holds Try.pinned (OpenSpec.ofChange fnBadPolicyWrong)

/-- 'laws.FnReference': WHATEVER THE INPUT: true; the input reads as it did. -/
def fnReferenceSpec : ChangeSpec := { name := "fnReference", fn := fun _ => fun
  | [d] => { results := [.lit (.bool true)], args := [d] }
  | _ => none }
def fnReferenceRow : OpenClaim := { program := "ytnmllpfchcfonaa", sum := "aea387355d72c891936cef24a5f16a86cf4a37b864fe186d9260f6b447404cc3", func := "loop.example/g00977/laws.FnReference", spec := "fnReference", apart := false }
def FnReferenceSaid : Prop := fnReferenceRow.holds Try.pinned (OpenSpec.ofChange fnReferenceSpec)

/-- ITS FALSE NEIGHBOUR: 'it returns false'. Refute it at one input. -/
def fnReferenceWrong : ChangeSpec := { name := "fnReference", fn := fun _ => fun
  | [d] => { results := [.lit (.bool false)], args := [d] }
  | _ => none }
def FnReferenceWrongFalsely : Prop := fnReferenceRow.holds Try.pinned (OpenSpec.ofChange fnReferenceWrong)

/-- 'laws.FnExactAnswersOk': WHATEVER THE INPUT: true; the input reads as it did. -/
def fnExactAnswersOkSpec : ChangeSpec := { name := "fnExactAnswersOk", fn := fun _ => fun
  | [d1, d2, d3] => { results := [.lit (.bool true)], args := [d1, d2, d3] }
  | _ => none }
def fnExactAnswersOkRow : OpenClaim := { program := "ytnmllpfchcfonaa", sum := "aea387355d72c891936cef24a5f16a86cf4a37b864fe186d9260f6b447404cc3", func := "loop.example/g00977/laws.FnExactAnswersOk", spec := "fnExactAnswersOk", apart := false }
def FnExactAnswersOkSaid : Prop := fnExactAnswersOkRow.holds Try.pinned (OpenSpec.ofChange fnExactAnswersOkSpec)

/-- ITS FALSE NEIGHBOUR: 'it returns false'. Refute it at one input. -/
def fnExactAnswersOkWrong : ChangeSpec := { name := "fnExactAnswersOk", fn := fun _ => fun
  | [d1, d2, d3] => { results := [.lit (.bool false)], args := [d1, d2, d3] }
  | _ => none }
def FnExactAnswersOkWrongFalsely : Prop := fnExactAnswersOkRow.holds Try.pinned (OpenSpec.ofChange fnExactAnswersOkWrong)

/-- 'laws.FnFlipBack': WHATEVER THE INPUT: true; the input reads as it did. -/
def fnFlipBackSpec : ChangeSpec := { name := "fnFlipBack", fn := fun _ => fun
  | [d] => { results := [.lit (.bool true)], args := [d] }
  | _ => none }
def fnFlipBackRow : OpenClaim := { program := "ytnmllpfchcfonaa", sum := "aea387355d72c891936cef24a5f16a86cf4a37b864fe186d9260f6b447404cc3", func := "loop.example/g00977/laws.FnFlipBack", spec := "fnFlipBack", apart := false }
def FnFlipBackSaid : Prop := fnFlipBackRow.holds Try.pinned (OpenSpec.ofChange fnFlipBackSpec)

/-- ITS FALSE NEIGHBOUR: 'it returns false'. Refute it at one input. -/
def fnFlipBackWrong : ChangeSpec := { name := "fnFlipBack", fn := fun _ => fun
  | [d] => { results := [.lit (.bool false)], args := [d] }
  | _ => none }
def FnFlipBackWrongFalsely : Prop := fnFlipBackRow.holds Try.pinned (OpenSpec.ofChange fnFlipBackWrong)

/-- 'laws.FnAges': WHATEVER THE INPUT: true; the input reads as it did. -/
def fnAgesSpec : ChangeSpec := { name := "fnAges", fn := fun _ => fun
  | [d] => { results := [.lit (.bool true)], args := [d] }
  | _ => none }
def fnAgesRow : OpenClaim := { program := "ytnmllpfchcfonaa", sum := "aea387355d72c891936cef24a5f16a86cf4a37b864fe186d9260f6b447404cc3", func := "loop.example/g00977/laws.FnAges", spec := "fnAges", apart := false }
def FnAgesSaid : Prop := fnAgesRow.holds Try.pinned (OpenSpec.ofChange fnAgesSpec)

/-- ITS FALSE NEIGHBOUR: 'it returns false'. Refute it at one input. -/
def fnAgesWrong : ChangeSpec := { name := "fnAges", fn := fun _ => fun
  | [d] => { results := [.lit (.bool false)], args := [d] }
  | _ => none }
def FnAgesWrongFalsely : Prop := fnAgesRow.holds Try.pinned (OpenSpec.ofChange fnAgesWrong)

/-- 'laws.FnStored': WHATEVER THE INPUT: true; the input reads as it did. -/
def fnStoredSpec : ChangeSpec := { name := "fnStored", fn := fun _ => fun
  | [d] => { results := [.lit (.bool true)], args := [d] }
  | _ => none }
def fnStoredRow : OpenClaim := { program := "ytnmllpfchcfonaa", sum := "aea387355d72c891936cef24a5f16a86cf4a37b864fe186d9260f6b447404cc3", func := "loop.example/g00977/laws.FnStored", spec := "fnStored", apart := false }
def FnStoredSaid : Prop := fnStoredRow.holds Try.pinned (OpenSpec.ofChange fnStoredSpec)

/-- ITS FALSE NEIGHBOUR: 'it returns false'. Refute it at one input. -/
def fnStoredWrong : ChangeSpec := { name := "fnStored", fn := fun _ => fun
  | [d] => { results := [.lit (.bool false)], args := [d] }
  | _ => none }
def FnStoredWrongFalsely : Prop := fnStoredRow.holds Try.pinned (OpenSpec.ofChange fnStoredWrong)

/-- 'laws.FnReadyOn': WHATEVER THE INPUT: true; the input reads as it did. -/
def fnReadyOnSpec : ChangeSpec := { name := "fnReadyOn", fn := fun _ => fun
  | [d] => { results := [.lit (.bool true)], args := [d] }
  | _ => none }
def fnReadyOnRow : OpenClaim := { program := "ytnmllpfchcfonaa", sum := "aea387355d72c891936cef24a5f16a86cf4a37b864fe186d9260f6b447404cc3", func := "loop.example/g00977/laws.FnReadyOn", spec := "fnReadyOn", apart := false }
def FnReadyOnSaid : Prop := fnReadyOnRow.holds Try.pinned (OpenSpec.ofChange fnReadyOnSpec)

/-- ITS FALSE NEIGHBOUR: 'it returns false'. Refute it at one input. -/
def fnReadyOnWrong : ChangeSpec := { name := "fnReadyOn", fn := fun _ => fun
  | [d] => { results := [.lit (.bool false)], args := [d] }
  | _ => none }
def FnReadyOnWrongFalsely : Prop := fnReadyOnRow.holds Try.pinned (OpenSpec.ofChange fnReadyOnWrong)

/-- 'laws.FnScrubbed': WHATEVER THE INPUT: true; the input reads as it did. -/
def fnScrubbedSpec : ChangeSpec := { name := "fnScrubbed", fn := fun _ => fun
  | [d] => { results := [.lit (.bool true)], args := [d] }
  | _ => none }
def fnScrubbedRow : OpenClaim := { program := "ytnmllpfchcfonaa", sum := "aea387355d72c891936cef24a5f16a86cf4a37b864fe186d9260f6b447404cc3", func := "loop.example/g00977/laws.FnScrubbed", spec := "fnScrubbed", apart := false }
def FnScrubbedSaid : Prop := fnScrubbedRow.holds Try.pinned (OpenSpec.ofChange fnScrubbedSpec)

/-- ITS FALSE NEIGHBOUR: 'it returns false'. Refute it at one input. -/
def fnScrubbedWrong : ChangeSpec := { name := "fnScrubbed", fn := fun _ => fun
  | [d] => { results := [.lit (.bool false)], args := [d] }
  | _ => none }
def FnScrubbedWrongFalsely : Prop := fnScrubbedRow.holds Try.pinned (OpenSpec.ofChange fnScrubbedWrong)

/- THE SECOND FORM. 'bulk': how many values and letters a reading holds, each counted each time it is reached (what is shared counts as often as it is met; a slice's spare places count too). A statement '..UptoSaid' is the law's where the arguments, and the package variables that the reading takes, are together of bulk at most 1048576: NARROWER than '..Said'. Prove '..Said' where nothing that the law and all that it calls make is longer than what came in: it says more and counts as full. Else prove '..UptoSaid'. A law counts once. -/
mutual
def uptoBulk {H : Type} : DataW H → Nat
  | .lit (.string bytes) => bytes.length + 1
  | .lit _ => 1
  | .nil => 1
  | .ptr d => uptoBulk d + 1
  | .slice elems spare => uptoBulkAll elems + uptoBulkAll spare + 1
  | .agg parts => uptoBulkAll parts + 1
  | .iface _ d => uptoBulk d + 1
  | .map entries => uptoBulkEntries entries + 1
  | .held _ => 1
def uptoBulkAll {H : Type} : List (DataW H) → Nat
  | [] => 0
  | d :: r => uptoBulk d + uptoBulkAll r
def uptoBulkEntries {H : Type} : List (Lit × DataW H) → Nat
  | [] => 0
  | x :: r => uptoBulkEntry x + uptoBulkEntries r
def uptoBulkEntry {H : Type} : Lit × DataW H → Nat
  | (.string bytes, d) => bytes.length + uptoBulk d + 1
  | (_, d) => uptoBulk d + 1
 end
def uptoSmall : (H : Type) → List (DataW H) → Bool := fun _ ds => decide (uptoBulkAll ds ≤ 1048576)
def OpenSpec.upto (s : _root_.Go.ChangeSpec) : _root_.Go.OpenSpec := { _root_.Go.OpenSpec.ofChange s with cond := some uptoSmall }

/-- 'laws.FnBadPolicy', WHERE WHAT IT READS IS OF BULK AT MOST 1048576: true; the input reads as it did. -/
def fnBadPolicyUptoRow : OpenClaim := { program := "ytnmllpfchcfonaa", sum := "aea387355d72c891936cef24a5f16a86cf4a37b864fe186d9260f6b447404cc3", func := "loop.example/g00977/laws.FnBadPolicy", spec := "fnBadPolicy", apart := false, narrowed := true }
def FnBadPolicyUptoSaid : Prop := fnBadPolicyUptoRow.holds Try.pinned (OpenSpec.upto fnBadPolicySpec)

/-- 'laws.FnReference', WHERE WHAT IT READS IS OF BULK AT MOST 1048576: true; the input reads as it did. -/
def fnReferenceUptoRow : OpenClaim := { program := "ytnmllpfchcfonaa", sum := "aea387355d72c891936cef24a5f16a86cf4a37b864fe186d9260f6b447404cc3", func := "loop.example/g00977/laws.FnReference", spec := "fnReference", apart := false, narrowed := true }
def FnReferenceUptoSaid : Prop := fnReferenceUptoRow.holds Try.pinned (OpenSpec.upto fnReferenceSpec)

/-- 'laws.FnExactAnswersOk', WHERE WHAT IT READS IS OF BULK AT MOST 1048576: true; the input reads as it did. -/
def fnExactAnswersOkUptoRow : OpenClaim := { program := "ytnmllpfchcfonaa", sum := "aea387355d72c891936cef24a5f16a86cf4a37b864fe186d9260f6b447404cc3", func := "loop.example/g00977/laws.FnExactAnswersOk", spec := "fnExactAnswersOk", apart := false, narrowed := true }
def FnExactAnswersOkUptoSaid : Prop := fnExactAnswersOkUptoRow.holds Try.pinned (OpenSpec.upto fnExactAnswersOkSpec)

/-- 'laws.FnFlipBack', WHERE WHAT IT READS IS OF BULK AT MOST 1048576: true; the input reads as it did. -/
def fnFlipBackUptoRow : OpenClaim := { program := "ytnmllpfchcfonaa", sum := "aea387355d72c891936cef24a5f16a86cf4a37b864fe186d9260f6b447404cc3", func := "loop.example/g00977/laws.FnFlipBack", spec := "fnFlipBack", apart := false, narrowed := true }
def FnFlipBackUptoSaid : Prop := fnFlipBackUptoRow.holds Try.pinned (OpenSpec.upto fnFlipBackSpec)

/-- 'laws.FnAges', WHERE WHAT IT READS IS OF BULK AT MOST 1048576: true; the input reads as it did. -/
def fnAgesUptoRow : OpenClaim := { program := "ytnmllpfchcfonaa", sum := "aea387355d72c891936cef24a5f16a86cf4a37b864fe186d9260f6b447404cc3", func := "loop.example/g00977/laws.FnAges", spec := "fnAges", apart := false, narrowed := true }
def FnAgesUptoSaid : Prop := fnAgesUptoRow.holds Try.pinned (OpenSpec.upto fnAgesSpec)

/-- 'laws.FnStored', WHERE WHAT IT READS IS OF BULK AT MOST 1048576: true; the input reads as it did. -/
def fnStoredUptoRow : OpenClaim := { program := "ytnmllpfchcfonaa", sum := "aea387355d72c891936cef24a5f16a86cf4a37b864fe186d9260f6b447404cc3", func := "loop.example/g00977/laws.FnStored", spec := "fnStored", apart := false, narrowed := true }
def FnStoredUptoSaid : Prop := fnStoredUptoRow.holds Try.pinned (OpenSpec.upto fnStoredSpec)

/-- 'laws.FnReadyOn', WHERE WHAT IT READS IS OF BULK AT MOST 1048576: true; the input reads as it did. -/
def fnReadyOnUptoRow : OpenClaim := { program := "ytnmllpfchcfonaa", sum := "aea387355d72c891936cef24a5f16a86cf4a37b864fe186d9260f6b447404cc3", func := "loop.example/g00977/laws.FnReadyOn", spec := "fnReadyOn", apart := false, narrowed := true }
def FnReadyOnUptoSaid : Prop := fnReadyOnUptoRow.holds Try.pinned (OpenSpec.upto fnReadyOnSpec)

/-- 'laws.FnScrubbed', WHERE WHAT IT READS IS OF BULK AT MOST 1048576: true; the input reads as it did. -/
def fnScrubbedUptoRow : OpenClaim := { program := "ytnmllpfchcfonaa", sum := "aea387355d72c891936cef24a5f16a86cf4a37b864fe186d9260f6b447404cc3", func := "loop.example/g00977/laws.FnScrubbed", spec := "fnScrubbed", apart := false, narrowed := true }
def FnScrubbedUptoSaid : Prop := fnScrubbedUptoRow.holds Try.pinned (OpenSpec.upto fnScrubbedSpec)

end Rows
end Go.Proofs.Ytnmllpfchcfonaa
