/-
  No cell of these rows narrows 'for every input' (looked for: loops, veiled, ifaces, maps, wideKeys, modest, calm, conditions, laid).
  DERIVED. THE GIVEN ROWS OF THIS SEAT. 11 by the template 'for every input the law returns true; each argument reads behind the call as it read before'; 0 by the template 'total and deterministic' (their statements: YtkgliadgedamiaaTotals.lean).
  GIVEN WITH THE SEED: the statements are not yours to turn. If you find one false, say at which input.
  Laid BY PROGRAM, IN A SANDBOX (cutbox-rows.mjs): the forced cells as the released guide's own fill.sh prints them over the translation 5b06bd1a6102c0ec… (all of the seat's roots in one cut). By AI agents, Wed Nov 11 2026. No macro, syntax, notation, axiom, sorry.
-/
import Derived.Test.YtkgliadgedamiaaChecked
import GoSem.Claim
import GoSem.ClaimJoined
import GoSem.ClaimMapViews
import Derived.JoinedTies
import Derived.KernelRfl
namespace Go.Proofs.Ytkgliadgedamiaa
/- THE CELL 'sum', in the pinned program and in every row, IS THE sha256 OF THE DUMP (.gsa) THAT YtkgliadgedamiaaProg.lean LOADS. Nothing in Lean hashes anything: it is a label: what it is worth is what the hold of that sum in a sandbox is worth. -/
noncomputable def Try.pinned : Pinned := { name := "ytkgliadgedamiaa", sum := "5b06bd1a6102c0ec6035607180b5daea77a3235a62db651e1344a1197a32aa7a", checked := Try.checked }
namespace Rows
def none {H : Type} : Left H := { results := [], args := [] }

/-- 'laws.FnExactFormatWord': WHATEVER THE INPUT: true; the input reads as it did. -/
def fnExactFormatWordSpec : ChangeSpec := { name := "fnExactFormatWord", fn := fun _ => fun
  | [d] => { results := [.lit (.bool true)], args := [d] }
  | _ => none }
def fnExactFormatWordRow : OpenClaim := { program := "ytkgliadgedamiaa", sum := "5b06bd1a6102c0ec6035607180b5daea77a3235a62db651e1344a1197a32aa7a", func := "loop.example/g00977/laws.FnExactFormatWord", spec := "fnExactFormatWord", apart := false }
def FnExactFormatWordSaid : Prop := fnExactFormatWordRow.holds Try.pinned (OpenSpec.ofChange fnExactFormatWordSpec)

/-- ITS FALSE NEIGHBOUR: 'it returns false'. Refute it at one input. -/
def fnExactFormatWordWrong : ChangeSpec := { name := "fnExactFormatWord", fn := fun _ => fun
  | [d] => { results := [.lit (.bool false)], args := [d] }
  | _ => none }
def FnExactFormatWordWrongFalsely : Prop := fnExactFormatWordRow.holds Try.pinned (OpenSpec.ofChange fnExactFormatWordWrong)

/-- 'laws.FnExactParseWord': WHATEVER THE INPUT: true; the input reads as it did. -/
def fnExactParseWordSpec : ChangeSpec := { name := "fnExactParseWord", fn := fun _ => fun
  | [d] => { results := [.lit (.bool true)], args := [d] }
  | _ => none }
def fnExactParseWordRow : OpenClaim := { program := "ytkgliadgedamiaa", sum := "5b06bd1a6102c0ec6035607180b5daea77a3235a62db651e1344a1197a32aa7a", func := "loop.example/g00977/laws.FnExactParseWord", spec := "fnExactParseWord", inPlace := ["internal/bytealg.IndexByteString"], apart := false }
def FnExactParseWordSaid : Prop := fnExactParseWordRow.holds Try.pinned (OpenSpec.ofChange fnExactParseWordSpec)

/-- ITS FALSE NEIGHBOUR: 'it returns false'. Refute it at one input. -/
def fnExactParseWordWrong : ChangeSpec := { name := "fnExactParseWord", fn := fun _ => fun
  | [d] => { results := [.lit (.bool false)], args := [d] }
  | _ => none }
def FnExactParseWordWrongFalsely : Prop := fnExactParseWordRow.holds Try.pinned (OpenSpec.ofChange fnExactParseWordWrong)

/-- 'laws.FnPolicyWaits': WHATEVER THE INPUT: true; the input reads as it did. -/
def fnPolicyWaitsSpec : ChangeSpec := { name := "fnPolicyWaits", fn := fun _ => fun
  | [d] => { results := [.lit (.bool true)], args := [d] }
  | _ => none }
def fnPolicyWaitsRow : OpenClaim := { program := "ytkgliadgedamiaa", sum := "5b06bd1a6102c0ec6035607180b5daea77a3235a62db651e1344a1197a32aa7a", func := "loop.example/g00977/laws.FnPolicyWaits", spec := "fnPolicyWaits", apart := false }
def FnPolicyWaitsSaid : Prop := fnPolicyWaitsRow.holds Try.pinned (OpenSpec.ofChange fnPolicyWaitsSpec)

/-- ITS FALSE NEIGHBOUR: 'it returns false'. Refute it at one input. -/
def fnPolicyWaitsWrong : ChangeSpec := { name := "fnPolicyWaits", fn := fun _ => fun
  | [d] => { results := [.lit (.bool false)], args := [d] }
  | _ => none }
def FnPolicyWaitsWrongFalsely : Prop := fnPolicyWaitsRow.holds Try.pinned (OpenSpec.ofChange fnPolicyWaitsWrong)

/-- 'laws.FnExactLongestWait': WHATEVER THE INPUT: true; the input reads as it did. -/
def fnExactLongestWaitSpec : ChangeSpec := { name := "fnExactLongestWait", fn := fun _ => fun
  | [d1, d2] => { results := [.lit (.bool true)], args := [d1, d2] }
  | _ => none }
def fnExactLongestWaitRow : OpenClaim := { program := "ytkgliadgedamiaa", sum := "5b06bd1a6102c0ec6035607180b5daea77a3235a62db651e1344a1197a32aa7a", func := "loop.example/g00977/laws.FnExactLongestWait", spec := "fnExactLongestWait", apart := false }
def FnExactLongestWaitSaid : Prop := fnExactLongestWaitRow.holds Try.pinned (OpenSpec.ofChange fnExactLongestWaitSpec)

/-- ITS FALSE NEIGHBOUR: 'it returns false'. Refute it at one input. -/
def fnExactLongestWaitWrong : ChangeSpec := { name := "fnExactLongestWait", fn := fun _ => fun
  | [d1, d2] => { results := [.lit (.bool false)], args := [d1, d2] }
  | _ => none }
def FnExactLongestWaitWrongFalsely : Prop := fnExactLongestWaitRow.holds Try.pinned (OpenSpec.ofChange fnExactLongestWaitWrong)

/-- 'laws.FnCorrects': WHATEVER THE INPUT: true; the input reads as it did. -/
def fnCorrectsSpec : ChangeSpec := { name := "fnCorrects", fn := fun _ => fun
  | [d] => { results := [.lit (.bool true)], args := [d] }
  | _ => none }
def fnCorrectsRow : OpenClaim := { program := "ytkgliadgedamiaa", sum := "5b06bd1a6102c0ec6035607180b5daea77a3235a62db651e1344a1197a32aa7a", func := "loop.example/g00977/laws.FnCorrects", spec := "fnCorrects", apart := false }
def FnCorrectsSaid : Prop := fnCorrectsRow.holds Try.pinned (OpenSpec.ofChange fnCorrectsSpec)

/-- ITS FALSE NEIGHBOUR: 'it returns false'. Refute it at one input. -/
def fnCorrectsWrong : ChangeSpec := { name := "fnCorrects", fn := fun _ => fun
  | [d] => { results := [.lit (.bool false)], args := [d] }
  | _ => none }
def FnCorrectsWrongFalsely : Prop := fnCorrectsRow.holds Try.pinned (OpenSpec.ofChange fnCorrectsWrong)

/-- 'laws.FnOpened': WHATEVER THE INPUT: true; the input reads as it did. -/
def fnOpenedSpec : ChangeSpec := { name := "fnOpened", fn := fun _ => fun
  | [d] => { results := [.lit (.bool true)], args := [d] }
  | _ => none }
def fnOpenedRow : OpenClaim := { program := "ytkgliadgedamiaa", sum := "5b06bd1a6102c0ec6035607180b5daea77a3235a62db651e1344a1197a32aa7a", func := "loop.example/g00977/laws.FnOpened", spec := "fnOpened", apart := false }
def FnOpenedSaid : Prop := fnOpenedRow.holds Try.pinned (OpenSpec.ofChange fnOpenedSpec)

/-- ITS FALSE NEIGHBOUR: 'it returns false'. Refute it at one input. -/
def fnOpenedWrong : ChangeSpec := { name := "fnOpened", fn := fun _ => fun
  | [d] => { results := [.lit (.bool false)], args := [d] }
  | _ => none }
def FnOpenedWrongFalsely : Prop := fnOpenedRow.holds Try.pinned (OpenSpec.ofChange fnOpenedWrong)

/-- 'laws.FnBadPolicy': WHATEVER THE INPUT: true; the input reads as it did. -/
def fnBadPolicySpec : ChangeSpec := { name := "fnBadPolicy", fn := fun _ => fun
  | [d] => { results := [.lit (.bool true)], args := [d] }
  | _ => none }
def fnBadPolicyRow : OpenClaim := { program := "ytkgliadgedamiaa", sum := "5b06bd1a6102c0ec6035607180b5daea77a3235a62db651e1344a1197a32aa7a", func := "loop.example/g00977/laws.FnBadPolicy", spec := "fnBadPolicy", apart := false }
def FnBadPolicySaid : Prop := fnBadPolicyRow.holds Try.pinned (OpenSpec.ofChange fnBadPolicySpec)

/-- ITS FALSE NEIGHBOUR: 'it returns false'. Refute it at one input. -/
def fnBadPolicyWrong : ChangeSpec := { name := "fnBadPolicy", fn := fun _ => fun
  | [d] => { results := [.lit (.bool false)], args := [d] }
  | _ => none }
def FnBadPolicyWrongFalsely : Prop := fnBadPolicyRow.holds Try.pinned (OpenSpec.ofChange fnBadPolicyWrong)

/-- 'laws.FnReference': WHATEVER THE INPUT: true; the input reads as it did. -/
def fnReferenceSpec : ChangeSpec := { name := "fnReference", fn := fun _ => fun
  | [d] => { results := [.lit (.bool true)], args := [d] }
  | _ => none }
def fnReferenceRow : OpenClaim := { program := "ytkgliadgedamiaa", sum := "5b06bd1a6102c0ec6035607180b5daea77a3235a62db651e1344a1197a32aa7a", func := "loop.example/g00977/laws.FnReference", spec := "fnReference", apart := false }
def FnReferenceSaid : Prop := fnReferenceRow.holds Try.pinned (OpenSpec.ofChange fnReferenceSpec)

/-- ITS FALSE NEIGHBOUR: 'it returns false'. Refute it at one input. -/
def fnReferenceWrong : ChangeSpec := { name := "fnReference", fn := fun _ => fun
  | [d] => { results := [.lit (.bool false)], args := [d] }
  | _ => none }
def FnReferenceWrongFalsely : Prop := fnReferenceRow.holds Try.pinned (OpenSpec.ofChange fnReferenceWrong)

/-- 'laws.FnExactAnswersOk': WHATEVER THE INPUT: true; the input reads as it did. -/
def fnExactAnswersOkSpec : ChangeSpec := { name := "fnExactAnswersOk", fn := fun _ => fun
  | [d1, d2, d3] => { results := [.lit (.bool true)], args := [d1, d2, d3] }
  | _ => none }
def fnExactAnswersOkRow : OpenClaim := { program := "ytkgliadgedamiaa", sum := "5b06bd1a6102c0ec6035607180b5daea77a3235a62db651e1344a1197a32aa7a", func := "loop.example/g00977/laws.FnExactAnswersOk", spec := "fnExactAnswersOk", apart := false }
def FnExactAnswersOkSaid : Prop := fnExactAnswersOkRow.holds Try.pinned (OpenSpec.ofChange fnExactAnswersOkSpec)

/-- ITS FALSE NEIGHBOUR: 'it returns false'. Refute it at one input. -/
def fnExactAnswersOkWrong : ChangeSpec := { name := "fnExactAnswersOk", fn := fun _ => fun
  | [d1, d2, d3] => { results := [.lit (.bool false)], args := [d1, d2, d3] }
  | _ => none }
def FnExactAnswersOkWrongFalsely : Prop := fnExactAnswersOkRow.holds Try.pinned (OpenSpec.ofChange fnExactAnswersOkWrong)

/-- 'laws.FnDetects': WHATEVER THE INPUT: true; the input reads as it did. -/
def fnDetectsSpec : ChangeSpec := { name := "fnDetects", fn := fun _ => fun
  | [d] => { results := [.lit (.bool true)], args := [d] }
  | _ => none }
def fnDetectsRow : OpenClaim := { program := "ytkgliadgedamiaa", sum := "5b06bd1a6102c0ec6035607180b5daea77a3235a62db651e1344a1197a32aa7a", func := "loop.example/g00977/laws.FnDetects", spec := "fnDetects", apart := false }
def FnDetectsSaid : Prop := fnDetectsRow.holds Try.pinned (OpenSpec.ofChange fnDetectsSpec)

/-- ITS FALSE NEIGHBOUR: 'it returns false'. Refute it at one input. -/
def fnDetectsWrong : ChangeSpec := { name := "fnDetects", fn := fun _ => fun
  | [d] => { results := [.lit (.bool false)], args := [d] }
  | _ => none }
def FnDetectsWrongFalsely : Prop := fnDetectsRow.holds Try.pinned (OpenSpec.ofChange fnDetectsWrong)

/-- 'laws.FnExactExpected': WHATEVER THE INPUT: true; the input reads as it did. -/
def fnExactExpectedSpec : ChangeSpec := { name := "fnExactExpected", fn := fun _ => fun
  | [d1, d2, d3] => { results := [.lit (.bool true)], args := [d1, d2, d3] }
  | _ => none }
def fnExactExpectedRow : OpenClaim := { program := "ytkgliadgedamiaa", sum := "5b06bd1a6102c0ec6035607180b5daea77a3235a62db651e1344a1197a32aa7a", func := "loop.example/g00977/laws.FnExactExpected", spec := "fnExactExpected", apart := false }
def FnExactExpectedSaid : Prop := fnExactExpectedRow.holds Try.pinned (OpenSpec.ofChange fnExactExpectedSpec)

/-- ITS FALSE NEIGHBOUR: 'it returns false'. Refute it at one input. -/
def fnExactExpectedWrong : ChangeSpec := { name := "fnExactExpected", fn := fun _ => fun
  | [d1, d2, d3] => { results := [.lit (.bool false)], args := [d1, d2, d3] }
  | _ => none }
def FnExactExpectedWrongFalsely : Prop := fnExactExpectedRow.holds Try.pinned (OpenSpec.ofChange fnExactExpectedWrong)

/- THE SECOND FORM. 'bulk': how many values and letters a reading holds, each counted each time it is reached (what is shared counts as often as it is met; a slice's spare places count too). A statement '..UptoSaid' is the law's where the arguments, and the package variables that the reading takes, are together of bulk at most 1048576: NARROWER than '..Said'. Prove '..Said' where nothing that the law and all that it calls make is longer than what came in: it says more and counts as full. Else prove '..UptoSaid'. A law counts once. -/
mutual
def uptoBulk {H : Type} : DataW H → Nat
  | .lit (.string bytes) => bytes.length + 1
  | .lit _ => 1
  | .nil => 1
  | .ptr d => uptoBulk d + 1
  | .slice elems spare => uptoBulkAll elems + uptoBulkAll spare + 1
  | .agg parts => uptoBulkAll parts + 1
  | .iface _ d => uptoBulk d + 1
  | .map entries => uptoBulkEntries entries + 1
  | .held _ => 1
def uptoBulkAll {H : Type} : List (DataW H) → Nat
  | [] => 0
  | d :: r => uptoBulk d + uptoBulkAll r
def uptoBulkEntries {H : Type} : List (Lit × DataW H) → Nat
  | [] => 0
  | x :: r => uptoBulkEntry x + uptoBulkEntries r
def uptoBulkEntry {H : Type} : Lit × DataW H → Nat
  | (.string bytes, d) => bytes.length + uptoBulk d + 1
  | (_, d) => uptoBulk d + 1
 end
def uptoSmall : (H : Type) → List (DataW H) → Bool := fun _ ds => decide (uptoBulkAll ds ≤ 1048576)
def OpenSpec.upto (s : _root_.Go.ChangeSpec) : _root_.Go.OpenSpec := { _root_.Go.OpenSpec.ofChange s with cond := some uptoSmall }

/-- 'laws.FnExactFormatWord', WHERE WHAT IT READS IS OF BULK AT MOST 1048576: true; the input reads as it did. -/
def fnExactFormatWordUptoRow : OpenClaim := { program := "ytkgliadgedamiaa", sum := "5b06bd1a6102c0ec6035607180b5daea77a3235a62db651e1344a1197a32aa7a", func := "loop.example/g00977/laws.FnExactFormatWord", spec := "fnExactFormatWord", apart := false, narrowed := true }
def FnExactFormatWordUptoSaid : Prop := fnExactFormatWordUptoRow.holds Try.pinned (OpenSpec.upto fnExactFormatWordSpec)

/-- 'laws.FnExactParseWord', WHERE WHAT IT READS IS OF BULK AT MOST 1048576: true; the input reads as it did. -/
def fnExactParseWordUptoRow : OpenClaim := { program := "ytkgliadgedamiaa", sum := "5b06bd1a6102c0ec6035607180b5daea77a3235a62db651e1344a1197a32aa7a", func := "loop.example/g00977/laws.FnExactParseWord", spec := "fnExactParseWord", inPlace := ["internal/bytealg.IndexByteString"], apart := false, narrowed := true }
def FnExactParseWordUptoSaid : Prop := fnExactParseWordUptoRow.holds Try.pinned (OpenSpec.upto fnExactParseWordSpec)

/-- 'laws.FnPolicyWaits', WHERE WHAT IT READS IS OF BULK AT MOST 1048576: true; the input reads as it did. -/
def fnPolicyWaitsUptoRow : OpenClaim := { program := "ytkgliadgedamiaa", sum := "5b06bd1a6102c0ec6035607180b5daea77a3235a62db651e1344a1197a32aa7a", func := "loop.example/g00977/laws.FnPolicyWaits", spec := "fnPolicyWaits", apart := false, narrowed := true }
def FnPolicyWaitsUptoSaid : Prop := fnPolicyWaitsUptoRow.holds Try.pinned (OpenSpec.upto fnPolicyWaitsSpec)

/-- 'laws.FnExactLongestWait', WHERE WHAT IT READS IS OF BULK AT MOST 1048576: true; the input reads as it did. -/
def fnExactLongestWaitUptoRow : OpenClaim := { program := "ytkgliadgedamiaa", sum := "5b06bd1a6102c0ec6035607180b5daea77a3235a62db651e1344a1197a32aa7a", func := "loop.example/g00977/laws.FnExactLongestWait", spec := "fnExactLongestWait", apart := false, narrowed := true }
def FnExactLongestWaitUptoSaid : Prop := fnExactLongestWaitUptoRow.holds Try.pinned (OpenSpec.upto fnExactLongestWaitSpec)

/-- 'laws.FnCorrects', WHERE WHAT IT READS IS OF BULK AT MOST 1048576: true; the input reads as it did. -/
def fnCorrectsUptoRow : OpenClaim := { program := "ytkgliadgedamiaa", sum := "5b06bd1a6102c0ec6035607180b5daea77a3235a62db651e1344a1197a32aa7a", func := "loop.example/g00977/laws.FnCorrects", spec := "fnCorrects", apart := false, narrowed := true }
def FnCorrectsUptoSaid : Prop := fnCorrectsUptoRow.holds Try.pinned (OpenSpec.upto fnCorrectsSpec)

/-- 'laws.FnOpened', WHERE WHAT IT READS IS OF BULK AT MOST 1048576: true; the input reads as it did. -/
def fnOpenedUptoRow : OpenClaim := { program := "ytkgliadgedamiaa", sum := "5b06bd1a6102c0ec6035607180b5daea77a3235a62db651e1344a1197a32aa7a", func := "loop.example/g00977/laws.FnOpened", spec := "fnOpened", apart := false, narrowed := true }
def FnOpenedUptoSaid : Prop := fnOpenedUptoRow.holds Try.pinned (OpenSpec.upto fnOpenedSpec)

/-- 'laws.FnBadPolicy', WHERE WHAT IT READS IS OF BULK AT MOST 1048576: true; the input reads as it did. -/
def fnBadPolicyUptoRow : OpenClaim := { program := "ytkgliadgedamiaa", sum := "5b06bd1a6102c0ec6035607180b5daea77a3235a62db651e1344a1197a32aa7a", func := "loop.example/g00977/laws.FnBadPolicy", spec := "fnBadPolicy", apart := false, narrowed := true }
def FnBadPolicyUptoSaid : Prop := fnBadPolicyUptoRow.holds Try.pinned (OpenSpec.upto fnBadPolicySpec)

/-- 'laws.FnReference', WHERE WHAT IT READS IS OF BULK AT MOST 1048576: true; the input reads as it did. -/
def fnReferenceUptoRow : OpenClaim := { program := "ytkgliadgedamiaa", sum := "5b06bd1a6102c0ec6035607180b5daea77a3235a62db651e1344a1197a32aa7a", func := "loop.example/g00977/laws.FnReference", spec := "fnReference", apart := false, narrowed := true }
def FnReferenceUptoSaid : Prop := fnReferenceUptoRow.holds Try.pinned (OpenSpec.upto fnReferenceSpec)

/-- 'laws.FnExactAnswersOk', WHERE WHAT IT READS IS OF BULK AT MOST 1048576: true; the input reads as it did. -/
def fnExactAnswersOkUptoRow : OpenClaim := { program := "ytkgliadgedamiaa", sum := "5b06bd1a6102c0ec6035607180b5daea77a3235a62db651e1344a1197a32aa7a", func := "loop.example/g00977/laws.FnExactAnswersOk", spec := "fnExactAnswersOk", apart := false, narrowed := true }
def FnExactAnswersOkUptoSaid : Prop := fnExactAnswersOkUptoRow.holds Try.pinned (OpenSpec.upto fnExactAnswersOkSpec)

/-- 'laws.FnDetects', WHERE WHAT IT READS IS OF BULK AT MOST 1048576: true; the input reads as it did. -/
def fnDetectsUptoRow : OpenClaim := { program := "ytkgliadgedamiaa", sum := "5b06bd1a6102c0ec6035607180b5daea77a3235a62db651e1344a1197a32aa7a", func := "loop.example/g00977/laws.FnDetects", spec := "fnDetects", apart := false, narrowed := true }
def FnDetectsUptoSaid : Prop := fnDetectsUptoRow.holds Try.pinned (OpenSpec.upto fnDetectsSpec)

/-- 'laws.FnExactExpected', WHERE WHAT IT READS IS OF BULK AT MOST 1048576: true; the input reads as it did. -/
def fnExactExpectedUptoRow : OpenClaim := { program := "ytkgliadgedamiaa", sum := "5b06bd1a6102c0ec6035607180b5daea77a3235a62db651e1344a1197a32aa7a", func := "loop.example/g00977/laws.FnExactExpected", spec := "fnExactExpected", apart := false, narrowed := true }
def FnExactExpectedUptoSaid : Prop := fnExactExpectedUptoRow.holds Try.pinned (OpenSpec.upto fnExactExpectedSpec)

end Rows
end Go.Proofs.Ytkgliadgedamiaa
