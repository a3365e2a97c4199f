/-
  No cell of these rows narrows 'for every input' (looked for: loops, veiled, ifaces, maps, wideKeys, modest, calm, conditions, laid).
  DERIVED. THE GIVEN ROWS OF THIS SEAT. 2 by the template 'for every input the law returns true; each argument reads behind the call as it read before'; 0 by the template 'total and deterministic' (their statements: YtmlaeegoddldeaaGreatTotals.lean).
  GIVEN WITH THE SEED: the statements are not yours to turn. If you find one false, say at which input.
  Laid BY PROGRAM, IN A SANDBOX (cutbox-rows.mjs): the forced cells as the released guide's own fill.sh prints them over the translation 6c7d4bbc1682f553… (all of the seat's roots in one cut). By AI agents, Wed Nov 11 2026. No macro, syntax, notation, axiom, sorry.
-/
import Derived.Test.YtmlaeegoddldeaaGreatChecked
import GoSem.Claim
import GoSem.ClaimJoined
import GoSem.ClaimMapViews
import Derived.JoinedTies
import Derived.KernelRfl
namespace Go.Proofs.YtmlaeegoddldeaaGreat
/- THE CELL 'sum', in the pinned program and in every row, IS THE sha256 OF THE DUMP (.gsa) THAT YtmlaeegoddldeaaGreatProg.lean LOADS. Nothing in Lean hashes anything: it is a label: what it is worth is what the hold of that sum in a sandbox is worth. -/
noncomputable def Tryz.pinned : Pinned := { name := "ytmlaeegoddldeaagreat", sum := "6c7d4bbc1682f553eda8c21294a55191cad8dd7dcab372a57e122ad17d140169", checked := Tryz.checked }
namespace Rows
def none {H : Type} : Left H := { results := [], args := [] }

/-- 'laws.FnExactDebtsSafe': WHATEVER THE INPUT: true; the input reads as it did. -/
def fnExactDebtsSafeSpec : ChangeSpec := { name := "fnExactDebtsSafe", fn := fun _ => fun
  | [d] => { results := [.lit (.bool true)], args := [d] }
  | _ => none }
def fnExactDebtsSafeRow : OpenClaim := { program := "ytmlaeegoddldeaagreat", sum := "6c7d4bbc1682f553eda8c21294a55191cad8dd7dcab372a57e122ad17d140169", func := "loop.example/g00977/laws.FnExactDebtsSafe", spec := "fnExactDebtsSafe", apart := false }
def FnExactDebtsSafeSaid : Prop := fnExactDebtsSafeRow.holds Tryz.pinned (OpenSpec.ofChange fnExactDebtsSafeSpec)

/-- ITS FALSE NEIGHBOUR: 'it returns false'. Refute it at one input. -/
def fnExactDebtsSafeWrong : ChangeSpec := { name := "fnExactDebtsSafe", fn := fun _ => fun
  | [d] => { results := [.lit (.bool false)], args := [d] }
  | _ => none }
def FnExactDebtsSafeWrongFalsely : Prop := fnExactDebtsSafeRow.holds Tryz.pinned (OpenSpec.ofChange fnExactDebtsSafeWrong)

/-- 'laws.FnExactRowsSafe': WHATEVER THE INPUT: true; the input reads as it did. -/
def fnExactRowsSafeSpec : ChangeSpec := { name := "fnExactRowsSafe", fn := fun _ => fun
  | [d] => { results := [.lit (.bool true)], args := [d] }
  | _ => none }
def fnExactRowsSafeRow : OpenClaim := { program := "ytmlaeegoddldeaagreat", sum := "6c7d4bbc1682f553eda8c21294a55191cad8dd7dcab372a57e122ad17d140169", func := "loop.example/g00977/laws.FnExactRowsSafe", spec := "fnExactRowsSafe", apart := false }
def FnExactRowsSafeSaid : Prop := fnExactRowsSafeRow.holds Tryz.pinned (OpenSpec.ofChange fnExactRowsSafeSpec)

/-- ITS FALSE NEIGHBOUR: 'it returns false'. Refute it at one input. -/
def fnExactRowsSafeWrong : ChangeSpec := { name := "fnExactRowsSafe", fn := fun _ => fun
  | [d] => { results := [.lit (.bool false)], args := [d] }
  | _ => none }
def FnExactRowsSafeWrongFalsely : Prop := fnExactRowsSafeRow.holds Tryz.pinned (OpenSpec.ofChange fnExactRowsSafeWrong)

/- THE SECOND FORM. 'bulk': how many values and letters a reading holds, each counted each time it is reached (what is shared counts as often as it is met; a slice's spare places count too). A statement '..UptoSaid' is the law's where the arguments, and the package variables that the reading takes, are together of bulk at most 1048576: NARROWER than '..Said'. Prove '..Said' where nothing that the law and all that it calls make is longer than what came in: it says more and counts as full. Else prove '..UptoSaid'. A law counts once. -/
mutual
def uptoBulk {H : Type} : DataW H → Nat
  | .lit (.string bytes) => bytes.length + 1
  | .lit _ => 1
  | .nil => 1
  | .ptr d => uptoBulk d + 1
  | .slice elems spare => uptoBulkAll elems + uptoBulkAll spare + 1
  | .agg parts => uptoBulkAll parts + 1
  | .iface _ d => uptoBulk d + 1
  | .map entries => uptoBulkEntries entries + 1
  | .held _ => 1
def uptoBulkAll {H : Type} : List (DataW H) → Nat
  | [] => 0
  | d :: r => uptoBulk d + uptoBulkAll r
def uptoBulkEntries {H : Type} : List (Lit × DataW H) → Nat
  | [] => 0
  | x :: r => uptoBulkEntry x + uptoBulkEntries r
def uptoBulkEntry {H : Type} : Lit × DataW H → Nat
  | (.string bytes, d) => bytes.length + uptoBulk d + 1
  | (_, d) => uptoBulk d + 1
 end
def uptoSmall : (H : Type) → List (DataW H) → Bool := fun _ ds => decide (uptoBulkAll ds ≤ 1048576)
def OpenSpec.upto (s : _root_.Go.ChangeSpec) : _root_.Go.OpenSpec := { _root_.Go.OpenSpec.ofChange s with cond := some uptoSmall }

/-- 'laws.FnExactDebtsSafe', WHERE WHAT IT READS IS OF BULK AT MOST 1048576: true; the input reads as it did. -/
def fnExactDebtsSafeUptoRow : OpenClaim := { program := "ytmlaeegoddldeaagreat", sum := "6c7d4bbc1682f553eda8c21294a55191cad8dd7dcab372a57e122ad17d140169", func := "loop.example/g00977/laws.FnExactDebtsSafe", spec := "fnExactDebtsSafe", apart := false, narrowed := true }
def FnExactDebtsSafeUptoSaid : Prop := fnExactDebtsSafeUptoRow.holds Tryz.pinned (OpenSpec.upto fnExactDebtsSafeSpec)

/-- 'laws.FnExactRowsSafe', WHERE WHAT IT READS IS OF BULK AT MOST 1048576: true; the input reads as it did. -/
def fnExactRowsSafeUptoRow : OpenClaim := { program := "ytmlaeegoddldeaagreat", sum := "6c7d4bbc1682f553eda8c21294a55191cad8dd7dcab372a57e122ad17d140169", func := "loop.example/g00977/laws.FnExactRowsSafe", spec := "fnExactRowsSafe", apart := false, narrowed := true }
def FnExactRowsSafeUptoSaid : Prop := fnExactRowsSafeUptoRow.holds Tryz.pinned (OpenSpec.upto fnExactRowsSafeSpec)

end Rows
end Go.Proofs.YtmlaeegoddldeaaGreat
