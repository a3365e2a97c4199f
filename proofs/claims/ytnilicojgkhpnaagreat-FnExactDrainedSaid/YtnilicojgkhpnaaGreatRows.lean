/-
  No cell of these rows narrows 'for every input' (looked for: loops, veiled, ifaces, maps, wideKeys, modest, calm, conditions, laid).
  DERIVED. THE GIVEN ROWS OF THIS SEAT. 5 by the template 'for every input the law returns true; each argument reads behind the call as it read before'; 0 by the template 'total and deterministic' (their statements: YtnilicojgkhpnaaGreatTotals.lean).
  GIVEN WITH THE SEED: the statements are not yours to turn. If you find one false, say at which input.
  Laid BY PROGRAM, IN A SANDBOX (cutbox-rows.mjs): the forced cells as the released guide's own fill.sh prints them over the translation 97bf96f4e0acf700… (all of the seat's roots in one cut). By AI agents, Wed Nov 11 2026. No macro, syntax, notation, axiom, sorry.
-/
import Derived.Test.YtnilicojgkhpnaaGreatChecked
import GoSem.Claim
import GoSem.ClaimJoined
import GoSem.ClaimMapViews
import Derived.JoinedTies
import Derived.KernelRfl
namespace Go.Proofs.YtnilicojgkhpnaaGreat
/- THE CELL 'sum', in the pinned program and in every row, IS THE sha256 OF THE DUMP (.gsa) THAT YtnilicojgkhpnaaGreatProg.lean LOADS. Nothing in Lean hashes anything: it is a label: what it is worth is what the hold of that sum in a sandbox is worth. -/
noncomputable def Tryz.pinned : Pinned := { name := "ytnilicojgkhpnaagreat", sum := "97bf96f4e0acf700a529c588ac6a8a585ab08f8b2efc8ca5c8ffe7ffc1571aab", checked := Tryz.checked }
namespace Rows
def none {H : Type} : Left H := { results := [], args := [] }

/-- 'laws.FnExactStep': WHATEVER THE INPUT: true; the input reads as it did. -/
def fnExactStepSpec : ChangeSpec := { name := "fnExactStep", fn := fun _ => fun
  | [d] => { results := [.lit (.bool true)], args := [d] }
  | _ => none }
def fnExactStepRow : OpenClaim := { program := "ytnilicojgkhpnaagreat", sum := "97bf96f4e0acf700a529c588ac6a8a585ab08f8b2efc8ca5c8ffe7ffc1571aab", func := "loop.example/g00977/laws.FnExactStep", spec := "fnExactStep", unfollowed := true, recurses := true, apart := false }
def FnExactStepSaid : Prop := fnExactStepRow.holds Tryz.pinned (OpenSpec.ofChange fnExactStepSpec)

/-- ITS FALSE NEIGHBOUR: 'it returns false'. Refute it at one input. -/
def fnExactStepWrong : ChangeSpec := { name := "fnExactStep", fn := fun _ => fun
  | [d] => { results := [.lit (.bool false)], args := [d] }
  | _ => none }
def FnExactStepWrongFalsely : Prop := fnExactStepRow.holds Tryz.pinned (OpenSpec.ofChange fnExactStepWrong)

/-- 'laws.FnExactStepMany': WHATEVER THE INPUT: true; the input reads as it did. -/
def fnExactStepManySpec : ChangeSpec := { name := "fnExactStepMany", fn := fun _ => fun
  | [d1, d2] => { results := [.lit (.bool true)], args := [d1, d2] }
  | _ => none }
def fnExactStepManyRow : OpenClaim := { program := "ytnilicojgkhpnaagreat", sum := "97bf96f4e0acf700a529c588ac6a8a585ab08f8b2efc8ca5c8ffe7ffc1571aab", func := "loop.example/g00977/laws.FnExactStepMany", spec := "fnExactStepMany", unfollowed := true, recurses := true, apart := false }
def FnExactStepManySaid : Prop := fnExactStepManyRow.holds Tryz.pinned (OpenSpec.ofChange fnExactStepManySpec)

/-- ITS FALSE NEIGHBOUR: 'it returns false'. Refute it at one input. -/
def fnExactStepManyWrong : ChangeSpec := { name := "fnExactStepMany", fn := fun _ => fun
  | [d1, d2] => { results := [.lit (.bool false)], args := [d1, d2] }
  | _ => none }
def FnExactStepManyWrongFalsely : Prop := fnExactStepManyRow.holds Tryz.pinned (OpenSpec.ofChange fnExactStepManyWrong)

/-- 'laws.FnExactDrained': WHATEVER THE INPUT: true; the input reads as it did. -/
def fnExactDrainedSpec : ChangeSpec := { name := "fnExactDrained", fn := fun _ => fun
  | [d] => { results := [.lit (.bool true)], args := [d] }
  | _ => none }
def fnExactDrainedRow : OpenClaim := { program := "ytnilicojgkhpnaagreat", sum := "97bf96f4e0acf700a529c588ac6a8a585ab08f8b2efc8ca5c8ffe7ffc1571aab", func := "loop.example/g00977/laws.FnExactDrained", spec := "fnExactDrained", unfollowed := true, recurses := true, apart := false }
def FnExactDrainedSaid : Prop := fnExactDrainedRow.holds Tryz.pinned (OpenSpec.ofChange fnExactDrainedSpec)

/-- ITS FALSE NEIGHBOUR: 'it returns false'. Refute it at one input. -/
def fnExactDrainedWrong : ChangeSpec := { name := "fnExactDrained", fn := fun _ => fun
  | [d] => { results := [.lit (.bool false)], args := [d] }
  | _ => none }
def FnExactDrainedWrongFalsely : Prop := fnExactDrainedRow.holds Tryz.pinned (OpenSpec.ofChange fnExactDrainedWrong)

/-- 'laws.FnExactRunActs': WHATEVER THE INPUT: true; the input reads as it did. -/
def fnExactRunActsSpec : ChangeSpec := { name := "fnExactRunActs", fn := fun _ => fun
  | [d1, d2, d3] => { results := [.lit (.bool true)], args := [d1, d2, d3] }
  | _ => none }
def fnExactRunActsRow : OpenClaim := { program := "ytnilicojgkhpnaagreat", sum := "97bf96f4e0acf700a529c588ac6a8a585ab08f8b2efc8ca5c8ffe7ffc1571aab", func := "loop.example/g00977/laws.FnExactRunActs", spec := "fnExactRunActs", unfollowed := true, recurses := true, apart := false }
def FnExactRunActsSaid : Prop := fnExactRunActsRow.holds Tryz.pinned (OpenSpec.ofChange fnExactRunActsSpec)

/-- ITS FALSE NEIGHBOUR: 'it returns false'. Refute it at one input. -/
def fnExactRunActsWrong : ChangeSpec := { name := "fnExactRunActs", fn := fun _ => fun
  | [d1, d2, d3] => { results := [.lit (.bool false)], args := [d1, d2, d3] }
  | _ => none }
def FnExactRunActsWrongFalsely : Prop := fnExactRunActsRow.holds Tryz.pinned (OpenSpec.ofChange fnExactRunActsWrong)

/-- 'laws.FnExactDoAct': WHATEVER THE INPUT: true; the input reads as it did. -/
def fnExactDoActSpec : ChangeSpec := { name := "fnExactDoAct", fn := fun _ => fun
  | [d1, d2] => { results := [.lit (.bool true)], args := [d1, d2] }
  | _ => none }
def fnExactDoActRow : OpenClaim := { program := "ytnilicojgkhpnaagreat", sum := "97bf96f4e0acf700a529c588ac6a8a585ab08f8b2efc8ca5c8ffe7ffc1571aab", func := "loop.example/g00977/laws.FnExactDoAct", spec := "fnExactDoAct", unfollowed := true, recurses := true, apart := false }
def FnExactDoActSaid : Prop := fnExactDoActRow.holds Tryz.pinned (OpenSpec.ofChange fnExactDoActSpec)

/-- ITS FALSE NEIGHBOUR: 'it returns false'. Refute it at one input. -/
def fnExactDoActWrong : ChangeSpec := { name := "fnExactDoAct", fn := fun _ => fun
  | [d1, d2] => { results := [.lit (.bool false)], args := [d1, d2] }
  | _ => none }
def FnExactDoActWrongFalsely : Prop := fnExactDoActRow.holds Tryz.pinned (OpenSpec.ofChange fnExactDoActWrong)

/- THE SECOND FORM. 'bulk': how many values and letters a reading holds, each counted each time it is reached (what is shared counts as often as it is met; a slice's spare places count too). A statement '..UptoSaid' is the law's where the arguments, and the package variables that the reading takes, are together of bulk at most 1048576: NARROWER than '..Said'. Prove '..Said' where nothing that the law and all that it calls make is longer than what came in: it says more and counts as full. Else prove '..UptoSaid'. A law counts once. -/
mutual
def uptoBulk {H : Type} : DataW H → Nat
  | .lit (.string bytes) => bytes.length + 1
  | .lit _ => 1
  | .nil => 1
  | .ptr d => uptoBulk d + 1
  | .slice elems spare => uptoBulkAll elems + uptoBulkAll spare + 1
  | .agg parts => uptoBulkAll parts + 1
  | .iface _ d => uptoBulk d + 1
  | .map entries => uptoBulkEntries entries + 1
  | .held _ => 1
def uptoBulkAll {H : Type} : List (DataW H) → Nat
  | [] => 0
  | d :: r => uptoBulk d + uptoBulkAll r
def uptoBulkEntries {H : Type} : List (Lit × DataW H) → Nat
  | [] => 0
  | x :: r => uptoBulkEntry x + uptoBulkEntries r
def uptoBulkEntry {H : Type} : Lit × DataW H → Nat
  | (.string bytes, d) => bytes.length + uptoBulk d + 1
  | (_, d) => uptoBulk d + 1
 end
def uptoSmall : (H : Type) → List (DataW H) → Bool := fun _ ds => decide (uptoBulkAll ds ≤ 1048576)
def OpenSpec.upto (s : _root_.Go.ChangeSpec) : _root_.Go.OpenSpec := { _root_.Go.OpenSpec.ofChange s with cond := some uptoSmall }

/-- 'laws.FnExactStep', WHERE WHAT IT READS IS OF BULK AT MOST 1048576: true; the input reads as it did. -/
def fnExactStepUptoRow : OpenClaim := { program := "ytnilicojgkhpnaagreat", sum := "97bf96f4e0acf700a529c588ac6a8a585ab08f8b2efc8ca5c8ffe7ffc1571aab", func := "loop.example/g00977/laws.FnExactStep", spec := "fnExactStep", unfollowed := true, recurses := true, apart := false, narrowed := true }
def FnExactStepUptoSaid : Prop := fnExactStepUptoRow.holds Tryz.pinned (OpenSpec.upto fnExactStepSpec)

/-- 'laws.FnExactStepMany', WHERE WHAT IT READS IS OF BULK AT MOST 1048576: true; the input reads as it did. -/
def fnExactStepManyUptoRow : OpenClaim := { program := "ytnilicojgkhpnaagreat", sum := "97bf96f4e0acf700a529c588ac6a8a585ab08f8b2efc8ca5c8ffe7ffc1571aab", func := "loop.example/g00977/laws.FnExactStepMany", spec := "fnExactStepMany", unfollowed := true, recurses := true, apart := false, narrowed := true }
def FnExactStepManyUptoSaid : Prop := fnExactStepManyUptoRow.holds Tryz.pinned (OpenSpec.upto fnExactStepManySpec)

/-- 'laws.FnExactDrained', WHERE WHAT IT READS IS OF BULK AT MOST 1048576: true; the input reads as it did. -/
def fnExactDrainedUptoRow : OpenClaim := { program := "ytnilicojgkhpnaagreat", sum := "97bf96f4e0acf700a529c588ac6a8a585ab08f8b2efc8ca5c8ffe7ffc1571aab", func := "loop.example/g00977/laws.FnExactDrained", spec := "fnExactDrained", unfollowed := true, recurses := true, apart := false, narrowed := true }
def FnExactDrainedUptoSaid : Prop := fnExactDrainedUptoRow.holds Tryz.pinned (OpenSpec.upto fnExactDrainedSpec)

/-- 'laws.FnExactRunActs', WHERE WHAT IT READS IS OF BULK AT MOST 1048576: true; the input reads as it did. -/
def fnExactRunActsUptoRow : OpenClaim := { program := "ytnilicojgkhpnaagreat", sum := "97bf96f4e0acf700a529c588ac6a8a585ab08f8b2efc8ca5c8ffe7ffc1571aab", func := "loop.example/g00977/laws.FnExactRunActs", spec := "fnExactRunActs", unfollowed := true, recurses := true, apart := false, narrowed := true }
def FnExactRunActsUptoSaid : Prop := fnExactRunActsUptoRow.holds Tryz.pinned (OpenSpec.upto fnExactRunActsSpec)

/-- 'laws.FnExactDoAct', WHERE WHAT IT READS IS OF BULK AT MOST 1048576: true; the input reads as it did. -/
def fnExactDoActUptoRow : OpenClaim := { program := "ytnilicojgkhpnaagreat", sum := "97bf96f4e0acf700a529c588ac6a8a585ab08f8b2efc8ca5c8ffe7ffc1571aab", func := "loop.example/g00977/laws.FnExactDoAct", spec := "fnExactDoAct", unfollowed := true, recurses := true, apart := false, narrowed := true }
def FnExactDoActUptoSaid : Prop := fnExactDoActUptoRow.holds Tryz.pinned (OpenSpec.upto fnExactDoActSpec)

end Rows
end Go.Proofs.YtnilicojgkhpnaaGreat
