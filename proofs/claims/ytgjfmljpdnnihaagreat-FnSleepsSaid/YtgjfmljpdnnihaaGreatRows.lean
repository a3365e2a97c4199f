/-
  No cell of these rows narrows 'for every input' (looked for: loops, veiled, ifaces, maps, wideKeys, modest, calm, conditions, laid).
  DERIVED. THE GIVEN ROWS OF THIS SEAT. 3 by the template 'for every input the law returns true; each argument reads behind the call as it read before'; 0 by the template 'total and deterministic' (their statements: YtgjfmljpdnnihaaGreatTotals.lean).
  GIVEN WITH THE SEED: the statements are not yours to turn. If you find one false, say at which input.
  Laid BY PROGRAM, IN A SANDBOX (cutbox-rows.mjs): the forced cells as the released guide's own fill.sh prints them over the translation 435ab11ba4b46b88… (all of the seat's roots in one cut). By AI agents, Wed Nov 11 2026. No macro, syntax, notation, axiom, sorry.
-/
import Derived.Test.YtgjfmljpdnnihaaGreatChecked
import GoSem.Claim
import GoSem.ClaimJoined
import GoSem.ClaimMapViews
import Derived.JoinedTies
import Derived.KernelRfl
namespace Go.Proofs.YtgjfmljpdnnihaaGreat
/- THE CELL 'sum', in the pinned program and in every row, IS THE sha256 OF THE DUMP (.gsa) THAT YtgjfmljpdnnihaaGreatProg.lean LOADS. Nothing in Lean hashes anything: it is a label: what it is worth is what the hold of that sum in a sandbox is worth. -/
noncomputable def Tryz.pinned : Pinned := { name := "ytgjfmljpdnnihaagreat", sum := "435ab11ba4b46b8826abe74b28cff87145b17d73870b95fc5bc4281216f7a527", checked := Tryz.checked }
namespace Rows
def none {H : Type} : Left H := { results := [], args := [] }

/-- 'laws.FnSleeps': WHATEVER THE INPUT: true; the input reads as it did. -/
def fnSleepsSpec : ChangeSpec := { name := "fnSleeps", fn := fun _ => fun
  | [d] => { results := [.lit (.bool true)], args := [d] }
  | _ => none }
def fnSleepsRow : OpenClaim := { program := "ytgjfmljpdnnihaagreat", sum := "435ab11ba4b46b8826abe74b28cff87145b17d73870b95fc5bc4281216f7a527", func := "loop.example/g00977/laws.FnSleeps", spec := "fnSleeps", unfollowed := true, recurses := true, apart := false }
def FnSleepsSaid : Prop := fnSleepsRow.holds Tryz.pinned (OpenSpec.ofChange fnSleepsSpec)

/-- ITS FALSE NEIGHBOUR: 'it returns false'. Refute it at one input. -/
def fnSleepsWrong : ChangeSpec := { name := "fnSleeps", fn := fun _ => fun
  | [d] => { results := [.lit (.bool false)], args := [d] }
  | _ => none }
def FnSleepsWrongFalsely : Prop := fnSleepsRow.holds Tryz.pinned (OpenSpec.ofChange fnSleepsWrong)

/-- 'laws.FnSafeRuns': WHATEVER THE INPUT: true; the input reads as it did. -/
def fnSafeRunsSpec : ChangeSpec := { name := "fnSafeRuns", fn := fun _ => fun
  | [d] => { results := [.lit (.bool true)], args := [d] }
  | _ => none }
def fnSafeRunsRow : OpenClaim := { program := "ytgjfmljpdnnihaagreat", sum := "435ab11ba4b46b8826abe74b28cff87145b17d73870b95fc5bc4281216f7a527", func := "loop.example/g00977/laws.FnSafeRuns", spec := "fnSafeRuns", unfollowed := true, recurses := true, apart := false }
def FnSafeRunsSaid : Prop := fnSafeRunsRow.holds Tryz.pinned (OpenSpec.ofChange fnSafeRunsSpec)

/-- ITS FALSE NEIGHBOUR: 'it returns false'. Refute it at one input. -/
def fnSafeRunsWrong : ChangeSpec := { name := "fnSafeRuns", fn := fun _ => fun
  | [d] => { results := [.lit (.bool false)], args := [d] }
  | _ => none }
def FnSafeRunsWrongFalsely : Prop := fnSafeRunsRow.holds Tryz.pinned (OpenSpec.ofChange fnSafeRunsWrong)

/-- 'laws.FnPicked': WHATEVER THE INPUT: true; the input reads as it did. -/
def fnPickedSpec : ChangeSpec := { name := "fnPicked", fn := fun _ => fun
  | [d] => { results := [.lit (.bool true)], args := [d] }
  | _ => none }
def fnPickedRow : OpenClaim := { program := "ytgjfmljpdnnihaagreat", sum := "435ab11ba4b46b8826abe74b28cff87145b17d73870b95fc5bc4281216f7a527", func := "loop.example/g00977/laws.FnPicked", spec := "fnPicked", unfollowed := true, recurses := true, apart := false }
def FnPickedSaid : Prop := fnPickedRow.holds Tryz.pinned (OpenSpec.ofChange fnPickedSpec)

/-- ITS FALSE NEIGHBOUR: 'it returns false'. Refute it at one input. -/
def fnPickedWrong : ChangeSpec := { name := "fnPicked", fn := fun _ => fun
  | [d] => { results := [.lit (.bool false)], args := [d] }
  | _ => none }
def FnPickedWrongFalsely : Prop := fnPickedRow.holds Tryz.pinned (OpenSpec.ofChange fnPickedWrong)

/- THE SECOND FORM. 'bulk': how many values and letters a reading holds, each counted each time it is reached (what is shared counts as often as it is met; a slice's spare places count too). A statement '..UptoSaid' is the law's where the arguments, and the package variables that the reading takes, are together of bulk at most 1048576: NARROWER than '..Said'. Prove '..Said' where nothing that the law and all that it calls make is longer than what came in: it says more and counts as full. Else prove '..UptoSaid'. A law counts once. -/
mutual
def uptoBulk {H : Type} : DataW H → Nat
  | .lit (.string bytes) => bytes.length + 1
  | .lit _ => 1
  | .nil => 1
  | .ptr d => uptoBulk d + 1
  | .slice elems spare => uptoBulkAll elems + uptoBulkAll spare + 1
  | .agg parts => uptoBulkAll parts + 1
  | .iface _ d => uptoBulk d + 1
  | .map entries => uptoBulkEntries entries + 1
  | .held _ => 1
def uptoBulkAll {H : Type} : List (DataW H) → Nat
  | [] => 0
  | d :: r => uptoBulk d + uptoBulkAll r
def uptoBulkEntries {H : Type} : List (Lit × DataW H) → Nat
  | [] => 0
  | x :: r => uptoBulkEntry x + uptoBulkEntries r
def uptoBulkEntry {H : Type} : Lit × DataW H → Nat
  | (.string bytes, d) => bytes.length + uptoBulk d + 1
  | (_, d) => uptoBulk d + 1
 end
def uptoSmall : (H : Type) → List (DataW H) → Bool := fun _ ds => decide (uptoBulkAll ds ≤ 1048576)
def OpenSpec.upto (s : _root_.Go.ChangeSpec) : _root_.Go.OpenSpec := { _root_.Go.OpenSpec.ofChange s with cond := some uptoSmall }

/-- 'laws.FnSleeps', WHERE WHAT IT READS IS OF BULK AT MOST 1048576: true; the input reads as it did. -/
def fnSleepsUptoRow : OpenClaim := { program := "ytgjfmljpdnnihaagreat", sum := "435ab11ba4b46b8826abe74b28cff87145b17d73870b95fc5bc4281216f7a527", func := "loop.example/g00977/laws.FnSleeps", spec := "fnSleeps", unfollowed := true, recurses := true, apart := false, narrowed := true }
def FnSleepsUptoSaid : Prop := fnSleepsUptoRow.holds Tryz.pinned (OpenSpec.upto fnSleepsSpec)

/-- 'laws.FnSafeRuns', WHERE WHAT IT READS IS OF BULK AT MOST 1048576: true; the input reads as it did. -/
def fnSafeRunsUptoRow : OpenClaim := { program := "ytgjfmljpdnnihaagreat", sum := "435ab11ba4b46b8826abe74b28cff87145b17d73870b95fc5bc4281216f7a527", func := "loop.example/g00977/laws.FnSafeRuns", spec := "fnSafeRuns", unfollowed := true, recurses := true, apart := false, narrowed := true }
def FnSafeRunsUptoSaid : Prop := fnSafeRunsUptoRow.holds Tryz.pinned (OpenSpec.upto fnSafeRunsSpec)

/-- 'laws.FnPicked', WHERE WHAT IT READS IS OF BULK AT MOST 1048576: true; the input reads as it did. -/
def fnPickedUptoRow : OpenClaim := { program := "ytgjfmljpdnnihaagreat", sum := "435ab11ba4b46b8826abe74b28cff87145b17d73870b95fc5bc4281216f7a527", func := "loop.example/g00977/laws.FnPicked", spec := "fnPicked", unfollowed := true, recurses := true, apart := false, narrowed := true }
def FnPickedUptoSaid : Prop := fnPickedUptoRow.holds Tryz.pinned (OpenSpec.upto fnPickedSpec)

end Rows
end Go.Proofs.YtgjfmljpdnnihaaGreat
