/-
  Closed facts about the row and the program, each by the kernel. Nothing here is a claim.
-/
import Derived.Test.YtdfkhfiglknaoaaGreatRows
import Derived.ProofKit
import Derived.KernelRfl
import Derived.JoinedCond
namespace Go.Proofs.YtdfkhfiglknaoaaGreat.fnRetiring
open Go.ChangeShapes Go.WideShapes Go.ChangeAt Go.RowKit
set_option maxHeartbeats 4000000 in
set_option maxRecDepth 100000 in
theorem closed : joinedFacts Tryz.pinned.checked.prog 3 Tryz.f3 Rows.fnRetiringSpec Rows.fnRetiringRow = true := by
  unfold joinedFacts
  repeat' (with_reducible refine Bool.and_eq_true_iff.2 ⟨?_, ?_⟩)
  all_goals (as_aux_lemma => kernel_rfl)
end Go.Proofs.YtdfkhfiglknaoaaGreat.fnRetiring
