/-
  Closed facts about the row and the program, each by the kernel. Nothing here is a claim.
-/
import Derived.Test.YtpigmalhjkekiaaGreatRows
import Derived.ProofKit
import Derived.KernelRfl
import Derived.JoinedCond
namespace Go.Proofs.YtpigmalhjkekiaaGreat.fnOneFault
open Go.ChangeShapes Go.WideShapes Go.ChangeAt Go.RowKit
set_option maxHeartbeats 4000000 in
set_option maxRecDepth 100000 in
theorem closed : joinedFacts Tryz.pinned.checked.prog 4 Tryz.f4 Rows.fnOneFaultSpec Rows.fnOneFaultRow = true := by
  unfold joinedFacts
  repeat' (with_reducible refine Bool.and_eq_true_iff.2 ⟨?_, ?_⟩)
  all_goals (as_aux_lemma => kernel_rfl)
end Go.Proofs.YtpigmalhjkekiaaGreat.fnOneFault
