/-
  FnSteps holds of every input ('Rows.FnStepsSaid'). No condition.
-/
import Derived.Test.YtglnbhiaknohlaaGreatRows
import Derived.Test.YtglnbhiaknohlaaGreatClose
import Derived.Test.YtglnbhiaknohlaaGreatPZSteps
namespace Go.Proofs.YtglnbhiaknohlaaGreat.fnSteps
open Go.ChangeShapes Go.WideShapes Go.ChangeAt Go.RowKit
set_option linter.unusedVariables false

theorem own : ownKnob Tryz.prog.godebug = none := by kernel_rfl
theorem lO : laidOutB Tryz.prog = true := by kernel_rfl

set_option maxRecDepth 100000 in
theorem L (os : Os) (s : os.Started) (H : Type) (enc : TypeId × Value → H) :
    ReturnsInHanded {} Tryz.checked os 4 .any (Rows.fnStepsSpec.pre6 enc Tryz.prog Tryz.f4 Rows.fnStepsRow.domain false) (Rows.fnStepsSpec.post enc Tryz.prog Tryz.f4 false true false false) := by
  refine returnsInHanded_of_change (C := Tryz.checked) own s (by kernel_rfl) Tryz.func4
    (ChangeSpec.witness6 (enc := enc) (C := Tryz.checked) false ⟨#[], #[.slice none 0 0], []⟩ 8 (by kernel_rfl) (by kernel_rfl) (by kernel_rfl) (by kernel_rfl)) ?_
  intro W B a ds gs b k hW _ _
  have I : ∀ (j : Nat) t v, Tryz.f4.params[j]? = some t → a[j]? = some v → Value.okWide Tryz.prog W .any B t v := k
  have Y := hW
  obtain ⟨p, q, u, hV, rfl, DR, _⟩ := hW
  have hA : DataW.TrodAll enc Tryz.prog W 0 (fun _ => true) true Tryz.f4.params.toList a.toList ds p := u
  rw [Tryz.params4] at hA I
  obtain ⟨v0, vs0, d0, ds0, p0, q0, mV, rfl, rfl, h0, r0⟩ := trodAll_cons hA
  obtain ⟨rfl, rfl, rfl⟩ := trodAll_nil r0
  obtain rfl : a = #[v0] := by cases a; simp_all
  obtain ⟨rfl, rfl⟩ := trodVars_none hV
  have l : ∀ x ∈ p0, x.block < W.heap.size := by obtain ⟨m, hm⟩ := h0; exact DataW.trod_lt m _ _ _ hm
  have w0 := apR (I 0 22 v0 rfl rfl) h0
  clear u k
  refine (aBT v0 W w0).mono fun e W' ⟨he, Mz⟩ => ?_
  subst he
  exact ⟨_, rfl, _, _, _, [], _, [], Y, trodAll_mk1 (shut_bool Tryz.underlying4 _), (trodAll_cons_mk (Below.trod lO (by kernel_rfl) (of_decide_eq_true (by kernel_rfl)) h0 Mz l) trodAll_mk0), rfl, Mz.frame _, fun h => by cases h⟩

theorem aBU : Rows.fnStepsRow.holds Tryz.pinned (OpenSpec.ofChange Rows.fnStepsSpec) :=
  OpenClaim.holds_of_wide 4 Tryz.f4 rfl rfl rfl rfl rfl rfl rfl ⟨rfl, rfl, rfl, rfl, rfl⟩ rfl rfl rfl rfl rfl (by kernel_rfl) Tryz.func4 closed
    (of_decide_eq_true (by kernel_rfl)) (by unfold Func.isWrapper; rw [if_neg (by decide +kernel)]; exact ⟨rfl, rfl⟩)
    (fun os s H enc _ => L os s H enc)

theorem proved : Rows.FnStepsSaid := aBU
#print axioms proved
end Go.Proofs.YtglnbhiaknohlaaGreat.fnSteps
