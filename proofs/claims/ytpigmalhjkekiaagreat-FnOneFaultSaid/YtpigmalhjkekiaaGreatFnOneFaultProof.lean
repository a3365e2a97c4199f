/-
  The law FnOneFault of the program holds of every input: 'YtpigmalhjkekiaaGreatPZOneFault.law_FnOneFault' is the walk through its text; here it is carried to the given row, 'Rows.FnOneFaultSaid'. No condition.
-/
import Derived.Test.YtpigmalhjkekiaaGreatRows
import Derived.Test.YtpigmalhjkekiaaGreatClose
import Derived.Test.YtpigmalhjkekiaaGreatPZOneFault
import Derived.WalkKit
import Derived.ProofKit
import Derived.OpenShut
import Derived.ShutString
import Derived.ChangeOld
import Derived.Below
namespace Go.Proofs.YtpigmalhjkekiaaGreat.fnOneFault
open Go.ChangeShapes Go.WideShapes Go.ChangeAt Go.RowKit
set_option linter.unusedVariables false

theorem own : ownKnob Tryz.prog.godebug = none := by kernel_rfl
theorem laidOut : laidOutB Tryz.prog = true := by kernel_rfl

set_option maxRecDepth 100000 in
theorem lifted (os : Os) (started : os.Started) (H : Type) (enc : TypeId × Value → H) :
    ReturnsInHanded {} Tryz.checked os 4 .any (Rows.fnOneFaultSpec.pre6 enc Tryz.prog Tryz.f4 Rows.fnOneFaultRow.domain false) (Rows.fnOneFaultSpec.post enc Tryz.prog Tryz.f4 false true false false) := by
  refine returnsInHanded_of_change (C := Tryz.checked) own started (by kernel_rfl) Tryz.func4
    (ChangeSpec.witness6 (enc := enc) (C := Tryz.checked) false ⟨#[], #[.slice none 0 0], []⟩ 8 (by kernel_rfl) (by kernel_rfl) (by kernel_rfl) (by kernel_rfl)) ?_
  intro W base args ds gs before ajd hW ay0 _
  have lP : ∀ (j : Nat) t v, Tryz.f4.params[j]? = some t → args[j]? = some v → Value.okWide Tryz.prog W .any base t v := ajd
  have hW' := hW
  obtain ⟨p, q, hA0, hV, rfl, D7, YY⟩ := hW
  have hA : DataW.TrodAll enc Tryz.prog W 0 (fun _ => true) true Tryz.f4.params.toList args.toList ds p := hA0
  rw [Tryz.params4] at hA lP
  obtain ⟨v0, vs0, d0, ds0, p0, q0, mw, rfl, rfl, h0, r0⟩ := trodAll_cons hA
  obtain ⟨rfl, rfl, rfl⟩ := trodAll_nil r0
  obtain rfl : args = #[v0] := by cases args; simp_all
  obtain ⟨rfl, rfl⟩ := trodVars_none hV
  have lt0 : ∀ x ∈ p0, x.block < W.heap.size := by obtain ⟨m, hm⟩ := h0; exact DataW.trod_lt m _ _ _ hm
  have w0 := anz (lP 0 22 v0 rfl rfl) h0
  clear hA0 ajd
  refine (ayB v0 W w0).mono fun e W' ⟨he, LQ⟩ => ?_
  subst he
  exact ⟨_, rfl, _, _, _, [], _, [], hW', trodAll_mk1 (shut_bool Tryz.underlying4 _), (trodAll_cons_mk (Below.trod laidOut (by kernel_rfl) (of_decide_eq_true (by kernel_rfl)) h0 LQ lt0) trodAll_mk0), rfl, LQ.frame _, fun h => by cases h⟩

theorem ayC : Rows.fnOneFaultRow.holds Tryz.pinned (OpenSpec.ofChange Rows.fnOneFaultSpec) :=
  OpenClaim.holds_of_wide 4 Tryz.f4 rfl rfl rfl rfl rfl rfl rfl ⟨rfl, rfl, rfl, rfl, rfl⟩ rfl rfl rfl rfl rfl (by kernel_rfl) Tryz.func4 closed
    (of_decide_eq_true (by kernel_rfl)) (by unfold Func.isWrapper; first | (rw [if_pos (by decide +kernel)]; kernel_rfl) | (rw [if_neg (by decide +kernel)]; exact ⟨rfl, rfl⟩))
    (fun os started H enc _ => lifted os started H enc)

theorem proved : Rows.FnOneFaultSaid := ayC
#print axioms proved
end Go.Proofs.YtpigmalhjkekiaaGreat.fnOneFault
