/-
  Operations by contents: a variable with a value. Nothing here is a claim.
-/
import Derived.Test.YtkgliadgedamiaaAvOB
namespace Go.Proofs.Ytkgliadgedamiaa
open Go.RowKit
set_option linter.unusedVariables false

def boxK {X : Type} (N : Nat) (σ : S) (d : Nat) (x : A) (k : S → Option X) : Option X :=
  match x.lfs with
  | some xs => bif xs.all Lf.live then newK N σ d (.blk (xs.map (Lf.drop d))) (.bptr d 0) k else none
  | none => none
def nilK {X : Type} (x : A) (k : A → Option X) : Option X :=
  match x with
  | .bptr r j => k (.bptr r j)
  | .ptr q => k (.ptr q)
  | _ => none
section
variable {P : Program} {w w' w0 : World} {B N : Nat} {lab lab' : Lab} {ρ ρ' : Nat → Loc} {σ : S} {a : Act} {X : Type} {d : Nat} {r : X} {o : Oper}

theorem boxK_ok {e : TypeId} {x : A} {k : S → Option X} (h : boxK N σ d x k = some r) : ∃ σ', k σ' = some r ∧ ∀ lab ρ a w, Rl w0 N lab ρ σ a w → ∀ u, RA w w0.heap.size lab ρ x u →
    ∃ w' lab' ρ' v, (Instr.box e u).run P w = .ok v w' ∧ Rl w0 N lab' ρ' σ' (a.put (some d) v) w' := by
  unfold boxK at h
  split at h
  · rename_i xs hxs
    cases hlive : xs.all Lf.live with
    | false => rw [hlive] at h; cases h
    | true =>
      rw [hlive, cond_true] at h
      obtain ⟨hd, h⟩ := newK_ok h
      refine ⟨_, h, fun lab ρ a w hR u hu => ?_⟩
      obtain ⟨hl, _⟩ := lfs_ok hxs hlive hu
      have hrun : (Instr.box e u).run P w = .ok (.pointer (some ⟨w.heap.size, 0, none⟩)) (w.alloc (.cells u.cells e)) := by
        simp [Instr.box, newVar, newRow]
      refine ⟨_, upd lab w.heap.size (some [d]), upd ρ d (.blk w.heap.size 0), _, hrun, (hR.newBlk (fun r hr => upd_ne _ _ _ hr) ?_).set ⟨w.heap.size, 0, upd_same _ _ _, rfl⟩ hd⟩
      have h1 : RLs (w.alloc (.cells u.cells e)) w0.heap.size (upd lab w.heap.size (some [d])) ρ xs u.cells :=
        hl.keep (by simp) (fun b hb => ⟨Below.heap_alloc w _ b hb, upd_ne _ _ _ (by omega)⟩) (fun b k hb => (hR.lab_ge b k hb).2.1)
      have h2 := h1.rho (ρ' := upd ρ d (.blk w.heap.size 0)) (d := d) (fun r hr => upd_ne _ _ _ hr)
      refine .blk w.heap.size 0 u.cells e _ (fun j => u.cells.getD j undef) (upd_same _ _ _) (upd_same _ _ _) (heap_alloc_new w _) (by rw [h2.1]; omega) fun j y hy => ?_
      obtain ⟨v, hv, hr⟩ := h2.2 j y hy
      have hg : u.cells.getD j undef = v := by rw [Array.getD_eq_getD_getElem?, hv]; rfl
      rw [hg, Nat.zero_add]
      exact ⟨hv, hr⟩
  · cases h
theorem boxK_det {x : A} {k : S → Option X} (h : boxK N σ d x k = some r) : ∃ y u, k (((σ.drop d).root d y).set d u) = some r ∧ (∀ (σ' : S), Det (fun X k => boxK (X := X) N σ' d x k) (((σ'.drop d).root d y).set d u)) := by
  unfold boxK at h
  split at h
  · rename_i xs hxs
    cases hlive : xs.all Lf.live with
    | false => rw [hlive] at h; cases h
    | true =>
      rw [hlive, cond_true] at h
      obtain ⟨h1, _⟩ := newK_det h
      refine ⟨_, _, h1, fun σ' X k => ?_⟩
      obtain ⟨hN, _⟩ := newK_ok h
      have hb : Nat.blt d N = true := Nat.ble_eq_true_of_le hN
      simp only [boxK, hxs, hlive, newK, hb, cond_true]
  · cases h
theorem nilK_ok {x : A} {k : A → Option X} (h : nilK x k = some r) : k x = some r ∧ Det (fun X k => nilK (X := X) x k) x ∧ ∀ u, RA w B lab ρ x u → ∃ ad, u = .pointer (some ad) := by
  unfold nilK at h
  split at h
  · exact ⟨h, fun X k => rfl, fun u hu => by obtain ⟨b, off, _, rfl⟩ := hu; exact ⟨_, rfl⟩⟩
  · exact ⟨h, fun X k => rfl, fun u hu => by obtain ⟨ad, rfl, _⟩ := hu; exact ⟨_, rfl⟩⟩
  · cases h
end
end Go.Proofs.Ytkgliadgedamiaa
