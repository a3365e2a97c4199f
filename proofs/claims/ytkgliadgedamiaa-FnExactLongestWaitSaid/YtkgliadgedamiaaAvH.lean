/-
  Operations by contents, fifth part: new memory. Nothing here is a claim.
-/
import Derived.Test.YtkgliadgedamiaaAvG
namespace Go.Proofs.Ytkgliadgedamiaa
open Go.RowKit
set_option linter.unusedVariables false

section
variable {P : Program} {w w' w0 : World} {B N : Nat} {lab lab' : Lab} {ρ ρ' : Nat → Loc} {σ : S} {a : Act} {X : Type} {d : Nat}

theorem lastIs_of_suffix {k : List Nat} (h : [d] <:+ k) : lastIs d k = true := by
  obtain ⟨y, rfl⟩ := h
  simp [lastIs]
theorem suffix_of_lastIs {k : List Nat} (h : lastIs d k = true) : [d] <:+ k := by
  have h : k.getLast? = some d := by simpa [lastIs] using h
  obtain ⟨y, hy⟩ := List.getLast?_eq_some_iff.1 h
  exact ⟨y, hy.symm⟩
theorem lastIs_cons {j i s : Nat} {q : List Nat} (hq : q ≠ []) : lastIs d (j :: i :: s :: q) = lastIs d q := by
  cases q with
  | nil => exact absurd rfl hq
  | cons x q => simp [lastIs]
/-- Only blocks that root d owns by its own header may have turned, and new ones may be there. -/
structure Remade (w w' : World) (lab lab' : Lab) (d : Nat) : Prop where
  size : w.heap.size ≤ w'.heap.size
  block : ∀ b, b < w.heap.size → lab b ≠ some [d] → w'.heap[b]? = w.heap[b]?
  labs : ∀ b, b < w.heap.size → lab' b = lab b
  ne : ∀ b, lab b ≠ some []
theorem RV.remade {q : List Nat} {x : V} {v : Value} (h : RV w B lab q x v) (hw : Remade w w' lab lab' d) (hq : ¬ [d] <:+ q ∨ x.fro = true) : RV w' B lab' q x v := by
  induction h with
  | int => exact .int _ _ _
  | bool => exact .bool _ _
  | str => exact .str _ _
  | nil => exact .nil _
  | slNil => exact .slNil _ _ _
  | slEmp => exact .slEmp _ _ _ _ _ (by first | assumption | omega)
  | fro q t o qn l b off cap u ho hl hb h1 hcap hc hr ih =>
    have hne : lab b ≠ some [d] := by rw [hl]; simp
    exact .fro _ _ _ _ _ _ _ _ u ho ((hw.labs b hb).trans hl) (Nat.lt_of_lt_of_le hb hw.size) h1 hcap (fun i h j x hx => (World.cell?_of_block (a := ⟨b, _, none⟩) (hw.block b hb hne)).trans (hc i h j x hx)) (fun i h j x hx => ih i h j x hx (.inr (enc_fro t o l[i] ho j x hx)))
  | own q t o qn l b cap cs u hl hh hs hn hm hc hr ih =>
    have hb : b < w.heap.size := (Array.getElem?_eq_some_iff.1 hh).1
    have hq' : ¬ [d] <:+ q := by
      rcases hq with hq | hq
      · exact hq
      · simp [V.fro] at hq; omega
    have hne : lab b ≠ some [d] := by
      rw [hl]
      intro e
      injection e with e
      exact hq' (by rw [e]; exact List.suffix_refl _)
    refine .own _ _ _ _ _ _ _ cs u ((hw.labs b hb).trans hl) ((hw.block b hb hne).trans hh) hs hn hm hc (fun i h j x hx => ih i h j x hx (.inl fun hs' => hq' ?_))
    have hq0 : q ≠ [] := by rintro rfl; exact hw.ne b hl
    exact suffix_of_lastIs ((lastIs_cons hq0).symm.trans (lastIs_of_suffix hs'))
theorem lastIs_suffix {k : List Nat} (h : lastIs d k = false) : ¬ [d] <:+ k := by
  rintro ⟨y, rfl⟩
  simp [lastIs] at h
theorem lastIs_tail {j i s : Nat} {q : List Nat} (hq : q ≠ []) (h : lastIs d (j :: i :: s :: q) = false) : lastIs d q = false := by
  cases q with
  | nil => exact absurd rfl hq
  | cons x q => simpa [lastIs] using h
theorem addrAt_remade (hw : Remade w w' lab lab' d) (hg : ∀ b k, lab b = some k → b < w.heap.size) (hρ : ∀ r, r ≠ d → ρ' r = ρ r) : ∀ (k : List Nat) (ad : Addr), lastIs d k = false → addrAt w lab ρ k = some ad → addrAt w' lab' ρ' k = some ad
  | [], _, _, h => h
  | [_], _, _, h => h
  | [_, _], _, _, h => h
  | [_, _, _], _, _, h => by simp only [addrAt] at h ⊢; exact h
  | [j, i, s, r], _, hd, h => by
    have hr : r ≠ d := by rintro rfl; simp [lastIs] at hd
    simp only [addrAt, hρ r hr] at h ⊢
    split at h
    · rename_i v b n c hr
      split at h
      · rename_i hl
        rw [if_pos ((hw.labs _ (hg _ _ hl)).trans hl)]
        exact h
      · cases h
    · cases h
  | j :: i :: s :: x :: y :: q, ad, hd, h => by
    have hd' := lastIs_tail (by simp) hd
    simp only [addrAt] at h ⊢
    cases ha : addrAt w lab ρ (x :: y :: q) with
    | none => rw [ha] at h; cases h
    | some ad' =>
      rw [addrAt_remade hw hg hρ _ _ hd' ha]
      rw [ha] at h
      cases hc : w.cell? ad' with
      | none => simp [hc] at h
      | some v =>
        have hne : lab ad'.block ≠ some [d] := by
          obtain ⟨j', i', s', q', e, hl, _⟩ := addrAt_lab _ _ ha
          rw [hl]
          intro e'
          injection e' with e'
          subst e'
          rw [e] at hd'
          simp [lastIs] at hd'
        have e : w'.cell? ad' = some v := (World.cell?_of_block (hw.block _ (block_lt_of_cell hc) hne)).trans hc
        simp only [Option.bind_some, hc] at h
        simp only [Option.bind_some, e]
        split at h
        · split at h
          · rename_i hl
            rw [if_pos ((hw.labs _ (hg _ _ hl)).trans hl)]
            exact h
          · cases h
        · cases h
theorem valAt_remade (hw : Remade w w' lab lab' d) (hg : ∀ b k, lab b = some k → b < w.heap.size) (hρ : ∀ r, r ≠ d → ρ' r = ρ r) (k : List Nat) (u : Value) (hd : lastIs d k = false) (h : valAt w lab ρ k = some u) : valAt w' lab' ρ' k = some u := by
  match k, hd, h with
  | [], _, h => simp [valAt, addrAt] at h
  | [r], hd, h =>
    have hr : r ≠ d := by rintro rfl; simp [lastIs] at hd
    simp only [valAt, hρ r hr] at h ⊢
    exact h
  | x :: y :: q, hd, h =>
    simp only [valAt] at h ⊢
    cases ha : addrAt w lab ρ (x :: y :: q) with
    | none => rw [ha] at h; cases h
    | some ad =>
      rw [addrAt_remade hw hg hρ _ _ hd ha]
      rw [ha] at h
      have h : w.cell? ad = some u := h
      have hne : lab ad.block ≠ some [d] := by
        obtain ⟨j', i', s', q', e, hl, _⟩ := addrAt_lab _ _ ha
        rw [hl]
        intro e'
        injection e' with e'
        subst e'
        rw [e] at hd
        simp [lastIs] at hd
      exact (World.cell?_of_block (hw.block _ (block_lt_of_cell h) hne)).trans h
theorem RLf.remade {x : Lf} {u : Value} (h : RLf w B lab ρ x u) (hw : Remade w w' lab lab' d) (hg : ∀ b k, lab b = some k → b < w.heap.size) (hρ : ∀ r, r ≠ d → ρ' r = ρ r) : RLf w' B lab' ρ' (x.drop d) u := by
  cases x with
  | v x => exact ⟨h.1, h.2.remade hw (.inr h.1)⟩
  | dead => trivial
  | own k =>
    have e : Lf.drop d (.own k) = (bif lastIs d k then .dead else .own k) := rfl
    rw [e]
    cases hl : lastIs d k with
    | true => trivial
    | false => exact ⟨h.1, valAt_remade hw hg hρ k u hl h.2⟩
theorem RLs.remade {cs : List Lf} {us : Array Value} (h : RLs w B lab ρ cs us) (hw : Remade w w' lab lab' d) (hg : ∀ b k, lab b = some k → b < w.heap.size) (hρ : ∀ r, r ≠ d → ρ' r = ρ r) : RLs w' B lab' ρ' (cs.map (Lf.drop d)) us := by
  refine ⟨by rw [List.length_map]; exact h.1, fun j x hx => ?_⟩
  rw [List.getElem?_map] at hx
  cases hy : cs[j]? with
  | none => rw [hy] at hx; cases hx
  | some y =>
    rw [hy] at hx
    injection hx with hx
    subst hx
    obtain ⟨u, hu, r⟩ := h.2 j y hy
    exact ⟨u, hu, r.remade hw hg hρ⟩
theorem RP.remade {p : Bool × List Lf} {u : Value} (h : RP w B lab ρ p u) (hw : Remade w w' lab lab' d) (hg : ∀ b k, lab b = some k → b < w.heap.size) (hρ : ∀ r, r ≠ d → ρ' r = ρ r) : RP w' B lab' ρ' (p.1, p.2.map (Lf.drop d)) u := by
  obtain ⟨b, cs⟩ := p
  cases b with
  | true => obtain ⟨us, e, h⟩ := h; exact ⟨us, e, h.remade hw hg hρ⟩
  | false => exact RLs.remade h hw hg hρ
theorem RA.remade {x : A} {u : Value} (h : RA w B lab ρ x u) (hw : Remade w w' lab lab' d) (hg : ∀ b k, lab b = some k → b < w.heap.size) (hρ : ∀ r, r ≠ d → ρ' r = ρ r) : RA w' B lab' ρ' (x.drop d) u := by
  cases x with
  | undef => trivial
  | skip => exact h
  | lf x => exact RLf.remade h hw hg hρ
  | agg cs => exact RP.remade (p := (true, cs)) h hw hg hρ
  | tup xs =>
    obtain ⟨us, e, hs, h⟩ := h
    refine ⟨us, e, by rw [List.length_map]; exact hs, fun j p hp => ?_⟩
    rw [List.getElem?_map] at hp
    cases hy : xs[j]? with
    | none => rw [hy] at hp; cases hp
    | some y =>
      rw [hy] at hp
      injection hp with hp
      subst hp
      obtain ⟨v, hv, r⟩ := h j y hy
      exact ⟨v, hv, r.remade hw hg hρ⟩
  | ptr k =>
    have e : A.drop d (.ptr k) = (bif lastIs d k then .undef else .ptr k) := rfl
    rw [e]
    cases hl : lastIs d k with
    | true => trivial
    | false => obtain ⟨ad, e, h⟩ := h; exact ⟨ad, e, addrAt_remade hw hg hρ k _ hl h⟩
  | bptr r j =>
    have e : A.drop d (.bptr r j) = (bif Nat.beq r d then .undef else .bptr r j) := rfl
    rw [e]
    cases hl : Nat.beq r d with
    | true => trivial
    | false =>
      have hr : r ≠ d := by rintro rfl; simp at hl
      obtain ⟨b, off, e, h⟩ := h
      exact ⟨b, off, (hρ r hr).trans e, h⟩
  | fptr cs =>
    obtain ⟨b, off, e, hb, hl, h⟩ := h
    have hne : lab b ≠ some [d] := by rw [hl]; simp
    refine ⟨b, off, e, Nat.lt_of_lt_of_le hb hw.size, (hw.labs b hb).trans hl, fun j x hx => ?_⟩
    obtain ⟨hf, v, hv, hr⟩ := h j x hx
    exact ⟨hf, v, (World.cell?_of_block (a := ⟨b, _, none⟩) (hw.block b hb hne)).trans hv, hr.remade hw (.inr hf)⟩
  | fn f cap =>
    have e : A.drop d (.fn f cap) = (bif cap.any (fun p => Nat.beq p.1 d) then .undef else .fn f cap) := rfl
    rw [e]
    cases hl : cap.any (fun p => Nat.beq p.1 d) with
    | true => trivial
    | false =>
      obtain ⟨vs, e, hs, h⟩ := h
      refine ⟨vs, e, hs, fun j p hp => ?_⟩
      obtain ⟨b, off, e2, h2⟩ := h j p hp
      have hr : p.1 ≠ d := by
        rintro rfl
        have := List.any_eq_false.1 hl p (List.mem_of_getElem? hp)
        simp at this
      exact ⟨b, off, (hρ _ hr).trans e2, h2⟩
theorem RootOK.remade {r : Nat} (hr : r ≠ d) {x : Root} (h : RootOK w B lab ρ r x) (hw : Remade w w' lab lab' d) (hg : ∀ b k, lab b = some k → b < w.heap.size) (hρ : ∀ r, r ≠ d → ρ' r = ρ r) : RootOK w' B lab' ρ' r (x.drop d) := by
  have hs1 : ¬ [d] <:+ [r] := not_suffix_one (fun e => hr e.symm)
  cases h with
  | blk b off cells e cs us hρ1 hl hh hs hc =>
    have hb : b < w.heap.size := (Array.getElem?_eq_some_iff.1 hh).1
    have hne : lab b ≠ some [d] := by
      rw [hl]
      intro e
      injection e with e
      injection e with e
      exact hr e
    refine .blk b off cells e _ us ((hρ r hr).trans hρ1) ((hw.labs b hb).trans hl) ((hw.block b hb hne).trans hh) (by rw [List.length_map]; exact hs) (fun j x hx => ?_)
    rw [List.getElem?_map] at hx
    cases hy : cs[j]? with
    | none => rw [hy] at hx; cases hx
    | some y =>
      rw [hy] at hx
      injection hx with hx
      subst hx
      exact ⟨(hc j y hy).1, (hc j y hy).2.remade hw hg hρ⟩
  | sl v y hρ1 hr1 => exact .sl v y ((hρ r hr).trans hρ1) (hr1.remade hw (.inl hs1))
/-- A root is made anew. -/
theorem Rl.remake {x : Root} (h : Rl w0 N lab ρ σ a w) (hb : Below w0.heap.size w w') (hw : Remade w w' lab lab' d) (hg : ∀ b k, w.heap.size ≤ b → lab' b = some k → b < w'.heap.size ∧ k ≠ []) (hρ : ∀ r, r ≠ d → ρ' r = ρ r) (hx : RootOK w' w0.heap.size lab' ρ' d x) :
    Rl w0 N lab' ρ' ((σ.drop d).root d x) a w' := by
  have hg' : ∀ b k, lab b = some k → b < w.heap.size := fun b k hb => (h.lab_ge b k hb).2.1
  refine ⟨h.below.trans hb, fun b k hbk => ?_, fun r y hy => ?_, fun k => (h.tmp k).remade hw hg' hρ, h.size, h.defers⟩
  · rcases Nat.lt_or_ge b w.heap.size with hlt | hge
    · rw [hw.labs b hlt] at hbk
      have := h.lab_ge b k hbk
      exact ⟨this.1, Nat.lt_of_lt_of_le this.2.1 hw.size, this.2.2⟩
    · have := hg b k hge hbk
      exact ⟨Nat.le_trans h.below.size hge, this.1, this.2⟩
  · by_cases hr : r = d
    · subst hr
      have hy : (upd (σ.drop r).m r (some x)) r = some y := hy
      rw [upd_same] at hy
      injection hy with hy
      subst hy
      exact hx
    · have hy : (upd (σ.drop d).m d (some x)) r = some y := hy
      rw [upd_ne _ _ _ hr] at hy
      have hb : Nat.beq r d = false := by
        cases hb : Nat.beq r d with
        | false => rfl
        | true => exact absurd (Nat.eq_of_beq_eq_true hb) hr
      simp only [S.drop, hb, cond_false] at hy
      cases hm : σ.m r with
      | none => rw [hm] at hy; cases hy
      | some z =>
        rw [hm] at hy
        injection hy with hy
        subst hy
        exact (h.root r z hm).remade hr hw hg' hρ
end
end Go.Proofs.Ytkgliadgedamiaa
