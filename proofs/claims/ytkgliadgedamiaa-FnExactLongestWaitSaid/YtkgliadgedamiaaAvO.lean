/-
  What a function gives back, in its caller's eyes. Nothing here is a claim.
-/
import Derived.Test.YtkgliadgedamiaaAvN
namespace Go.Proofs.Ytkgliadgedamiaa
open Go.RowKit
set_option linter.unusedVariables false

def relab (lab : Lab) (rs : List (Nat × Nat)) (nm : Nat → Nat) : Lab := fun b =>
  match lab b with
  | none => none
  | some k => match k.getLast? with
    | none => none
    | some r => (rs.lookup r).map fun n => k.dropLast ++ [nm n]

section
variable {P : Program} {w w' w0 : World} {B N : Nat} {lab lab' : Lab} {ρ ρ' : Nat → Loc} {σ : S} {a : Act} {X : Type} {d : Nat} {r : X} {rs : List (Nat × Nat)} {nm : Nat → Nat}

theorem RV.froR {q : List Nat} {x : V} {v : Value} (h : RV w B lab q x v) (hf : x.fro = true) (hl : ∀ b, lab b = none → lab' b = none) : RV w B lab' q x v := by
  induction h with
  | int => exact .int _ _ _
  | bool => exact .bool _ _
  | str => exact .str _ _
  | nil => exact .nil _
  | slNil => exact .slNil _ _ _
  | slEmp => exact .slEmp _ _ _ _ _ (by first | assumption | omega)
  | fro q t o qn l b off cap u ho hlb hb h1 hcap hc hr ih =>
    exact .fro _ _ _ _ _ _ _ _ u ho (hl b hlb) hb h1 hcap hc (fun i h j x hx => ih i h j x hx (enc_fro t o l[i] ho j x hx))
  | own q t o qn l b cap cs u hlb hh hs hn hm hc hr ih => simp [V.fro] at hf; omega
theorem relab_none {b : Nat} (h : lab b = none) : relab lab rs nm b = none := by simp [relab, h]
theorem RV.relab {p : List Nat} {r n : Nat} {x : V} {v : Value} (h : RV w B lab (p ++ [r]) x v) (hr : rs.lookup r = some n) : RV w B (relab lab rs nm) (p ++ [nm n]) x v := by
  generalize hq : p ++ [r] = q at h
  induction h generalizing p with
  | int => exact .int _ _ _
  | bool => exact .bool _ _
  | str => exact .str _ _
  | nil => exact .nil _
  | slNil => exact .slNil _ _ _
  | slEmp => exact .slEmp _ _ _ _ _ (by first | assumption | omega)
  | fro q t o qn l b off cap u ho hlb hb h1 hcap hc hr' ih =>
    exact .fro _ _ _ _ _ _ _ _ u ho (relab_none hlb) hb h1 hcap hc (fun i h j x hx => (hr' i h j x hx).froR (enc_fro t o l[i] ho j x hx) (fun b => relab_none))
  | own q t o qn l b cap cs u hlb hh hs hn hm hc hr' ih =>
    subst hq
    refine .own _ _ _ _ _ _ _ cs u ?_ hh hs hn hm hc (fun i h j x hx => ih i h j x hx (p := j :: i :: csz t :: p) rfl)
    simp [Proofs.Ytkgliadgedamiaa.relab, hlb, hr]
theorem cellsV_ok {m : Nat → Option Root} : ∀ (xs : List Lf) (off : Nat) (ys : List V) (rs0 : List (Nat × Nat)), cellsV m off xs = some (ys, rs0) → ys.length = xs.length ∧ ∀ (j : Nat) x, xs[j]? = some x → ∃ y, ys[j]? = some y ∧ y.loc = true ∧ ((x = .v y ∧ y.fro = true) ∨ ∃ r, x = .own [r] ∧ m r = some (.sl y) ∧ (r, off + j) ∈ rs0)
  | [], off, ys, rs0, h => by
    simp only [cellsV, Option.some.injEq, Prod.mk.injEq] at h
    obtain ⟨rfl, rfl⟩ := h
    exact ⟨rfl, fun j x hx => by simp at hx⟩
  | x :: xs, off, ys, rs0, h => by
    have hc : ∀ y z, cellV m x = some (y, z) → y.loc = true ∧ ((z = none ∧ x = .v y ∧ y.fro = true) ∨ ∃ r, z = some r ∧ x = .own [r] ∧ m r = some (.sl y)) := by
      intro y z hz
      unfold cellV at hz
      split at hz
      · rename_i x'
        cases hl : (x'.loc && x'.fro) with
        | false => rw [hl] at hz; cases hz
        | true =>
          rw [hl, cond_true] at hz
          simp only [Option.some.injEq, Prod.mk.injEq] at hz
          obtain ⟨rfl, rfl⟩ := hz
          rw [Bool.and_eq_true] at hl
          exact ⟨hl.1, .inl ⟨rfl, rfl, hl.2⟩⟩
      · rename_i r
        split at hz
        · rename_i y' hy'
          cases hl : y'.loc with
          | false => rw [hl] at hz; cases hz
          | true =>
            rw [hl, cond_true] at hz
            simp only [Option.some.injEq, Prod.mk.injEq] at hz
            obtain ⟨rfl, rfl⟩ := hz
            exact ⟨hl, .inr ⟨r, rfl, rfl, hy'⟩⟩
        · cases hz
      · cases hz
    unfold cellsV at h
    split at h
    · rename_i y ys' rs' hy hys
      simp only [Option.some.injEq, Prod.mk.injEq] at h
      obtain ⟨rfl, rfl⟩ := h
      obtain ⟨h1, h2⟩ := cellsV_ok xs (off + 1) ys' rs' hys
      refine ⟨by simp [h1], fun j x' hx => ?_⟩
      cases j with
      | zero =>
        simp at hx
        subst hx
        obtain ⟨hl, hz | ⟨r, hz, _⟩⟩ := hc y none hy
        · exact ⟨y, rfl, hl, .inl hz.2⟩
        · cases hz
      | succ j =>
        obtain ⟨y', hy', hl, hz⟩ := h2 j x' (by simpa using hx)
        refine ⟨y', by simpa using hy', hl, hz.imp id fun ⟨r, e1, e2, e3⟩ => ⟨r, e1, e2, by rw [show off + (j + 1) = off + 1 + j by omega]; exact e3⟩⟩
    · rename_i y r ys' rs' hy hys
      simp only [Option.some.injEq, Prod.mk.injEq] at h
      obtain ⟨rfl, rfl⟩ := h
      obtain ⟨h1, h2⟩ := cellsV_ok xs (off + 1) ys' rs' hys
      refine ⟨by simp [h1], fun j x' hx => ?_⟩
      cases j with
      | zero =>
        simp at hx
        subst hx
        obtain ⟨hl, hz | ⟨r', hz, e1, e2⟩⟩ := hc y (some r) hy
        · cases hz.1
        · injection hz with hz
          subst hz
          exact ⟨y, rfl, hl, .inr ⟨r, e1, e2, .head _⟩⟩
      | succ j =>
        obtain ⟨y', hy', hl, hz⟩ := h2 j x' (by simpa using hx)
        refine ⟨y', by simpa using hy', hl, hz.imp id fun ⟨r, e1, e2, e3⟩ => ⟨r, e1, e2, by rw [show off + (j + 1) = off + 1 + j by omega]; exact .tail _ e3⟩⟩
    · cases h
theorem partsV_ok {m : Nat → Option Root} (hm : ∀ r x, m r = some x → RootOK w B lab ρ r x) : ∀ (ps : List (Bool × List Lf)) (off : Nat) (qs : List Pt) (rs0 : List (Nat × Nat)) (vs : List Value), partsV m off ps = some (qs, rs0) → (∀ p ∈ rs0, rs.lookup p.1 = some p.2) → vs.length = ps.length →
    (∀ (i : Nat) p v, ps[i]? = some p → vs[i]? = some v → RP w B lab ρ p v) → ResL w B (relab lab rs nm) nm off qs vs
  | [], off, qs, rs0, vs, h, _, hl, _ => by
    have : vs = [] := List.eq_nil_of_length_eq_zero hl
    subst this
    simp only [partsV, Option.some.injEq, Prod.mk.injEq] at h
    obtain ⟨rfl, rfl⟩ := h
    trivial
  | p :: ps, off, qs, rs0, vs, h, hrs, hl, hp => by
    cases vs with
    | nil => simp at hl
    | cons v vs =>
      unfold partsV at h
      split at h
      · rename_i ys rs1 qs' rs2 h1 h2
        simp only [Option.some.injEq, Prod.mk.injEq] at h
        obtain ⟨rfl, rfl⟩ := h
        obtain ⟨hlen, hcells⟩ := cellsV_ok _ _ _ _ h1
        have hrest := partsV_ok hm ps _ qs' rs2 vs h2 (fun q hq => hrs q (List.mem_append_right _ hq)) (by simpa using hl) (fun i q u hq hu => hp (i + 1) q u (by simpa using hq) (by simpa using hu))
        have hp0 := hp 0 p v rfl rfl
        have key : ∀ us : Array Value, RLs w B lab ρ p.2 us → (us.size = ys.length ∧ ∀ (j : Nat) x, ys[j]? = some x → ∃ u, us[j]? = some u ∧ RV w B (relab lab rs nm) [nm (off + j)] x u) := by
          intro us hus
          refine ⟨by rw [hlen]; exact hus.1, fun j y hy => ?_⟩
          have hj : j < p.2.length := by rw [← hlen]; exact (List.getElem?_eq_some_iff.1 hy).1
          obtain ⟨y', hy', hloc, hz⟩ := hcells j _ (List.getElem?_eq_getElem hj)
          rw [hy] at hy'
          injection hy' with hy'
          subst hy'
          obtain ⟨u, hu, hr⟩ := hus.2 j _ (List.getElem?_eq_getElem hj)
          refine ⟨u, hu, ?_⟩
          rcases hz with ⟨e, hf⟩ | ⟨r, e, hmr, hmem⟩
          · rw [e] at hr
            exact (hr.2.froR hf (fun b => relab_none)).key hf
          · rw [e] at hr
            have hro := hm r _ hmr
            generalize he : Root.sl y = z at hro
            cases hro with
            | blk => cases he
            | sl v' y' hρ hrv =>
              injection he with he
              subst he
              have huv : v' = u := by
                have h4 := hr.2
                simp only [valAt, hρ] at h4
                injection h4
              subst huv
              exact RV.relab (p := []) hrv (hrs (r, off + j) (List.mem_append_left _ hmem))
        refine ⟨⟨?_, ?_⟩, ?_⟩
        · rw [List.all_eq_true]
          intro y hy
          obtain ⟨j, hj⟩ := List.mem_iff_getElem?.1 hy
          have hjl : j < p.2.length := by rw [← hlen]; exact (List.getElem?_eq_some_iff.1 hj).1
          obtain ⟨y', hy', hloc, _⟩ := hcells j _ (List.getElem?_eq_getElem hjl)
          rw [hj] at hy'
          injection hy' with hy'
          subst hy'
          exact hloc
        · obtain ⟨b, xs⟩ := p
          cases b with
          | true =>
            obtain ⟨us, e, hus⟩ := hp0
            obtain ⟨k1, k2⟩ := key us hus
            exact ⟨us, e, k1, k2⟩
          | false =>
            obtain ⟨k1, k2⟩ := key #[v] hp0
            exact ⟨#[v], rfl, k1, k2⟩
        · rw [hlen]
          exact hrest
      · cases h
theorem loadK_ptr {t : TypeId} {x : A} {k : A → Option X} (h : loadK P σ t x k = some r) {u : Value} (hu : RA w B lab ρ x u) : ∃ ad, u = .pointer (some ad) := by
  unfold loadK at h
  split at h
  · cases h
  · split at h
    · obtain ⟨b, off, _, rfl⟩ := hu; exact ⟨_, rfl⟩
    · obtain ⟨b, off, rfl, _⟩ := hu; exact ⟨_, rfl⟩
    · obtain ⟨ad, rfl, _⟩ := hu; exact ⟨_, rfl⟩
    · cases h
theorem partOfA_ok {x : A} {p : Bool × List Lf} (h : partOfA x = some p) {u : Value} (hu : RA w B lab ρ x u) : RP w B lab ρ p u := by
  unfold partOfA at h
  split at h
  · injection h with h
    subst h
    refine ⟨rfl, fun j y hy => ?_⟩
    cases j with
    | zero => simp at hy; subst hy; exact ⟨u, rfl, hu⟩
    | succ j => simp at hy
  · injection h with h
    subst h
    exact hu
  · cases h
def resOf (tmps : Array Value) : ResultVar → Sem Value
  | .tmp t => pure (tmps.getD t undef)
  | .cell a t => do loadVar t (← asAddr (tmps.getD a undef))
theorem resVarK_ok : ∀ (l : List ResultVar) (k : List (Bool × List Lf) → Option X), resVarK P σ l k = some r → ∃ ps, k ps = some r ∧ ∀ lab ρ a w, Rl w0 N lab ρ σ a w → ∃ vs, (l.mapM (resOf a.tmps)).run P w = .ok vs w ∧ vs.length = ps.length ∧ ∀ (i : Nat) p v, ps[i]? = some p → vs[i]? = some v → RP w w0.heap.size lab ρ p v
  | [], k, h => ⟨[], h, fun _ _ _ _ _ => ⟨[], rfl, rfl, fun i p v hp => by simp at hp⟩⟩
  | .tmp t :: rest, k, h => by
    simp only [resVarK] at h
    split at h
    · rename_i p hp
      obtain ⟨ps, h2, hps⟩ := resVarK_ok rest _ h
      refine ⟨p :: ps, h2, fun lab ρ a w hR => ?_⟩
      obtain ⟨vs, hrun, hl, hv⟩ := hps lab ρ a w hR
      refine ⟨a.tmps.getD t undef :: vs, ?_, by simp [hl], fun i q u hq hu => ?_⟩
      · rw [List.mapM_cons, Sem.run_bind]
        simp only [resOf, Sem.run_pure, Result.andThen_ok, Sem.run_bind, hrun]
      · cases i with
        | zero => simp only [List.getElem?_cons_zero, Option.some.injEq] at hq hu; subst hq hu; exact partOfA_ok hp (hR.tmp t)
        | succ i => exact hv i q u (by simpa using hq) (by simpa using hu)
    · cases h
  | .cell c ty :: rest, k, h => by
    simp only [resVarK] at h
    obtain ⟨y, hy, hld⟩ := loadK_ok (w0 := w0) (N := N) h
    split at hy
    · rename_i p hp
      obtain ⟨ps, h2, hps⟩ := resVarK_ok rest _ hy
      refine ⟨p :: ps, h2, fun lab ρ a w hR => ?_⟩
      obtain ⟨vs, hrun, hl, hv⟩ := hps lab ρ a w hR
      obtain ⟨v, hv1, hv2⟩ := hld lab ρ a w hR _ (hR.tmp c)
      obtain ⟨ad, had⟩ := loadK_ptr h (hR.tmp c)
      rw [had] at hv1
      have hv1 : (loadVar ty ad).run P w = .ok v w := by
        simpa [Instr.loadAt, Instr.sureAddr] using hv1
      refine ⟨v :: vs, ?_, by simp [hl], fun i q u hq hu => ?_⟩
      · rw [List.mapM_cons, Sem.run_bind]
        simp only [resOf, had, asAddr, Sem.run_pure, Result.andThen_ok, Sem.run_bind, hrun, hv1]
      · cases i with
        | zero => simp only [List.getElem?_cons_zero, Option.some.injEq] at hq hu; subst hq hu; exact partOfA_ok hp hv2
        | succ i => exact hv i q u (by simpa using hq) (by simpa using hu)
    · cases hy
theorem endK_ok {fn : Func} {k : Res → Option X} (h : endK P σ fn.results k = some r) : ∃ res, k res = some r ∧ ∀ lab ρ a w, Rl w0 N lab ρ σ a w → ∀ nm, ∃ v lab', (results fn a.tmps).run P w = .ok v w ∧ (∀ b k, lab' b = some k → w0.heap.size ≤ b ∧ b < w.heap.size ∧ k ≠ []) ∧ ResOK w w0.heap.size lab' nm res v := by
  unfold endK at h
  obtain ⟨ps, h2, hps⟩ := resVarK_ok (w0 := w0) (N := N) _ _ h
  clear h
  split at h2
  · rename_i qs rs hqs
    cases ho : once rs with
    | false => rw [ho] at h2; cases h2
    | true =>
      rw [ho, cond_true] at h2
      have hrs : ∀ p ∈ rs, rs.lookup p.1 = some p.2 := by
        intro p hp
        have := List.all_eq_true.1 ho p hp
        obtain ⟨n, hn, he⟩ := (Option.any_eq_true _ _).1 this
        rw [hn, Nat.eq_of_beq_eq_true he]
      have core : ∀ lab ρ a w, Rl w0 N lab ρ σ a w → ∀ nm : Nat → Nat, ∃ vs : List Value, (fn.results.mapM (resOf a.tmps)).run P w = .ok vs.toArray w ∧ (∀ b k, relab lab rs nm b = some k → w0.heap.size ≤ b ∧ b < w.heap.size ∧ k ≠ []) ∧ ResL w w0.heap.size (relab lab rs nm) nm 0 qs vs := by
        intro lab ρ a w hR nm
        obtain ⟨vs, hrun, hl, hv⟩ := hps lab ρ a w hR
        refine ⟨vs, ?_, fun b k hk => ?_, partsV_ok hR.root ps 0 qs rs vs hqs hrs hl hv⟩
        · rw [Array.mapM_eq_mapM_toList]
          simp [hrun]
        · unfold relab at hk
          split at hk
          · cases hk
          · rename_i k' hk'
            have := hR.lab_ge b k' hk'
            split at hk
            · cases hk
            · cases hlk : rs.lookup _ with
              | none => rw [hlk] at hk; cases hk
              | some n =>
                rw [hlk] at hk
                injection hk with hk
                subst hk
                exact ⟨this.1, this.2.1, by simp⟩
      have hres : ∀ (tmps : Array Value), results fn tmps = (do let vs ← fn.results.mapM (resOf tmps); pure (if h : vs.size = 1 then vs[0] else .tuple vs)) := fun tmps => by
        unfold results
        congr 1
      split at h2
      · rename_i p
        refine ⟨_, h2, fun lab ρ a w hR nm => ?_⟩
        obtain ⟨vs, hrun, hlab, hR'⟩ := core lab ρ a w hR nm
        match vs, hR' with
        | [v], hR' => exact ⟨v, _, by rw [hres, Sem.run_bind, hrun]; rfl, hlab, hR'⟩
        | [], hR' => exact hR'.elim
        | _ :: _ :: _, hR' => exact hR'.2.elim
      · rename_i hne
        refine ⟨_, h2, fun lab ρ a w hR nm => ?_⟩
        obtain ⟨vs, hrun, hlab, hR'⟩ := core lab ρ a w hR nm
        have hsz : vs.toArray.size ≠ 1 := by
          intro e
          match qs, vs, hR', hne with
          | [q], [v], _, hne => exact hne q rfl
          | [], [v], hR', _ => exact hR'.elim
          | _ :: _ :: _, [v], hR', _ => exact hR'.2.elim
        refine ⟨.tuple vs.toArray, _, ?_, hlab, vs.toArray, rfl, hR'⟩
        rw [hres, Sem.run_bind, hrun, Result.andThen_ok]
        simp only [hsz, dif_neg, not_false_eq_true, Sem.run_pure]
  · cases h2
end
end Go.Proofs.Ytkgliadgedamiaa
