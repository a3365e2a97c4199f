/-
  Calls by contracts, and what a function gives back. Nothing here is a claim.
-/
import Derived.Test.YtkgliadgedamiaaAvM
namespace Go.Proofs.Ytkgliadgedamiaa
open Go.RowKit
set_option linter.unusedVariables false

/-- A function that can be entered. -/
def enters (P : Program) (f : Nat) : Prop := ∃ fn, P.funcs[f]? = some fn ∧ (fn.name == "runtime.NumGoroutine") = false ∧ fn.body.isNone = false

/-! What a function gives back. -/
def partOfA : A → Option (Bool × List Lf)
  | .lf x => some (false, [x])
  | .agg xs => some (true, xs)
  | _ => none
def resVarK {X : Type} (P : Program) (σ : S) : List ResultVar → (List (Bool × List Lf) → Option X) → Option X
  | [], k => k []
  | .tmp t :: rest, k => (match partOfA (σ.t t) with
    | some p => resVarK P σ rest fun ps => k (p :: ps)
    | none => none)
  | .cell p ty :: rest, k => loadK P σ ty (σ.t p) fun x => (match partOfA x with
    | some p => resVarK P σ rest fun ps => k (p :: ps)
    | none => none)
def cellV (m : Nat → Option Root) : Lf → Option (V × Option Nat)
  | .v x => bif x.loc && x.fro then some (x, none) else none
  | .own [r] => match m r with
    | some (.sl y) => bif y.loc then some (y, some r) else none
    | _ => none
  | _ => none
def cellsV (m : Nat → Option Root) (off : Nat) : List Lf → Option (List V × List (Nat × Nat))
  | [] => some ([], [])
  | x :: xs => match cellV m x, cellsV m (off + 1) xs with
    | some (y, none), some (ys, rs) => some (y :: ys, rs)
    | some (y, some r), some (ys, rs) => some (y :: ys, (r, off) :: rs)
    | _, _ => none
def partsV (m : Nat → Option Root) (off : Nat) : List (Bool × List Lf) → Option (List Pt × List (Nat × Nat))
  | [] => some ([], [])
  | p :: ps => match cellsV m off p.2, partsV m (off + p.2.length) ps with
    | some (vs, rs), some (qs, rs') => some ((p.1, vs) :: qs, rs ++ rs')
    | _, _ => none
def once (rs : List (Nat × Nat)) : Bool := rs.all fun p => (rs.lookup p.1).any fun n => Nat.beq n p.2
def endK {X : Type} (P : Program) (σ : S) (fn : Array ResultVar) (k : Res → Option X) : Option X :=
  resVarK P σ fn.toList fun ps => match partsV σ.m 0 ps with
    | some (qs, rs) => bif once rs then (match qs with
      | [p] => k (.one p)
      | qs => k (.tup qs)) else none
    | none => none

section
variable {P : Program} {w w' w0 : World} {B N : Nat} {lab lab' : Lab} {ρ ρ' : Nat → Loc} {σ : S} {a : Act} {X : Type} {d : Nat} {r : X} {o : Oper}

theorem resLf_agree : ∀ (xs : List V) (c : Nat) (j : Nat) x u, (resLf c xs)[j]? = some x → RLf w B lab ρ x u → (∀ r, r < c + xs.length → ρ' r = ρ r) → RLf w B lab ρ' x u
  | [], c, j, x, u, hx, _, _ => by simp [resLf] at hx
  | y :: ys, c, j, x, u, hx, hr, hρ => by
    cases j with
    | zero =>
      simp only [resLf, List.getElem?_cons_zero, Option.some.injEq] at hx
      subst hx
      cases hf : y.fro with
      | true => rw [hf, cond_true] at hr; simp only [cond_true]; exact hr
      | false =>
        rw [hf, cond_false] at hr
        simp only [cond_false]
        refine ⟨hr.1, ?_⟩
        have := hr.2
        simp only [valAt, hρ c (by simp)] at this ⊢
        exact this
    | succ j =>
      simp only [resLf, List.getElem?_cons_succ] at hx
      exact resLf_agree ys (c + 1) j x u hx hr (fun r h => hρ r (by simp; omega))
theorem PV.cells {key : Nat → List Nat} {p : Pt} {u : Value} (h : PV w B lab key p u) : ∃ us : List Value, us.length = p.2.length ∧ (∀ (j : Nat) x v, p.2[j]? = some x → us[j]? = some v → RV w B lab (key j) x v) ∧
    ∀ (ρ : Nat → Loc) (ls : List Lf), ls.length = p.2.length → (∀ (j : Nat) x v, ls[j]? = some x → us[j]? = some v → RLf w B lab ρ x v) → RP w B lab ρ (p.1, ls) u := by
  obtain ⟨us, hu, hs, hr⟩ := h
  obtain ⟨b, xs⟩ := p
  refine ⟨us.toList, by simpa using hs, fun j x v hx hv => ?_, fun ρ ls hl hls => ?_⟩
  · obtain ⟨v', hv', hr'⟩ := hr j x hx
    have : v' = v := by
      rw [Array.getElem?_toList] at hv
      rw [hv'] at hv
      injection hv
    subst this
    exact hr'
  · have hrl : RLs w B lab ρ ls us := ⟨by rw [hs, hl], fun j x hx => by
      have hj : j < us.size := by rw [hs, ← hl]; exact (List.getElem?_eq_some_iff.1 hx).1
      exact ⟨us[j], Array.getElem?_eq_getElem hj, hls j x _ hx (by rw [Array.getElem?_toList, Array.getElem?_eq_getElem hj])⟩⟩
    cases b with
    | true => exact ⟨us, hu, hrl⟩
    | false => have hu : us = #[u] := hu; subst hu; exact hrl
theorem addRs : ∀ (ps : List Pt) (c0 off : Nat) (σ : S) (ρ : Nat → Loc) (vs : List Value), Rl w0 N lab ρ σ a w → ResL w w0.heap.size lab (fun n => c0 + n) off ps vs →
    ∃ ρ', Rl w0 N lab ρ' (resRs (c0 + off) σ ps) a w ∧ (∀ r, r < c0 + off → ρ' r = ρ r) ∧ vs.length = (resLs (c0 + off) ps).length ∧ ∀ (i : Nat) p v, (resLs (c0 + off) ps)[i]? = some p → vs[i]? = some v → RP w w0.heap.size lab ρ' p v
  | [], c0, off, σ, ρ, vs, h, hr => by
    cases vs with
    | nil => exact ⟨ρ, h, fun _ _ => rfl, rfl, fun i p v hp => by simp [resLs] at hp⟩
    | cons v vs => exact hr.elim
  | p :: ps, c0, off, σ, ρ, vs, h, hr => by
    cases vs with
    | nil => exact hr.elim
    | cons v vs =>
      obtain ⟨⟨_, hp⟩, hr⟩ := hr
      obtain ⟨us, hl, hrv, hmk⟩ := hp.cells
      obtain ⟨ρ1, h1, hρ1, hlf⟩ := addRt p.2 (c0 + off) σ ρ us h hl (fun j x u hx hu => by
        have : RV w w0.heap.size lab [c0 + (off + j)] x u := hrv j x u hx hu
        rw [← Nat.add_assoc] at this
        exact this)
      obtain ⟨ρ2, h2, hρ2, hlen, hps⟩ := addRs ps c0 (off + p.2.length) (resRt (c0 + off) σ p.2) ρ1 vs h1 hr
      rw [← Nat.add_assoc] at h2 hρ2 hlen hps
      refine ⟨ρ2, h2, fun r hr => (hρ2 r (by omega)).trans (hρ1 r hr), by simp [resLs, hlen], fun i q u hq hu => ?_⟩
      cases i with
      | zero =>
        simp only [resLs, List.getElem?_cons_zero, Option.some.injEq] at hq hu
        subst hq hu
        refine hmk ρ2 _ (resLf_length _ _) (fun j x u hx hu => resLf_agree p.2 (c0 + off) j x u hx (hlf j x u hx hu) hρ2)
      | succ i =>
        simp only [resLs, List.getElem?_cons_succ] at hq hu
        exact hps i q u hq hu
theorem ResL.home {nm : Nat → Nat} : ∀ (ps : List Pt) (off : Nat) (vs : List Value) {B' : Nat}, ResL w B lab nm off ps vs → B' ≤ B → (∀ b, B ≤ b → lab' b = lab b) → (∀ b k, lab b = some k → B ≤ b) → ResL w B' lab' nm off ps vs
  | [], _, [], _, h, _, _, _ => h
  | [], _, _ :: _, _, h, _, _, _ => h
  | _ :: _, _, [], _, h, _, _, _ => h
  | p :: ps, off, v :: vs, B', h, hB, hl, hg => by
    obtain ⟨⟨hloc, us, hu, hs, hr⟩, hrest⟩ := h
    refine ⟨⟨hloc, us, hu, hs, fun j x hx => ?_⟩, ResL.home ps _ vs hrest hB hl hg⟩
    obtain ⟨v', hv', hr'⟩ := hr j x hx
    exact ⟨v', hv', hr'.home hB hl hg (List.all_eq_true.1 hloc x (List.mem_of_getElem? hx))⟩
theorem run_call (w : World) (o : Oper) (a : Act) (f : Nat) (args : Array Operand) (tys : Array TypeId) (ho : o.op = .call { callee := .value (.func f), args, argTypes := tys }) (he : enters P f) : (execOp a.eval o).run P w = .ok (.enter f (args.map a.eval)) w := by
  obtain ⟨fn, h1, h2, h3⟩ := he
  have h2' : ¬ fn.name = "runtime.NumGoroutine" := by simpa using h2
  have h3' : ¬ fn.body = none := by intro e; rw [e] at h3; cases h3
  simp [execOp, ho, resolve, Act.eval, Deferred.ofValue, invoke, callFunc, Sem.run_bind, Sem.run, program, h1, h2', h3']
theorem callK_ok {f : Nat} {args : Array Operand} {tys : Array TypeId} {c : Ctr} {k : S → Option X} (ho : o.op = .call { callee := .value (.func f), args, argTypes := tys }) (hd : o.dst = some d) (he : enters P f) (hc : CtrOK P f c) (h : callK N σ d c args.toList k = some r) : ∃ σ', k σ' = some r ∧ OpS P w0 N o σ σ' := by
  unfold callK at h
  cases hN : Nat.blt d N with
  | false => rw [hN] at h; cases h
  | true =>
    rw [hN, cond_true] at h
    have hdN : d < N := by have := Nat.le_of_ble_eq_true hN; omega
    obtain ⟨ps, h2, hargs⟩ := argsK_ok (w0 := w0) (N := N) _ _ h
    obtain ⟨res, h3, _, hcall⟩ := hc X ps _ r h2
    have step : ∀ a w K Q lab ρ, Rl w0 N lab ρ σ a w → (∀ v w' lab', Below w.heap.size w w' → Rl w0 N lab' ρ σ a w' → ResOK w' w0.heap.size lab' (fun n => 100000 + 1000 * d + n) res v → K (a.put o.dst v) w') → o.wp P a w K Q := by
      intro a w K Q lab ρ hR hK
      unfold Oper.wp
      rw [run_call w o a f args tys ho he, Oper.upon_enter]
      have hvals : (args.map a.eval) = (args.toList.map a.eval).toArray := by apply Array.ext'; rw [Array.toList_map]
      rw [hvals]
      refine (hcall (fun n => 100000 + 1000 * d + n) w _ (hargs lab ρ a w hR)).mono fun e w' hpost => ?_
      obtain ⟨v, lab1, rfl, hbel, hlab, hres⟩ := hpost
      have hB := hR.below.size
      let lab2 : Lab := fun b => if b < w.heap.size then lab b else lab1 b
      have e1 : ∀ b, b < w.heap.size → lab2 b = lab b := fun b hb => if_pos hb
      have e2 : ∀ b, w.heap.size ≤ b → lab2 b = lab1 b := fun b hb => if_neg (by omega)
      refine hK v w' lab2 hbel (hR.grow hbel e1 (fun b k hb hk => ?_)) ?_
      · rw [e2 b hb] at hk
        exact (hlab b k hk).2
      · cases res with
        | one p => exact ResL.home [p] 0 [v] hres hB e2 (fun b k hk => (hlab b k hk).1)
        | tup ps' =>
          obtain ⟨vs, e, hv⟩ := hres
          exact ⟨vs, e, ResL.home ps' 0 vs.toList hv hB e2 (fun b k hk => (hlab b k hk).1)⟩
    cases res with
    | one p =>
      simp only at h3
      split at h3
      · rename_i y hy
        refine ⟨_, h3, fun a w K Q hR hK => ?_⟩
        obtain ⟨lab, ρ, hR⟩ := hR
        refine step a w K Q lab ρ hR fun v w' lab' hbel hR' hres => ?_
        obtain ⟨ρ', hR2, _, _, hps⟩ := addRs [p] (100000 + 1000 * d) 0 σ ρ [v] hR' hres
        rw [hd]
        have hRP := hps 0 _ v rfl rfl
        exact hK _ _ ⟨lab', ρ', hR2.set (partA_ok hy hRP) hdN⟩
      · cases h3
    | tup ps' =>
      refine ⟨_, h3, fun a w K Q hR hK => ?_⟩
      obtain ⟨lab, ρ, hR⟩ := hR
      refine step a w K Q lab ρ hR fun v w' lab' hbel hR' hres => ?_
      obtain ⟨vs, rfl, hv⟩ := hres
      obtain ⟨ρ', hR2, _, hlen, hps⟩ := addRs ps' (100000 + 1000 * d) 0 σ ρ vs.toList hR' hv
      rw [hd]
      refine hK _ _ ⟨lab', ρ', hR2.set ⟨vs, rfl, by simpa using hlen, fun j p hp => ?_⟩ hdN⟩
      have hj : j < vs.size := by
        have := (List.getElem?_eq_some_iff.1 hp).1
        rw [Nat.add_zero] at hlen
        rw [← hlen] at this
        simpa using this
      exact ⟨vs[j], Array.getElem?_eq_getElem hj, hps j p _ hp (by rw [Array.getElem?_toList, Array.getElem?_eq_getElem hj])⟩
end
end Go.Proofs.Ytkgliadgedamiaa
