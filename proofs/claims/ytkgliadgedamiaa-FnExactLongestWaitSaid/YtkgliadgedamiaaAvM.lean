/-
  Contracts by contents, and calls. Nothing here is a claim.
-/
import Derived.Test.YtkgliadgedamiaaAvL
namespace Go.Proofs.Ytkgliadgedamiaa
open Go.RowKit
set_option linter.unusedVariables false

/-- A value handed over: whether it is a struct, and its cells. -/
abbrev Pt := Bool × List V
def PV (w : World) (B : Nat) (lab : Lab) (key : Nat → List Nat) (p : Pt) (u : Value) : Prop :=
  ∃ us : Array Value, (match p.1 with | true => u = .agg us | false => us = #[u]) ∧ us.size = p.2.length ∧ ∀ (j : Nat) x, p.2[j]? = some x → ∃ v, us[j]? = some v ∧ RV w B lab (key j) x v
def ArgsOK (w : World) (args : List Pt) (vals : Array Value) : Prop :=
  vals.size = args.length ∧ ∀ (i : Nat) p, args[i]? = some p → ∃ u, vals[i]? = some u ∧ PV w w.heap.size (fun _ => none) (fun _ => []) p u
inductive Res where
  | one (p : Pt)
  | tup (ps : List Pt)
/-- All that is frozen in it is memory of the call's own. -/
def locG (t : TC) : Nat → Bool
  | 0 => false
  | 1 => true
  | o + 2 => Nat.ble (full t) o || Nat.beq (o % 2) 1
def V.loc : V → Bool
  | .sl t o _ _ => locG t o
  | _ => true
def ResL (w : World) (B : Nat) (lab : Lab) (nm : Nat → Nat) : Nat → List Pt → List Value → Prop
  | _, [], [] => True
  | off, p :: ps, v :: vs => (p.2.all V.loc = true ∧ PV w B lab (fun j => [nm (off + j)]) p v) ∧ ResL w B lab nm (off + p.2.length) ps vs
  | _, _, _ => False
def ResOK (w : World) (B : Nat) (lab : Lab) (nm : Nat → Nat) : Res → Value → Prop
  | .one p, v => ResL w B lab nm 0 [p] [v]
  | .tup ps, v => ∃ vs : Array Value, v = .tuple vs ∧ ResL w B lab nm 0 ps vs.toList
structure Ctr where
  run : (X : Type) → List Pt → (Res → Option X) → Option X
def CtrOK (P : Program) (f : Nat) (c : Ctr) : Prop :=
  ∀ (X : Type) (args : List Pt) (k : Res → Option X) (r : X), c.run X args k = some r → ∃ res, k res = some r ∧ (∀ (X' : Type) (k' : Res → Option X'), c.run X' args k' = k' res) ∧ ∀ (nm : Nat → Nat) (w : World) (vals : Array Value), ArgsOK w args vals →
    Calls P f vals w fun e w' => ∃ v lab', e = .returned v ∧ Below w.heap.size w w' ∧ (∀ b k, lab' b = some k → w.heap.size ≤ b ∧ b < w'.heap.size ∧ k ≠ []) ∧ ResOK w' w.heap.size lab' nm res v

def lvK {X : Type} (σ : S) : List Lf → (List V → Option X) → Option X
  | [], k => k []
  | x :: xs, k => lfK σ x fun y => lvK σ xs fun ys => k (y.frz :: ys)
def argK {X : Type} (σ : S) (x : A) (k : Pt → Option X) : Option X :=
  match x with
  | .lf y => lvK σ [y] fun vs => k (false, vs)
  | .agg ys => lvK σ ys fun vs => k (true, vs)
  | _ => none
def argsK {X : Type} (σ : S) : List Operand → (List Pt → Option X) → Option X
  | [], k => k []
  | x :: xs, k => argK σ (opd σ x) fun p => argsK σ xs fun ps => k (p :: ps)
/-- The leaves of what a call gives back, and the roots they bear; c: the first free name. -/
def resLf (c : Nat) : List V → List Lf
  | [] => []
  | x :: xs => (bif x.fro then .v x else .own [c]) :: resLf (c + 1) xs
def resRt (c : Nat) (σ : S) : List V → S
  | [] => σ
  | x :: xs => resRt (c + 1) (bif x.fro then σ else (σ.drop c).root c (.sl x)) xs
def resLs (c : Nat) : List Pt → List (Bool × List Lf)
  | [] => []
  | p :: ps => (p.1, resLf c p.2) :: resLs (c + p.2.length) ps
def resRs (c : Nat) (σ : S) : List Pt → S
  | [] => σ
  | p :: ps => resRs (c + p.2.length) (resRt c σ p.2) ps
def callK {X : Type} (N : Nat) (σ : S) (d : Nat) (c : Ctr) (args : List Operand) (k : S → Option X) : Option X :=
  bif Nat.blt d N then argsK σ args fun ps => c.run X ps fun res => (match res with
    | .one p => (match partA (p.1, resLf (100000 + 1000 * d) p.2) with
      | some y => k ((resRt (100000 + 1000 * d) σ p.2).set d y)
      | none => none)
    | .tup ps => k ((resRs (100000 + 1000 * d) σ ps).set d (.tup (resLs (100000 + 1000 * d) ps)))) else none

section
variable {P : Program} {w w' w0 : World} {B N : Nat} {lab lab' : Lab} {ρ ρ' : Nat → Loc} {σ : S} {a : Act} {X : Type} {d : Nat} {r : X} {o : Oper}

theorem lvK_ok : ∀ (xs : List Lf) (k : List V → Option X), lvK σ xs k = some r → ∃ vs, k vs = some r ∧ vs.length = xs.length ∧ ∀ lab ρ a w, Rl w0 N lab ρ σ a w → ∀ (j : Nat) x y u, xs[j]? = some x → vs[j]? = some y → RLf w w0.heap.size lab ρ x u → RV w w.heap.size (fun _ => none) [] y u
  | [], k, h => ⟨[], h, rfl, fun _ _ _ _ _ j x y u hx => by simp at hx⟩
  | x :: xs, k, h => by
    unfold lvK at h
    obtain ⟨y, hy, h2⟩ := lfK_inv (w0 := w0) (N := N) h
    obtain ⟨ys, h3, hl, hr⟩ := lvK_ok xs _ h2
    refine ⟨y.frz :: ys, h3, by simp [hl], fun lab ρ a w hR j x' y' u hx' hy' hu => ?_⟩
    cases j with
    | zero =>
      simp at hx' hy'
      subst hx' hy'
      obtain ⟨q, hq⟩ := hy lab ρ a w hR u hu
      exact hq.frz
    | succ j => exact hr lab ρ a w hR j x' y' u (by simpa using hx') (by simpa using hy') hu
theorem argK_ok {x : A} {k : Pt → Option X} (h : argK σ x k = some r) : ∃ p, k p = some r ∧ ∀ lab ρ a w, Rl w0 N lab ρ σ a w → ∀ u, RA w w0.heap.size lab ρ x u → PV w w.heap.size (fun _ => none) (fun _ => []) p u := by
  unfold argK at h
  split at h
  · rename_i y
    obtain ⟨vs, h2, hl, hr⟩ := lvK_ok (w0 := w0) (N := N) _ _ h
    refine ⟨_, h2, fun lab ρ a w hR u hu => ⟨#[u], rfl, by simp [hl], fun j x hx => ?_⟩⟩
    have hj : j = 0 := by
      have := (List.getElem?_eq_some_iff.1 hx).1
      simp only [hl] at this
      simpa using this
    subst hj
    exact ⟨u, rfl, hr lab ρ a w hR 0 y x u rfl hx hu⟩
  · rename_i ys
    obtain ⟨vs, h2, hl, hr⟩ := lvK_ok (w0 := w0) (N := N) _ _ h
    refine ⟨_, h2, fun lab ρ a w hR u hu => ?_⟩
    obtain ⟨us, rfl, hs⟩ := hu
    refine ⟨us, rfl, by rw [hl]; exact hs.1, fun j x hx => ?_⟩
    have hj : j < ys.length := by rw [← hl]; exact (List.getElem?_eq_some_iff.1 hx).1
    obtain ⟨v, hv, hr'⟩ := hs.2 j _ (List.getElem?_eq_getElem hj)
    exact ⟨v, hv, hr lab ρ a w hR j _ x v (List.getElem?_eq_getElem hj) hx hr'⟩
  · cases h
theorem argsK_ok : ∀ (xs : List Operand) (k : List Pt → Option X), argsK σ xs k = some r → ∃ ps, k ps = some r ∧ ∀ lab ρ a w, Rl w0 N lab ρ σ a w → ArgsOK w ps (xs.map a.eval).toArray
  | [], k, h => ⟨[], h, fun _ _ _ _ _ => ⟨rfl, fun i p hp => by simp at hp⟩⟩
  | x :: xs, k, h => by
    unfold argsK at h
    obtain ⟨p, h2, hp⟩ := argK_ok (w0 := w0) (N := N) h
    obtain ⟨ps, h3, hps⟩ := argsK_ok xs _ h2
    refine ⟨p :: ps, h3, fun lab ρ a w hR => ⟨?_, fun i q hq => ?_⟩⟩
    · have := (hps lab ρ a w hR).1
      simp at this
      simp [this]
    · cases i with
      | zero =>
        simp at hq
        subst hq
        exact ⟨_, rfl, hp lab ρ a w hR _ (hR.opd x)⟩
      | succ i =>
        obtain ⟨u, hu, hr⟩ := (hps lab ρ a w hR).2 i q (by simpa using hq)
        exact ⟨u, by simpa using hu, hr⟩

theorem loc_inner {t : TC} {o : Nat} (h : locG t (o + 2) = true) (x : T t) : ∀ y ∈ enc t o x, y.loc = true := by
  intro y hy
  have hg := enc_gr t o x y hy
  cases y with
  | sl t' o' q l =>
    have ho : o' = o := by simpa [V.gr] using hg
    subst ho
    have hf : full t' + 2 ≤ full t := Nat.le_of_ble_eq_true (enc_full t o' x _ hy)
    show locG t' o' = true
    simp only [locG, Bool.or_eq_true] at h
    rcases h with h | h
    · have h := Nat.le_of_ble_eq_true h
      match o', h with
      | 0, h => omega
      | 1, h => rfl
      | n + 2, h =>
        simp only [locG, Bool.or_eq_true]
        left
        exact Nat.ble_eq_true_of_le (by omega)
    · have h := Nat.eq_of_beq_eq_true h
      match o', h with
      | 0, h => omega
      | 1, h => rfl
      | n + 2, h =>
        simp only [locG, Bool.or_eq_true]
        right
        have : n % 2 = 1 := by omega
        rw [this]
        rfl
  | _ => rfl
/-- Contents whose frozen parts are the callee's own, seen by the caller. -/
theorem RV.home {q : List Nat} {x : V} {v : Value} (h : RV w B lab q x v) {B' : Nat} (hB : B' ≤ B) (hl : ∀ b, B ≤ b → lab' b = lab b) (hg : ∀ b k, lab b = some k → B ≤ b) (hx : x.loc = true) : RV w B' lab' q x v := by
  induction h with
  | int => exact .int _ _ _
  | bool => exact .bool _ _
  | str => exact .str _ _
  | nil => exact .nil _
  | slNil => exact .slNil _ _ _
  | slEmp => exact .slEmp _ _ _ _ _ (by first | assumption | omega)
  | fro q t o qn l b off cap u ho hlb hb h1 hcap hc hr ih =>
    have ho1 : o = 1 := by
      match o, ho, hx with
      | 0, _, hx => cases hx
      | 1, _, _ => rfl
      | n + 2, ho, _ => omega
    subst ho1
    have hBb := h1 rfl
    refine .fro _ _ _ _ _ _ _ _ u ho ((hl b hBb).trans hlb) hb (fun _ => Nat.le_trans hB hBb) hcap hc (fun i h j x hx' => ih i h j x hx' ?_)
    have := enc_gr t 1 l[i] x (List.mem_of_getElem? hx')
    cases x with
    | sl t' o' q' l' =>
      have : o' = 1 := by simpa [V.gr] using this
      subst this
      rfl
    | _ => rfl
  | own q t o qn l b cap cs u hlb hh hs hn hm hc hr ih =>
    exact .own _ _ _ _ _ _ _ cs u ((hl b (hg b q hlb)).trans hlb) hh hs hn hm hc (fun i h j x hx' => ih i h j x hx' (loc_inner hx l[i] x (List.mem_of_getElem? hx')))
theorem addRt : ∀ (xs : List V) (c : Nat) (σ : S) (ρ : Nat → Loc) (us : List Value), Rl w0 N lab ρ σ a w → us.length = xs.length → (∀ (j : Nat) x u, xs[j]? = some x → us[j]? = some u → RV w w0.heap.size lab [c + j] x u) →
    ∃ ρ', Rl w0 N lab ρ' (resRt c σ xs) a w ∧ (∀ r, r < c → ρ' r = ρ r) ∧ ∀ (j : Nat) x u, (resLf c xs)[j]? = some x → us[j]? = some u → RLf w w0.heap.size lab ρ' x u
  | [], c, σ, ρ, us, h, hl, hr => ⟨ρ, h, fun _ _ => rfl, fun j x u hx => by simp [resLf] at hx⟩
  | x :: xs, c, σ, ρ, us, h, hl, hr => by
    cases us with
    | nil => simp at hl
    | cons u us =>
      have hr0 := hr 0 x u rfl rfl
      rw [Nat.add_zero] at hr0
      have hrest : ∀ (j : Nat) x' u', xs[j]? = some x' → us[j]? = some u' → RV w w0.heap.size lab [c + 1 + j] x' u' := fun j x' u' hx hu => by
        have := hr (j + 1) x' u' (by simpa using hx) (by simpa using hu)
        rw [show c + 1 + j = c + (j + 1) by omega]
        exact this
      cases hf : x.fro with
      | true =>
        obtain ⟨ρ', hR', hρ, hlf⟩ := addRt xs (c + 1) σ ρ us h (by simpa using hl) hrest
        refine ⟨ρ', ?_, fun r hr => hρ r (by omega), fun j y v hy hv => ?_⟩
        · simp only [resRt, hf, cond_true]
          exact hR'
        · simp only [resLf, hf, cond_true] at hy
          cases j with
          | zero =>
            simp at hy hv
            subst hy hv
            exact ⟨hf, hr0.key hf⟩
          | succ j => exact hlf j y v (by simpa using hy) (by simpa using hv)
      | false =>
        have hsl := hr0.notfro hf
        obtain ⟨ρ', hR', hρ, hlf⟩ := addRt xs (c + 1) _ _ us (h.new (d := c) (x := .sl x) (.hdr u) (.sl u x (upd_same _ _ _) hr0)) (by simpa using hl) hrest
        refine ⟨ρ', ?_, fun r hr => ?_, fun j y v hy hv => ?_⟩
        · simp only [resRt, hf, cond_false]
          exact hR'
        · rw [hρ r (by omega)]
          exact upd_ne _ _ _ (by omega)
        · simp only [resLf, hf, cond_false] at hy
          cases j with
          | zero =>
            simp at hy hv
            subst hy hv
            refine ⟨hsl, ?_⟩
            have : ρ' c = .hdr u := by rw [hρ c (by omega)]; exact upd_same _ _ _
            simp [valAt, this]
          | succ j => exact hlf j y v (by simpa using hy) (by simpa using hv)
theorem resLf_length (xs : List V) : ∀ c, (resLf c xs).length = xs.length := by
  induction xs with
  | nil => intro c; rfl
  | cons x xs ih => intro c; simp [resLf, ih]
end
end Go.Proofs.Ytkgliadgedamiaa
