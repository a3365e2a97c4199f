/-
  States by their contents: what each temporary holds, the blocks and slices of the call's own; and how a world bears such a state. Nothing here is a claim.
-/
import Derived.Test.YtkgliadgedamiaaAvA
import Derived.Test.YtkgliadgedamiaaLaws
namespace Go.Proofs.Ytkgliadgedamiaa
open Go.RowKit
set_option linter.unusedVariables false

/-- One cell of a value: contents, or the header of a slice that is owned (by its key). -/
inductive Lf where
  | v (x : V)
  | own (k : List Nat)
  | dead
/-- What a temporary holds. -/
inductive A where
  | undef
  | skip
  | lf (x : Lf)
  | agg (cs : List Lf)
  | tup (xs : List (Bool × List Lf))
  | ptr (k : List Nat)
  | bptr (r j : Nat)
  | fptr (cs : List V)
  | fn (f : Nat) (cap : List (Nat × Nat))
/-- A root: a block of the call's own with its cells, or a slice of its own. -/
inductive Root where
  | blk (cs : List Lf)
  | sl (y : V)
structure S where
  t : Nat → A
  m : Nat → Option Root
inductive Loc where
  | blk (b off : Nat)
  | hdr (v : Value)

/-- Where a key leads to: j :: i :: s :: q is cell j of element i (of s cells) of the slice whose header has key q; [r] is the header of root r. -/
def addrAt (w : World) (lab : Lab) (ρ : Nat → Loc) : List Nat → Option Addr
  | j :: i :: s :: [r] => match ρ r with
    | .hdr (.slice (some ⟨b, 0, none⟩) _ _) => if lab b = some [r] then some ⟨b, i * s + j, none⟩ else none
    | _ => none
  | j :: i :: s :: q => match (addrAt w lab ρ q).bind w.cell? with
    | some (.slice (some ⟨b, 0, none⟩) _ _) => if lab b = some q then some ⟨b, i * s + j, none⟩ else none
    | _ => none
  | _ => none
def valAt (w : World) (lab : Lab) (ρ : Nat → Loc) : List Nat → Option Value
  | [r] => match ρ r with
    | .hdr v => some v
    | _ => none
  | q => (addrAt w lab ρ q).bind w.cell?
def RLf (w : World) (B : Nat) (lab : Lab) (ρ : Nat → Loc) : Lf → Value → Prop
  | .v x, u => x.fro = true ∧ RV w B lab [] x u
  | .own k, u => isSl u = true ∧ valAt w lab ρ k = some u
  | .dead, _ => True
def RLs (w : World) (B : Nat) (lab : Lab) (ρ : Nat → Loc) (cs : List Lf) (us : Array Value) : Prop :=
  us.size = cs.length ∧ ∀ (j : Nat) x, cs[j]? = some x → ∃ u, us[j]? = some u ∧ RLf w B lab ρ x u
/-- A part of a tuple. -/
def RP (w : World) (B : Nat) (lab : Lab) (ρ : Nat → Loc) (p : Bool × List Lf) (u : Value) : Prop :=
  match p with
  | (true, cs) => ∃ us, u = .agg us ∧ RLs w B lab ρ cs us
  | (false, cs) => RLs w B lab ρ cs #[u]
def RA (w : World) (B : Nat) (lab : Lab) (ρ : Nat → Loc) : A → Value → Prop
  | .undef, _ => True
  | .skip, u => u = Go.undef
  | .lf x, u => RLf w B lab ρ x u
  | .agg cs, u => RP w B lab ρ (true, cs) u
  | .tup xs, u => ∃ us : Array Value, u = .tuple us ∧ us.size = xs.length ∧ ∀ (j : Nat) p, xs[j]? = some p → ∃ v, us[j]? = some v ∧ RP w B lab ρ p v
  | .ptr k, u => ∃ ad, u = .pointer (some ad) ∧ addrAt w lab ρ k = some ad
  | .bptr r j, u => ∃ b off, ρ r = .blk b off ∧ u = .pointer (some ⟨b, off + j, none⟩)
  | .fptr cs, u => ∃ b off, u = .pointer (some ⟨b, off, none⟩) ∧ b < w.heap.size ∧ lab b = none ∧ ∀ (j : Nat) x, cs[j]? = some x → x.fro = true ∧ ∃ v, w.cell? ⟨b, off + j, none⟩ = some v ∧ RV w B lab [] x v
  | .fn f cap, u => ∃ vs : Array Value, u = .func (.func f) #[] vs ∧ vs.size = cap.length ∧ ∀ (j : Nat) p, cap[j]? = some p → ∃ b off, ρ p.1 = .blk b off ∧ vs[j]? = some (.pointer (some ⟨b, off + p.2, none⟩))

/-- How a root lies in memory. -/
inductive RootOK (w : World) (B : Nat) (lab : Lab) (ρ : Nat → Loc) (r : Nat) : Root → Prop
  | blk (b off : Nat) (cells : Array Value) (e : TypeId) (cs : List Lf) (us : Nat → Value) (hρ : ρ r = .blk b off) (hl : lab b = some [r]) (hh : w.heap[b]? = some (.cells cells e (0, 0))) (hs : off + cs.length ≤ cells.size)
      (hc : ∀ (j : Nat) x, cs[j]? = some x → cells[off + j]? = some (us j) ∧ RLf w B lab ρ x (us j)) : RootOK w B lab ρ r (.blk cs)
  | sl (v : Value) (y : V) (hρ : ρ r = .hdr v) (hr : RV w B lab [r] y v) : RootOK w B lab ρ r (.sl y)

structure Rl (w0 : World) (N : Nat) (lab : Lab) (ρ : Nat → Loc) (σ : S) (a : Act) (w : World) : Prop where
  below : Below w0.heap.size w0 w
  lab_ge : ∀ b k, lab b = some k → w0.heap.size ≤ b ∧ b < w.heap.size ∧ k ≠ []
  root : ∀ r x, σ.m r = some x → RootOK w w0.heap.size lab ρ r x
  tmp : ∀ k, RA w w0.heap.size lab ρ (σ.t k) (a.tmps.getD k undef)
  size : a.tmps.size = N
  defers : a.defers = []
def R (w0 : World) (N : Nat) (σ : S) (a : Act) (w : World) : Prop := ∃ lab ρ, Rl w0 N lab ρ σ a w

/-! Reading along a key. -/
inductive Get (m : Nat → Option Root) : List Nat → V → Prop
  | root (r : Nat) (y : V) (h : m r = some (.sl y)) : Get m [r] y
  | elem (j i : Nat) (q : List Nat) (t : TC) (o : Nat) (qn : Bool) (l : List (T t)) (y : V) (h : Get m q (.sl t (o + 2) qn l)) (hi : i < l.length) (hy : (enc t o l[i])[j]? = some y) : Get m (j :: i :: csz t :: q) y

section
variable {w w' w0 : World} {B N : Nat} {lab lab' : Lab} {ρ ρ' : Nat → Loc} {m : Nat → Option Root} {σ : S} {a : Act}

theorem addrAt_step {q : List Nat} (j i s : Nat) {b n c : Nat} (h : valAt w lab ρ q = some (.slice (some ⟨b, 0, none⟩) n c)) (hl : lab b = some q) : addrAt w lab ρ (j :: i :: s :: q) = some ⟨b, i * s + j, none⟩ := by
  match q, h, hl with
  | [r], h, hl =>
    simp only [valAt] at h
    simp only [addrAt]
    cases hr : ρ r with
    | blk b off => rw [hr] at h; cases h
    | hdr v => rw [hr] at h; injection h with h; subst h; simp [hl]
  | [], h, hl => simp [valAt, addrAt] at h
  | x :: y :: q, h, hl =>
    simp only [valAt] at h
    simp only [addrAt, h, hl, if_true]
theorem valAt_long {j i s : Nat} {q : List Nat} : valAt w lab ρ (j :: i :: s :: q) = (addrAt w lab ρ (j :: i :: s :: q)).bind w.cell? := rfl
theorem Get.ok {k : List Nat} {y : V} (h : Get m k y) (hm : ∀ r x, m r = some x → RootOK w B lab ρ r x) : ∃ u, valAt w lab ρ k = some u ∧ RV w B lab k y u := by
  induction h with
  | root r y h =>
    cases hm _ _ h with
    | sl v y hρ hr => exact ⟨v, by simp [valAt, hρ], hr⟩
  | elem j i q t o qn l y h hi hy ih =>
    obtain ⟨u, hu, hr⟩ := ih
    cases hr with
    | slNil => simp at hi
    | slEmp => simp at hi
    | fro _ _ _ _ _ _ _ _ _ ho => omega
    | own _ _ _ _ _ b cap cs us hl hh hs hn hm hc hr =>
      refine ⟨us i j, ?_, hr i hi j y hy⟩
      rw [valAt_long, addrAt_step j i (csz t) hu hl]
      show w.cell? _ = _
      rw [cell_of_row w b _ cs _ _ hh]
      exact hc i hi j y hy

/-- An address lies in a block with the label of the key above it. -/
theorem addrAt_lab : ∀ (k : List Nat) (ad : Addr), addrAt w lab ρ k = some ad → ∃ j i s q, k = j :: i :: s :: q ∧ lab ad.block = some q ∧ ad.off = i * s + j ∧ ad.spot = none ∧ (∀ r, q = [r] → ∃ v, ρ r = .hdr v)
  | [], _, h => by simp [addrAt] at h
  | [_], _, h => by simp [addrAt] at h
  | [_, _], _, h => by simp [addrAt] at h
  | [_, _, _], _, h => by simp [addrAt] at h
  | [j, i, s, r], ad, h => by
    simp only [addrAt] at h
    split at h
    · rename_i v b n c hr
      split at h
      · rename_i hl
        injection h with h
        subst h
        exact ⟨j, i, s, [r], rfl, hl, rfl, rfl, fun r' e => by injection e with e; subst e; exact ⟨_, hr⟩⟩
      · cases h
    · cases h
  | j :: i :: s :: x :: y :: q, ad, h => by
    simp only [addrAt] at h
    split at h
    · split at h
      · rename_i hl
        injection h with h
        subst h
        exact ⟨j, i, s, x :: y :: q, rfl, hl, rfl, rfl, fun r' e => by injection e with _ e; cases e⟩
      · cases h
    · cases h

/-- What is read stays where old memory stays. -/
theorem addrAt_keep (hk : ∀ b, b < w.heap.size → w'.heap[b]? = w.heap[b]? ∧ lab' b = lab b) (hg : ∀ b k, lab b = some k → b < w.heap.size) : ∀ (k : List Nat) (ad : Addr), addrAt w lab ρ k = some ad → addrAt w' lab' ρ k = some ad
  | [], _, h => h
  | [_], _, h => h
  | [_, _], _, h => h
  | [_, _, _], _, h => by simp only [addrAt] at h ⊢; exact h
  | [j, i, s, r], _, h => by
    simp only [addrAt] at h ⊢
    split at h
    · rename_i v b n c hr
      split at h
      · rename_i hl
        rw [if_pos ((hk _ (hg _ _ hl)).2.trans hl)]
        exact h
      · cases h
    · cases h
  | j :: i :: s :: x :: y :: q, ad, h => by
    simp only [addrAt] at h ⊢
    cases ha : addrAt w lab ρ (x :: y :: q) with
    | none => rw [ha] at h; cases h
    | some ad' =>
      rw [addrAt_keep hk hg _ _ ha]
      rw [ha] at h
      cases hc : w.cell? ad' with
      | none => simp [hc] at h
      | some v =>
        have e : w'.cell? ad' = some v := (World.cell?_of_block (hk _ (block_lt_of_cell hc)).1).trans hc
        simp only [Option.bind_some, hc] at h
        simp only [Option.bind_some, e]
        split at h
        · split at h
          · rename_i hl
            rw [if_pos ((hk _ (hg _ _ hl)).2.trans hl)]
            exact h
          · cases h
        · cases h
theorem valAt_keep (hk : ∀ b, b < w.heap.size → w'.heap[b]? = w.heap[b]? ∧ lab' b = lab b) (hg : ∀ b k, lab b = some k → b < w.heap.size) (k : List Nat) (u : Value) (h : valAt w lab ρ k = some u) : valAt w' lab' ρ k = some u := by
  match k, h with
  | [], h => simp [valAt, addrAt] at h
  | [r], h => exact h
  | x :: y :: q, h =>
    simp only [valAt] at h ⊢
    cases ha : addrAt w lab ρ (x :: y :: q) with
    | none => rw [ha] at h; cases h
    | some ad =>
      rw [addrAt_keep hk hg _ _ ha]
      rw [ha] at h
      have h : w.cell? ad = some u := h
      exact (World.cell?_of_block (hk _ (block_lt_of_cell h)).1).trans h

theorem RLf.keep {x : Lf} {u : Value} (h : RLf w B lab ρ x u) (hz : w.heap.size ≤ w'.heap.size) (hk : ∀ b, b < w.heap.size → w'.heap[b]? = w.heap[b]? ∧ lab' b = lab b) (hg : ∀ b k, lab b = some k → b < w.heap.size) : RLf w' B lab' ρ x u := by
  cases x with
  | v x => exact ⟨h.1, h.2.keep hz hk⟩
  | own k => exact ⟨h.1, valAt_keep hk hg _ _ h.2⟩
  | dead => trivial
theorem RLs.keep {cs : List Lf} {us : Array Value} (h : RLs w B lab ρ cs us) (hz : w.heap.size ≤ w'.heap.size) (hk : ∀ b, b < w.heap.size → w'.heap[b]? = w.heap[b]? ∧ lab' b = lab b) (hg : ∀ b k, lab b = some k → b < w.heap.size) : RLs w' B lab' ρ cs us :=
  ⟨h.1, fun j x hx => let ⟨u, hu, r⟩ := h.2 j x hx; ⟨u, hu, r.keep hz hk hg⟩⟩
theorem RP.keep {p : Bool × List Lf} {u : Value} (h : RP w B lab ρ p u) (hz : w.heap.size ≤ w'.heap.size) (hk : ∀ b, b < w.heap.size → w'.heap[b]? = w.heap[b]? ∧ lab' b = lab b) (hg : ∀ b k, lab b = some k → b < w.heap.size) : RP w' B lab' ρ p u := by
  obtain ⟨b, cs⟩ := p
  cases b with
  | true => obtain ⟨us, e, h⟩ := h; exact ⟨us, e, h.keep hz hk hg⟩
  | false => exact RLs.keep h hz hk hg
theorem RA.keep {x : A} {u : Value} (h : RA w B lab ρ x u) (hz : w.heap.size ≤ w'.heap.size) (hk : ∀ b, b < w.heap.size → w'.heap[b]? = w.heap[b]? ∧ lab' b = lab b) (hg : ∀ b k, lab b = some k → b < w.heap.size) : RA w' B lab' ρ x u := by
  cases x with
  | undef => trivial
  | skip => exact h
  | lf x => exact RLf.keep h hz hk hg
  | agg cs => exact RP.keep (p := (true, cs)) h hz hk hg
  | tup xs => obtain ⟨us, e, hs, h⟩ := h; exact ⟨us, e, hs, fun j p hp => let ⟨v, hv, r⟩ := h j p hp; ⟨v, hv, r.keep hz hk hg⟩⟩
  | ptr k => obtain ⟨ad, e, h⟩ := h; exact ⟨ad, e, addrAt_keep hk hg _ _ h⟩
  | bptr r j => exact h
  | fptr cs =>
    obtain ⟨b, off, e, hb, hl, h⟩ := h
    refine ⟨b, off, e, Nat.lt_of_lt_of_le hb hz, ((hk b hb).2).trans hl, fun j x hx => ?_⟩
    obtain ⟨hf, v, hv, hr⟩ := h j x hx
    exact ⟨hf, v, (World.cell?_of_block (a := ⟨b, _, none⟩) (hk b hb).1).trans hv, hr.keep hz hk⟩
  | fn f cap => exact h
theorem RootOK.keep {r : Nat} {x : Root} (h : RootOK w B lab ρ r x) (hz : w.heap.size ≤ w'.heap.size) (hk : ∀ b, b < w.heap.size → w'.heap[b]? = w.heap[b]? ∧ lab' b = lab b) (hg : ∀ b k, lab b = some k → b < w.heap.size) : RootOK w' B lab' ρ r x := by
  cases h with
  | blk b off cells e cs us hρ hl hh hs hc =>
    have hb : b < w.heap.size := (Array.getElem?_eq_some_iff.1 hh).1
    exact .blk b off cells e cs us hρ ((hk b hb).2.trans hl) ((hk b hb).1.trans hh) hs (fun j x hx => ⟨(hc j x hx).1, (hc j x hx).2.keep hz hk hg⟩)
  | sl v y hρ hr => exact .sl v y hρ (hr.keep hz hk)

/-! A root's name is given anew: what named it before is forgotten. -/
def lastIs (d : Nat) (k : List Nat) : Bool := k.getLast? == some d
def Lf.drop (d : Nat) : Lf → Lf
  | .own k => bif lastIs d k then .dead else .own k
  | x => x
def A.drop (d : Nat) : A → A
  | .lf x => .lf (x.drop d)
  | .agg cs => .agg (cs.map (Lf.drop d))
  | .tup xs => .tup (xs.map fun p => (p.1, p.2.map (Lf.drop d)))
  | .ptr k => bif lastIs d k then .undef else .ptr k
  | .bptr r j => bif Nat.beq r d then .undef else .bptr r j
  | .fn f cap => bif cap.any (fun p => Nat.beq p.1 d) then .undef else .fn f cap
  | x => x
def Root.drop (d : Nat) : Root → Root
  | .blk cs => .blk (cs.map (Lf.drop d))
  | x => x
theorem addrAt_rho {d : Nat} (hρ : ∀ r, r ≠ d → ρ' r = ρ r) : ∀ (k : List Nat), lastIs d k = false → addrAt w lab ρ' k = addrAt w lab ρ k
  | [], _ => rfl
  | [_], _ => rfl
  | [_, _], _ => rfl
  | [_, _, _], _ => rfl
  | [j, i, s, r], h => by
    have hr : r ≠ d := by rintro rfl; simp [lastIs] at h
    simp only [addrAt, hρ r hr]
  | j :: i :: s :: x :: y :: q, h => by
    have h' : lastIs d (x :: y :: q) = false := by simpa [lastIs] using h
    simp only [addrAt, addrAt_rho hρ (x :: y :: q) h']
theorem valAt_rho {d : Nat} (hρ : ∀ r, r ≠ d → ρ' r = ρ r) (k : List Nat) (h : lastIs d k = false) : valAt w lab ρ' k = valAt w lab ρ k := by
  match k, h with
  | [], _ => rfl
  | [r], h =>
    have hr : r ≠ d := by rintro rfl; simp [lastIs] at h
    simp only [valAt, hρ r hr]
  | x :: y :: q, h => simp only [valAt, addrAt_rho hρ _ h]
theorem RLf.rho {d : Nat} (hρ : ∀ r, r ≠ d → ρ' r = ρ r) {x : Lf} {u : Value} (h : RLf w B lab ρ x u) : RLf w B lab ρ' (x.drop d) u := by
  cases x with
  | v x => exact h
  | dead => trivial
  | own k =>
    have e : Lf.drop d (.own k) = (bif lastIs d k then .dead else .own k) := rfl
    rw [e]
    cases hl : lastIs d k with
    | true => trivial
    | false => exact ⟨h.1, (valAt_rho hρ k hl).trans h.2⟩
theorem RLs.rho {d : Nat} (hρ : ∀ r, r ≠ d → ρ' r = ρ r) {cs : List Lf} {us : Array Value} (h : RLs w B lab ρ cs us) : RLs w B lab ρ' (cs.map (Lf.drop d)) us := by
  refine ⟨by rw [List.length_map]; exact h.1, fun j x hx => ?_⟩
  rw [List.getElem?_map] at hx
  cases hy : cs[j]? with
  | none => rw [hy] at hx; cases hx
  | some y =>
    rw [hy] at hx
    injection hx with hx
    subst hx
    obtain ⟨u, hu, r⟩ := h.2 j y hy
    exact ⟨u, hu, r.rho hρ⟩
theorem RP.rho {d : Nat} (hρ : ∀ r, r ≠ d → ρ' r = ρ r) {p : Bool × List Lf} {u : Value} (h : RP w B lab ρ p u) : RP w B lab ρ' (p.1, p.2.map (Lf.drop d)) u := by
  obtain ⟨b, cs⟩ := p
  cases b with
  | true => obtain ⟨us, e, h⟩ := h; exact ⟨us, e, h.rho hρ⟩
  | false => exact RLs.rho hρ h
theorem RA.rho {d : Nat} (hρ : ∀ r, r ≠ d → ρ' r = ρ r) {x : A} {u : Value} (h : RA w B lab ρ x u) : RA w B lab ρ' (x.drop d) u := by
  cases x with
  | undef => trivial
  | skip => exact h
  | lf x => exact RLf.rho hρ h
  | agg cs => exact RP.rho (p := (true, cs)) hρ h
  | tup xs =>
    obtain ⟨us, e, hs, h⟩ := h
    refine ⟨us, e, by rw [List.length_map]; exact hs, fun j p hp => ?_⟩
    rw [List.getElem?_map] at hp
    cases hy : xs[j]? with
    | none => rw [hy] at hp; cases hp
    | some y =>
      rw [hy] at hp
      injection hp with hp
      subst hp
      obtain ⟨v, hv, r⟩ := h j y hy
      exact ⟨v, hv, r.rho hρ⟩
  | ptr k =>
    have e : A.drop d (.ptr k) = (bif lastIs d k then .undef else .ptr k) := rfl
    rw [e]
    cases hl : lastIs d k with
    | true => trivial
    | false => obtain ⟨ad, e, h⟩ := h; exact ⟨ad, e, (addrAt_rho hρ k hl).trans h⟩
  | bptr r j =>
    have e : A.drop d (.bptr r j) = (bif Nat.beq r d then .undef else .bptr r j) := rfl
    rw [e]
    cases hl : Nat.beq r d with
    | true => trivial
    | false =>
      have hr : r ≠ d := by rintro rfl; simp at hl
      obtain ⟨b, off, e, h⟩ := h
      exact ⟨b, off, (hρ r hr).trans e, h⟩
  | fptr cs => exact h
  | fn f cap =>
    have e : A.drop d (.fn f cap) = (bif cap.any (fun p => Nat.beq p.1 d) then .undef else .fn f cap) := rfl
    rw [e]
    cases hl : cap.any (fun p => Nat.beq p.1 d) with
    | true => trivial
    | false =>
      obtain ⟨vs, e, hs, h⟩ := h
      refine ⟨vs, e, hs, fun j p hp => ?_⟩
      obtain ⟨b, off, e2, h2⟩ := h j p hp
      have hr : p.1 ≠ d := by
        rintro rfl
        have := List.any_eq_false.1 hl p (List.mem_of_getElem? hp)
        simp at this
      exact ⟨b, off, (hρ _ hr).trans e2, h2⟩
theorem RootOK.rho {d r : Nat} (hρ : ∀ r, r ≠ d → ρ' r = ρ r) (hr : r ≠ d) {x : Root} (h : RootOK w B lab ρ r x) : RootOK w B lab ρ' r (x.drop d) := by
  cases h with
  | blk b off cells e cs us hρ1 hl hh hs hc =>
    refine .blk b off cells e _ us ((hρ r hr).trans hρ1) hl hh (by rw [List.length_map]; exact hs) (fun j x hx => ?_)
    rw [List.getElem?_map] at hx
    cases hy : cs[j]? with
    | none => rw [hy] at hx; cases hx
    | some y =>
      rw [hy] at hx
      injection hx with hx
      subst hx
      exact ⟨(hc j y hy).1, (hc j y hy).2.rho hρ⟩
  | sl v y hρ1 hr1 => exact .sl v y ((hρ r hr).trans hρ1) hr1

def upd {α : Type} (f : Nat → α) (d : Nat) (x : α) : Nat → α := fun k => bif Nat.beq k d then x else f k
theorem upd_same {α : Type} (f : Nat → α) (d : Nat) (x : α) : upd f d x d = x := by simp [upd]
theorem upd_ne {α : Type} (f : Nat → α) (d : Nat) (x : α) {k : Nat} (h : k ≠ d) : upd f d x k = f k := by
  have : Nat.beq k d = false := by
    cases hb : Nat.beq k d with
    | false => rfl
    | true => exact absurd (Nat.eq_of_beq_eq_true hb) h
  simp only [upd, this, cond_false]
def S.set (σ : S) (d : Nat) (x : A) : S := { σ with t := upd σ.t d x }
def S.drop (σ : S) (d : Nat) : S := ⟨fun k => (σ.t k).drop d, fun r => bif Nat.beq r d then none else (σ.m r).map (Root.drop d)⟩
def S.root (σ : S) (d : Nat) (x : Root) : S := { σ with m := upd σ.m d (some x) }

theorem Rl.set {x : A} {v : Value} {d : Nat} (h : Rl w0 N lab ρ σ a w) (hx : RA w w0.heap.size lab ρ x v) (hd : d < N) : Rl w0 N lab ρ (σ.set d x) (a.put (some d) v) w := by
  refine ⟨h.below, h.lab_ge, h.root, fun k => ?_, ?_, h.defers⟩
  · show RA w w0.heap.size lab ρ (upd σ.t d x k) ((a.tmps.setIfInBounds d v).getD k undef)
    by_cases hk : k = d
    · subst hk
      rw [upd_same, Array.getD_eq_getD_getElem?, Array.getElem?_setIfInBounds_self]
      have : k < a.tmps.size := by rw [h.size]; exact hd
      simp only [this, if_true, Option.getD_some]
      exact hx
    · rw [upd_ne _ _ _ hk, Array.getD_eq_getD_getElem?, Array.getElem?_setIfInBounds_ne (Ne.symm hk), ← Array.getD_eq_getD_getElem?]
      exact h.tmp k
  · show (a.tmps.setIfInBounds d v).size = N
    rw [Array.size_setIfInBounds]
    exact h.size
theorem Rl.grow (h : Rl w0 N lab ρ σ a w) (hb : Below w.heap.size w w') (hl : ∀ b, b < w.heap.size → lab' b = lab b) (hg : ∀ b k, w.heap.size ≤ b → lab' b = some k → b < w'.heap.size ∧ k ≠ []) : Rl w0 N lab' ρ σ a w' := by
  have hk : ∀ b, b < w.heap.size → w'.heap[b]? = w.heap[b]? ∧ lab' b = lab b := fun b hb' => ⟨hb.block b hb', hl b hb'⟩
  refine ⟨h.below.trans (hb.mono h.below.size), fun b k hbk => ?_, fun r x hx => (h.root r x hx).keep hb.size hk (fun b k hb => (h.lab_ge b k hb).2.1), fun k => (h.tmp k).keep hb.size hk (fun b k hb => (h.lab_ge b k hb).2.1), h.size, h.defers⟩
  rcases Nat.lt_or_ge b w.heap.size with hlt | hge
  · rw [hl b hlt] at hbk
    have := h.lab_ge b k hbk
    exact ⟨this.1, Nat.lt_of_lt_of_le this.2.1 hb.size, this.2.2⟩
  · have := hg b k hge hbk
    exact ⟨Nat.le_trans h.below.size hge, this.1, this.2⟩
/-- A new root. -/
theorem Rl.new {d : Nat} {x : Root} (h : Rl w0 N lab ρ σ a w) (l : Loc) (hx : RootOK w w0.heap.size lab (upd ρ d l) d x) : Rl w0 N lab (upd ρ d l) ((σ.drop d).root d x) a w := by
  have hρ : ∀ r, r ≠ d → upd ρ d l r = ρ r := fun r hr => upd_ne _ _ _ hr
  refine ⟨h.below, h.lab_ge, fun r y hy => ?_, fun k => (h.tmp k).rho hρ, h.size, h.defers⟩
  by_cases hr : r = d
  · subst hr
    have e : (upd (σ.drop r).m r (some x)) r = some x := upd_same _ _ _
    have hy : (upd (σ.drop r).m r (some x)) r = some y := hy
    rw [e] at hy
    injection hy with hy
    subst hy
    exact hx
  · have hy : (upd (σ.drop d).m d (some x)) r = some y := hy
    rw [upd_ne _ _ _ hr] at hy
    have hb : Nat.beq r d = false := by
      cases hb : Nat.beq r d with
      | false => rfl
      | true => exact absurd (Nat.eq_of_beq_eq_true hb) hr
    simp only [S.drop, hb, cond_false] at hy
    cases hm : σ.m r with
    | none => rw [hm] at hy; cases hy
    | some z =>
      rw [hm] at hy
      injection hy with hy
      subst hy
      exact (h.root r z hm).rho hρ hr
end
end Go.Proofs.Ytkgliadgedamiaa
