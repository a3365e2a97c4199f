/-
  Operations by contents: struct values, slices written out, fields of values, min and max, strings. Nothing here is a claim.
-/
import Derived.Test.YtkgliadgedamiaaAvJ
namespace Go.Proofs.Ytkgliadgedamiaa
open Go.RowKit
set_option linter.unusedVariables false

def fillA (place : Nat → Option (Nat × Nat)) (cells : List Lf) : List (Nat × A) → Option (List Lf)
  | [] => some cells
  | (i, x) :: rest => match place i, x.lfs with
    | some (off, n), some xs => if xs.length = n ∧ off + n ≤ cells.length then (bif xs.all Lf.live then fillA place (splice cells off xs) rest else none) else none
    | _, _ => none
def places (P : Program) (t : TypeId) : Option (Nat → Option (Nat × Nat)) :=
  match P.underlying t with
  | some (.array _ e) => (P.info? e).map fun ie => fun i => some (i * ie.size, ie.size)
  | some (.struct fields) => (fields.toList.mapM (fun f => (P.info? f.type).map fun i => (f.offset, i.size))).map fun ps => (ps.toArray[·]?)
  | _ => none
def buildK {X : Type} (P : Program) (σ : S) (t : TypeId) (parts : List (Nat × Operand)) (k : A → Option X) : Option X :=
  match zeroOf P t, places P t with
  | some z, some pl => match fillA pl (z.cells.toList.map zeroLf) (parts.map fun p => (p.1, opd σ p.2)) with
    | some cs => k (.agg cs)
    | none => none
  | _, _ => none
def Lf.asV : Lf → Option V
  | .v x => some x
  | _ => none
def lfVs : List Lf → Option (List V)
  | [] => some []
  | x :: xs => match x.asV, lfVs xs with
    | some y, some ys => some (y :: ys)
    | _, _ => none
/-- Cells, cut into elements. -/
def cutE (t : TC) (g : Nat) : Nat → List V → Option (List (T t))
  | 0, [] => some []
  | 0, _ => none
  | n + 1, vs => match dec t g (vs.take (csz t)), cutE t g n (vs.drop (csz t)) with
    | some x, some xs => some (x :: xs)
    | _, _ => none
def buildSK {X : Type} (P : Program) (N : Nat) (σ : S) (d : Nat) (t : TypeId) (len : Nat) (parts : List (Nat × Operand)) (k : S → Option X) : Option X :=
  match elemInfo P t with
  | some (e, tc) => match zeroOf P e with
    | some z => bif Nat.beq (full tc) 0 && Nat.beq z.cells.size (csz tc) && Nat.blt (len * csz tc) 16777217 then (match fillA (fun i => some (i * csz tc, csz tc)) (List.replicate len (z.cells.toList.map zeroLf)).flatten (parts.map fun p => (p.1, opd σ p.2)) with
      | some cs => (match lfVs cs with
        | some vs => (match cutE tc 0 len vs with
          | some l => newK N σ d (.sl (.sl tc 2 true l)) (.lf (.own [d])) k
          | none => none)
        | none => none)
      | none => none) else none
    | none => none
  | none => none

section
variable {P : Program} {w w' w0 : World} {B N : Nat} {lab lab' : Lab} {ρ ρ' : Nat → Loc} {σ : S} {a : Act} {X : Type} {d : Nat} {r : X}

theorem foldl_splice (off : Nat) : ∀ (l : List Value) (n : Nat) (cs : Array Value), off + n + l.length ≤ cs.size →
    ((l.zipIdx n).foldl (fun (cs : Array Value) (p : Value × Nat) => cs.setIfInBounds (off + p.2) p.1) cs).toList = splice cs.toList (off + n) l
  | [], n, cs, _ => by simp [splice]
  | v :: l, n, cs, h => by
    simp only [List.length_cons] at h
    rw [List.zipIdx_cons, List.foldl_cons, foldl_splice off l (n + 1) (cs.setIfInBounds (off + n) v) (by simp; omega)]
    have hlt : off + n < cs.toList.length := by simp; omega
    simp only [splice, Array.toList_setIfInBounds, List.length_cons]
    have e1 : (cs.toList.set (off + n) v).take (off + (n + 1)) = cs.toList.take (off + n) ++ [v] := by
      rw [show off + (n + 1) = off + n + 1 by omega, List.take_succ_eq_append_getElem (by simpa using hlt), List.getElem_set_self, List.take_set_of_le (Nat.le_refl _)]
    have e2 : (cs.toList.set (off + n) v).drop (off + (n + 1) + l.length) = cs.toList.drop (off + (n + 1) + l.length) := by
      rw [List.drop_set_of_lt (by omega)]
    rw [e1, e2, show off + n + (l.length + 1) = off + (n + 1) + l.length by omega]
    simp
theorem RLs.splice {cs xs : List Lf} {cv xv : Array Value} (h : RLs w B lab ρ cs cv) (hx : RLs w B lab ρ xs xv) {off : Nat} (hf : off + xs.length ≤ cs.length) {cv' : Array Value} (hc : cv'.toList = Proofs.Ytkgliadgedamiaa.splice cv.toList off xv.toList) : RLs w B lab ρ (Proofs.Ytkgliadgedamiaa.splice cs off xs) cv' := by
  have hfv : off + xv.toList.length ≤ cv.toList.length := by rw [Array.length_toList, Array.length_toList, hx.1, h.1]; exact hf
  refine ⟨?_, fun j x hj => ?_⟩
  · rw [splice_length _ _ _ hf, ← Array.length_toList, hc, splice_length _ _ _ hfv, Array.length_toList, h.1]
  · have e : cv'[j]? = (Proofs.Ytkgliadgedamiaa.splice cv.toList off xv.toList)[j]? := by rw [← hc, Array.getElem?_toList]
    rw [e, splice_get _ _ _ hfv, Array.length_toList, hx.1]
    rw [splice_get _ _ _ hf] at hj
    by_cases h1 : j < off
    · simp only [h1, if_true, Array.getElem?_toList] at hj ⊢
      exact h.2 j x hj
    · by_cases h2 : j < off + xs.length
      · simp only [h1, h2, if_true, if_false, Array.getElem?_toList] at hj ⊢
        exact hx.2 _ x hj
      · simp only [h1, h2, if_false, Array.getElem?_toList] at hj ⊢
        exact h.2 j x hj
theorem fillA_ok {place : Nat → Option (Nat × Nat)} : ∀ (parts : List (Nat × A)) (cells : List Lf) (cv : Array Value) (vs : List (Nat × Value)) (out : List Lf), fillA place cells parts = some out → RLs w B lab ρ cells cv → vs.length = parts.length →
    (∀ (j : Nat) p q, parts[j]? = some p → vs[j]? = some q → p.1 = q.1 ∧ RA w B lab ρ p.2 q.2) → ∃ cv', Instr.fill place cv vs = some cv' ∧ RLs w B lab ρ out cv'
  | [], cells, cv, vs, out, h, hR, hl, hp => by
    have : vs = [] := List.eq_nil_of_length_eq_zero hl
    subst this
    injection h with h
    subst h
    exact ⟨cv, rfl, hR⟩
  | (i, x) :: rest, cells, cv, vs, out, h, hR, hl, hp => by
    cases vs with
    | nil => simp at hl
    | cons v vs =>
      obtain ⟨i', v⟩ := v
      obtain ⟨e, hx⟩ := hp 0 _ _ rfl rfl
      simp only at e hx
      subst e
      unfold fillA at h
      split at h
      · rename_i off n xs hpl hxs
        split at h
        · rename_i hb
          cases hlive : xs.all Lf.live with
          | false => rw [hlive] at h; cases h
          | true =>
            rw [hlive, cond_true] at h
            obtain ⟨hlx, _⟩ := lfs_ok hxs hlive hx
            have hs1 : v.cells.size = n := by rw [hlx.1]; exact hb.1
            have hfit : ¬ (off + v.cells.size > cv.size) := by rw [hs1, hR.1]; omega
            have hfold : (v.cells.zipIdx.foldl (fun (cs : Array Value) (p : Value × Nat) => cs.setIfInBounds (off + p.2) p.1) cv).toList = Proofs.Ytkgliadgedamiaa.splice cv.toList off v.cells.toList := by
              have := foldl_splice off v.cells.toList 0 cv (by rw [Array.length_toList]; omega)
              rw [← Array.foldl_toList, Array.toList_zipIdx]
              exact this
            have hsp := hR.splice hlx (off := off) (by rw [hb.1]; exact hb.2) hfold
            obtain ⟨cv', hf', hR'⟩ := fillA_ok rest _ _ vs out h hsp (by simpa using hl) (fun j p q hp' hq' => hp (j + 1) p q (by simpa using hp') (by simpa using hq'))
            refine ⟨cv', ?_, hR'⟩
            have hne : (v.cells.size ≠ n || off + v.cells.size > cv.size) = false := by
              simp only [hs1, ne_eq, not_true_eq_false, decide_false, Bool.false_or, decide_eq_false_iff_not]
              rw [← hs1]
              exact hfit
            simp only [Instr.fill, hpl]
            rw [if_neg (by rw [hne]; simp)]
            exact hf'
        · cases h
      · cases h
theorem zeroLfs_ok (z : Value) : RLs w B lab ρ (z.cells.toList.map zeroLf) z.cells := by
  refine ⟨by simp, fun j x hx => ?_⟩
  rw [List.getElem?_map] at hx
  cases hv : z.cells.toList[j]? with
  | none => rw [hv] at hx; cases hx
  | some v =>
    rw [hv] at hx
    injection hx with hx
    subst hx
    exact ⟨v, by simpa using hv, zeroLf_ok v⟩
theorem buildK_ok {t : TypeId} {parts : Array (Nat × Operand)} {k : A → Option X} (h : buildK P σ t parts.toList k = some r) : ∃ y, k y = some r ∧ ∀ lab ρ a w, Rl w0 N lab ρ σ a w →
    ∃ v, (Instr.build t (parts.map fun (i, x) => (i, a.eval x))).run P w = .ok v w ∧ RA w w0.heap.size lab ρ y v := by
  unfold buildK at h
  split at h
  · rename_i z pl hz hpl
    split at h
    · rename_i cs hcs
      refine ⟨_, h, fun lab ρ a w hR => ?_⟩
      obtain ⟨cv', hf, hR'⟩ := fillA_ok (w := w) (B := w0.heap.size) (lab := lab) (ρ := ρ) _ _ z.cells (parts.toList.map fun p => (p.1, a.eval p.2)) cs hcs (zeroLfs_ok z) (by simp) (fun j p q hp hq => by
        rw [List.getElem?_map] at hp hq
        cases hx : parts.toList[j]? with
        | none => rw [hx] at hp; cases hp
        | some x =>
          rw [hx] at hp hq
          injection hp with hp
          injection hq with hq
          subst hp hq
          exact ⟨rfl, hR.opd x.2⟩)
      refine ⟨_, run_build (P := P) w t _ cv' ?_, cv', rfl, hR'⟩
      have hparts : (parts.map fun (i, x) => (i, a.eval x)).toList = parts.toList.map fun p => (p.1, a.eval p.2) := by simp
      rw [hparts]
      unfold zeroOf at hz
      unfold Program.built
      cases hi : P.info? t with
      | none => simp [hi] at hz
      | some i =>
        have hz : i.zero = some z := by simpa [hi] using hz
        unfold places at hpl
        split at hpl
        · rename_i n e hu
          cases hie : P.info? e with
          | none => simp [hie] at hpl
          | some ie =>
            rw [hie] at hpl
            injection hpl with hpl
            subst hpl
            simp only [hu, hz, hie]
            exact hf
        · rename_i fields hu
          cases hp : fields.toList.mapM (fun f => (P.info? f.type).map fun i => (f.offset, i.size)) with
          | none => rw [hp] at hpl; cases hpl
          | some ps =>
            rw [hp] at hpl
            injection hpl with hpl
            subst hpl
            simp only [hu, hz, hp]
            exact hf
        · cases hpl
    · cases h
  · cases h
theorem lfVs_ok : ∀ (cs : List Lf) (vs : List V), lfVs cs = some vs → cs = vs.map .v
  | [], vs, h => by injection h with h; subst h; rfl
  | x :: xs, vs, h => by
    unfold lfVs at h
    split at h
    · rename_i y ys hy hys
      injection h with h
      subst h
      rw [lfVs_ok xs ys hys, List.map_cons]
      cases x <;> first | (injection hy with hy; rw [hy]) | cases hy
    · cases h
theorem cutE_ok (t : TC) (g : Nat) : ∀ (n : Nat) (vs : List V) (l : List (T t)), cutE t g n vs = some l → l.length = n ∧ vs.length = n * csz t ∧ ∀ i (hi : i < l.length) (j : Nat) x, (enc t g l[i])[j]? = some x → ∃ y, vs[i * csz t + j]? = some y ∧ Wk y x
  | 0, [], l, h => by
    injection h with h
    subst h
    exact ⟨rfl, by simp, fun i hi => by simp at hi⟩
  | 0, _ :: _, l, h => by cases h
  | n + 1, vs, l, h => by
    unfold cutE at h
    split at h
    · rename_i x xs hx hxs
      injection h with h
      subst h
      obtain ⟨h1, h2, h3⟩ := cutE_ok t g n _ xs hxs
      have hk := dec_ok t g _ x hx
      have hlen : (vs.take (csz t)).length = csz t := by rw [hk.1, enc_length]
      have hge : csz t ≤ vs.length := by rw [List.length_take] at hlen; omega
      refine ⟨by simp [h1], ?_, fun i hi j y hy => ?_⟩
      · rw [List.length_drop] at h2
        rw [Nat.succ_mul]
        omega
      · cases i with
        | zero =>
          simp only [List.getElem_cons_zero] at hy
          have hj : j < csz t := by have := (List.getElem?_eq_some_iff.1 hy).1; rwa [enc_length] at this
          have hy' := List.getElem?_eq_getElem (l := vs.take (csz t)) (i := j) (by rw [hlen]; exact hj)
          refine ⟨_, ?_, hk.2 j _ y hy' hy⟩
          rw [List.getElem?_take, if_pos hj] at hy'
          rw [Nat.zero_mul, Nat.zero_add]
          exact hy'
        | succ i =>
          simp only [List.getElem_cons_succ] at hy
          obtain ⟨z, hz, hw⟩ := h3 i (by simpa using hi) j y hy
          refine ⟨z, ?_, hw⟩
          rw [List.getElem?_drop] at hz
          rw [Nat.succ_mul, show i * csz t + csz t + j = csz t + (i * csz t + j) by omega]
          exact hz
    · cases h
end
end Go.Proofs.Ytkgliadgedamiaa
