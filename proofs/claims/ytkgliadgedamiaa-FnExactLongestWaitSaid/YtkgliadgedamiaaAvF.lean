/-
  Operations by contents, third part: stores, places, lengths, parts. Nothing here is a claim.
-/
import Derived.Test.YtkgliadgedamiaaAvE
namespace Go.Proofs.Ytkgliadgedamiaa
open Go.RowKit
set_option linter.unusedVariables false

/-- The leaves of a value. -/
def A.lfs : A → Option (List Lf)
  | .lf x => some [x]
  | .agg xs => some xs
  | _ => none
def Lf.live : Lf → Bool
  | .dead => false
  | _ => true
def Lf.pl : Lf → Option V
  | .v x => bif x.plain then some x else none
  | _ => none
def plains : List Lf → Option (List V)
  | [] => some []
  | x :: xs => match x.pl, plains xs with
    | some y, some ys => some (y :: ys)
    | _, _ => none
def putM {X : Type} (m : Nat → Option Root) : List Nat → V → ((Nat → Option Root) → Option X) → Option X
  | [r], y, k => match m r with
    | some (.sl _) => k (upd m r (some (.sl y)))
    | _ => none
  | j :: i :: s :: q, y, k => getK m q fun z => match z with
    | .sl t (o + 2) qn l => if s = csz t then (if h : i < l.length then (if j < csz t then (match dec t o (splice (enc t o l[i]) j [y]) with
      | some e => putM m q (.sl t (o + 2) qn (l.set i e)) k
      | none => none) else none) else none) else none
    | _ => none
  | _, _, _ => none
def storeK {X : Type} (P : Program) (σ : S) (t : TypeId) (x y : A) (k : S → Option X) : Option X :=
  match szOf P t, y.lfs with
  | some n, some xs => if xs.length = n then (match x with
    | .bptr r j => (match σ.m r with
      | some (.blk cs) => if j + n ≤ cs.length then (bif xs.all Lf.live then k ⟨σ.t, upd σ.m r (some (.blk (splice cs j xs)))⟩ else none) else none
      | _ => none)
    | .ptr (j :: i :: s :: q) => (match plains xs with
      | none => none
      | some vs => getK σ.m q fun y => (match y with
        | .sl t' (o + 2) qn l => if s = csz t' then (if h : i < l.length then (if j + vs.length ≤ csz t' then (bif (((enc t' o l[i]).drop j).take vs.length).all V.plain then (match dec t' o (splice (enc t' o l[i]) j vs) with
          | some e => putM σ.m q (.sl t' (o + 2) qn (l.set i e)) fun m => k ⟨σ.t, m⟩
          | none => none) else none) else none) else none) else none
        | _ => none))
    | _ => none) else none
  | _, _ => none

section
variable {P : Program} {w w0 : World} {B N : Nat} {lab : Lab} {ρ : Nat → Loc} {σ : S} {a : Act} {X : Type} {r : X} {o : Oper}

theorem putM_ok {m : Nat → Option Root} : ∀ (q : List Nat) (y : V) (k : (Nat → Option Root) → Option X), putM m q y k = some r → ∃ m', Put m q y m' ∧ k m' = some r
  | [], _, _, h => by simp [putM] at h
  | [x], y, k, h => by
    simp only [putM] at h
    split at h
    · rename_i y0 hy; exact ⟨_, .root x y0 y hy, h⟩
    · cases h
  | [_, _], _, _, h => by simp [putM] at h
  | j :: i :: s :: q, y, k, h => by
    simp only [putM] at h
    obtain ⟨z, hz, h2⟩ := getK_ok q _ h
    clear h
    split at h2
    · split at h2
      · rename_i hs
        subst hs
        split at h2
        · rename_i hi
          split at h2
          · rename_i hj
            split at h2
            · rename_i e he
              obtain ⟨m', hm', h3⟩ := putM_ok q _ k h2
              exact ⟨m', .elem j i q _ _ _ _ y e m' hz hi hj he hm', h3⟩
            · cases h2
          · cases h2
        · cases h2
      · cases h2
    · cases h2

theorem plains_ok : ∀ (xs : List Lf) (vs : List V), plains xs = some vs → xs = vs.map .v ∧ ∀ v ∈ vs, v.plain = true
  | [], vs, h => by
    simp [plains] at h
    subst h
    exact ⟨rfl, by simp⟩
  | x :: xs, vs, h => by
    unfold plains at h
    split at h
    · rename_i y ys hy hys
      injection h with h
      subst h
      obtain ⟨h1, h2⟩ := plains_ok xs ys hys
      have : x = .v y ∧ y.plain = true := by
        cases x with
        | v z =>
          unfold Lf.pl at hy
          cases hz : z.plain with
          | true =>
            simp only [hz, cond_true] at hy
            injection hy with hy
            subst hy
            exact ⟨rfl, hz⟩
          | false => simp [hz] at hy
        | own q => cases hy
        | dead => cases hy
      refine ⟨by rw [this.1, h1]; rfl, fun v hv => ?_⟩
      rcases List.mem_cons.1 hv with rfl | hv
      · exact this.2
      · exact h2 v hv
    · cases h
theorem one_cells {u : Value} (h : u.oneCell' = true) : u.cells = #[u] := by cases u <;> first | rfl | cases h
theorem RLf.one {x : Lf} {u : Value} (h : RLf w B lab ρ x u) (hd : x.live = true) : u.oneCell' = true := by
  cases x with
  | v z => exact h.2.one
  | own k =>
    have := h.1
    cases u <;> first | rfl | cases this
  | dead => cases hd
/-- What is stored: the value's cells. -/
theorem lfs_ok {y : A} {xs : List Lf} (h : y.lfs = some xs) (hd : xs.all Lf.live = true) {u : Value} (hu : RA w B lab ρ y u) : RLs w B lab ρ xs u.cells ∧ u.cells.all (·.oneCell') = true := by
  have key : ∀ us : Array Value, RLs w B lab ρ xs us → us.all (·.oneCell') = true := by
    intro us hs
    rw [Array.all_eq_true]
    intro i hi
    have hx := List.getElem?_eq_getElem (l := xs) (i := i) (by rw [← hs.1]; exact hi)
    obtain ⟨v, hv, hr⟩ := hs.2 i _ hx
    have : us[i] = v := by rw [Array.getElem?_eq_getElem hi] at hv; injection hv
    rw [this]
    exact hr.one (List.all_eq_true.1 hd _ (List.getElem_mem _))
  cases y with
  | lf x =>
    injection h with h
    subst h
    have hu : RLf w B lab ρ x u := hu
    have h1 := hu.one (by simpa using hd)
    have : RLs w B lab ρ [x] u.cells := by
      rw [one_cells h1]
      refine ⟨rfl, fun j y hy => ?_⟩
      cases j with
      | zero => simp at hy; subst hy; exact ⟨u, rfl, hu⟩
      | succ j => simp at hy
    exact ⟨this, key _ this⟩
  | agg xs' =>
    injection h with h
    subst h
    obtain ⟨us, rfl, h⟩ := hu
    exact ⟨h, key _ h⟩
  | _ => cases h
theorem run_storeAt_any (w : World) (b o : Nat) (ty : TypeId) (v : Value) (ht : w.there b o v.cells.size) (hi : (P.info? ty).map (·.size) = some v.cells.size) (h1 : v.cells.all (·.oneCell') = true) :
    (Instr.storeAt ty (.pointer (some ⟨b, o, none⟩)) v).run P w = .ok () (w.setCells b o v.cells.toList) := by
  have := run_storeCells_cells (P := P) b o v.cells.toList 0 w (fun j hj => by simpa using (ht j (by simpa using hj)).1) (fun j hj => by simpa using (ht j (by simpa using hj)).2)
    (fun v hv => (Array.all_eq_true_iff_forall_mem.1 h1) v (by simpa using hv))
  cases hq : P.info? ty with
  | none => simp [hq] at hi
  | some i =>
    have hs : v.cells.size = i.size := by simp [hq] at hi; omega
    simp only [Nat.add_zero] at this
    simp [Instr.storeAt, Instr.sureAddr, storeVar, sizeOf, typeInfo, hq, hs, this]

theorem storeK_ok {t : TypeId} {x y : A} {k : S → Option X} (h : storeK P σ t x y k = some r) : ∃ σ', k σ' = some r ∧ ∀ lab ρ a w, Rl w0 N lab ρ σ a w → ∀ u v, RA w w0.heap.size lab ρ x u → RA w w0.heap.size lab ρ y v →
    ∃ w', (Instr.storeAt t u v).run P w = .ok () w' ∧ Rl w0 N lab ρ σ' a w' := by
  unfold storeK at h
  split at h
  · rename_i n xs hn hxs
    split at h
    · rename_i hlen
      split at h
      · rename_i r' j
        split at h
        · rename_i cs hcs
          split at h
          · rename_i hj
            cases hlive : xs.all Lf.live with
            | false => rw [hlive] at h; cases h
            | true =>
              rw [hlive] at h
              refine ⟨_, h, fun lab ρ a w hR u v hu hv => ?_⟩
              obtain ⟨b, off, hρ, rfl⟩ := hu
              obtain ⟨hl, hone⟩ := lfs_ok hxs hlive hv
              obtain ⟨b', off', hρ', hth, hR'⟩ := hR.storeB hcs hl (by rw [hlen]; exact hj)
              rw [hρ] at hρ'
              injection hρ' with e1 e2
              subst e1 e2
              exact ⟨_, run_storeAt_any w b (off + j) t v hth (by rw [hl.1, hlen]; exact hn) hone, hR'⟩
          · cases h
        · cases h
      · rename_i j i s q
        split at h
        · cases h
        · rename_i vs hvs
          obtain ⟨y0, hg, h2⟩ := getK_ok _ _ h
          clear h
          split at h2
          · rename_i t' o' qn l
            split at h2
            · rename_i hs
              subst hs
              split at h2
              · rename_i hi
                split at h2
                · rename_i hj
                  cases hold : (((enc t' o' l[i]).drop j).take vs.length).all V.plain with
                  | false => rw [hold] at h2; cases h2
                  | true =>
                    rw [hold, cond_true] at h2
                    split at h2
                    · rename_i e he
                      obtain ⟨m', hm', h3⟩ := putM_ok q _ _ h2
                      refine ⟨_, h3, fun lab ρ a w hR u v hu hv => ?_⟩
                      obtain ⟨ad, rfl, had⟩ := hu
                      obtain ⟨hx1, hx2⟩ := plains_ok xs vs hvs
                      have hlive : xs.all Lf.live = true := by rw [hx1]; simp [Lf.live]
                      obtain ⟨hl, hone⟩ := lfs_ok hxs hlive hv
                      have hvl : vs.length = n := by rw [← hlen, hx1, List.length_map]
                      have q1 : ∀ (n' : Nat) x, n' < vs.length → (enc t' o' l[i])[j + n']? = some x → x.plain = true := by
                        intro n' x hn' hx
                        refine List.all_eq_true.1 hold x (List.mem_of_getElem? (i := n') ?_)
                        rw [List.getElem?_take, if_pos hn', List.getElem?_drop]
                        exact hx
                      have q2 : ∀ (n' : Nat) x, vs[n']? = some x → ∃ u', v.cells[n']? = some u' ∧ RV w w0.heap.size lab [] x u' := by
                        intro n' x hx
                        obtain ⟨u', hu', hr'⟩ := hl.2 n' (.v x) (by rw [hx1, List.getElem?_map, hx]; rfl)
                        exact ⟨u', hu', hr'.2⟩
                      obtain ⟨b, hb, hth, hR'⟩ := hR.storeE (xs := vs) (us := v.cells) hg hi hj he q1 hx2 (by rw [hl.1, hx1, List.length_map]) q2 hm'
                      rw [had] at hb
                      injection hb with hb
                      subst hb
                      exact ⟨_, run_storeAt_any w b _ t v hth (by rw [hl.1, hlen]; exact hn) hone, hR'⟩
                    · cases h2
                · cases h2
              · cases h2
            · cases h2
          · cases h2
      · cases h
    · cases h
  · cases h
end
end Go.Proofs.Ytkgliadgedamiaa
