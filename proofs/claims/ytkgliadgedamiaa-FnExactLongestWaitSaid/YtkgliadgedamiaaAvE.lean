/-
  Operations by contents, second part: loads, stores, places, lengths. Nothing here is a claim.
-/
import Derived.Test.YtkgliadgedamiaaAvD
namespace Go.Proofs.Ytkgliadgedamiaa
open Go.RowKit
set_option linter.unusedVariables false

def szOf (P : Program) (t : TypeId) : Option Nat := (P.info? t).map (·.size)
def rowT (P : Program) (t : TypeId) : Option Bool :=
  match P.underlying t with
  | some (.struct _) | some (.array _ _) => some true
  | some _ => some false
  | none => none
def elemT (P : Program) (t : TypeId) : Option TypeId :=
  match P.underlying t with
  | some (.slice e) => some e
  | _ => none
def fieldT (P : Program) (s : TypeId) (f : Nat) : Option Field :=
  match P.underlying s with
  | some (.struct fs) => fs[f]?
  | _ => none
def finK {X : Type} (P : Program) (t : TypeId) (cs : List Lf) (k : A → Option X) : Option X :=
  match szOf P t with
  | some n => if cs.length = n then (match rowT P t with
    | some true => k (.agg cs)
    | some false => (match cs with
      | [y] => k (.lf y)
      | _ => none)
    | none => none) else none
  | none => none
/-- The leaves of an element's cells, from cell j on. -/
def leaves (key : Nat → List Nat) : Nat → List V → List Lf
  | _, [] => []
  | j, z :: zs => (bif z.fro then .v z else .own (key j)) :: leaves key (j + 1) zs
def loadK {X : Type} (P : Program) (σ : S) (t : TypeId) (x : A) (k : A → Option X) : Option X :=
  match szOf P t with
  | none => none
  | some n => match x with
    | .bptr r j => (match σ.m r with
      | some (.blk cs) => finK P t ((cs.drop j).take n) k
      | _ => none)
    | .fptr cs => finK P t ((cs.take n).map .v) k
    | .ptr (j :: i :: s :: q) => getK σ.m q fun y => (match y with
      | .sl t' (o + 2) _ l => if s = csz t' then (if h : i < l.length then finK P t (leaves (fun j' => j' :: i :: s :: q) j (((enc t' o l[i]).drop j).take n)) k else none) else none
      | _ => none)
    | _ => none

section
variable {P : Program} {w w0 : World} {B N : Nat} {lab : Lab} {ρ : Nat → Loc} {σ : S} {a : Act} {X : Type} {r : X} {o : Oper}

theorem leaves_length (key : Nat → List Nat) : ∀ (j : Nat) (zs : List V), (leaves key j zs).length = zs.length
  | _, [] => rfl
  | j, z :: zs => by simp [leaves, leaves_length key (j + 1) zs]
theorem leaves_get (key : Nat → List Nat) : ∀ (j : Nat) (zs : List V) (n : Nat), (leaves key j zs)[n]? = (zs[n]?).map fun z => bif z.fro then .v z else .own (key (j + n))
  | _, [], n => by simp [leaves]
  | j, z :: zs, 0 => by simp [leaves]
  | j, z :: zs, n + 1 => by
    simp only [leaves, List.getElem?_cons_succ, leaves_get key (j + 1) zs n]
    rw [show j + 1 + n = j + (n + 1) by omega]

theorem finK_ok {t : TypeId} {cs : List Lf} {k : A → Option X} (h : finK P t cs k = some r) : ∃ x, k x = some r ∧ ∀ (w : World) (B : Nat) (lab : Lab) (ρ : Nat → Loc) (b o : Nat) (vs : List Value), RLs w B lab ρ cs vs.toArray → w.rangeAt b o vs →
    ∃ v, (Instr.loadAt t (.pointer (some ⟨b, o, none⟩))).run P w = .ok v w ∧ RA w B lab ρ x v := by
  unfold finK at h
  split at h
  · rename_i n hn
    split at h
    · rename_i hlen
      split at h
      · rename_i hrow
        refine ⟨_, h, fun w B lab ρ b o vs hl hr => ?_⟩
        have hvl : vs.length = n := by have := hl.1; simpa [hlen] using this
        unfold rowT at hrow
        split at hrow
        · rename_i fs hu
          exact ⟨_, run_loadAt_mid w b o t vs _ hr hu rfl (by rw [hvl]; exact hn), _, rfl, hl⟩
        · rename_i c e hu
          exact ⟨_, run_loadAt_mid w b o t vs _ hr hu rfl (by rw [hvl]; exact hn), _, rfl, hl⟩
        · cases hrow
        · cases hrow
      · rename_i hrow
        split at h
        · rename_i y
          refine ⟨_, h, fun w B lab ρ b o vs hl hr => ?_⟩
          have hvl : vs.length = 1 := by have := hl.1; simpa using this
          obtain ⟨v, rfl⟩ := List.length_eq_one_iff.1 hvl
          have hv : w.cell? ⟨b, o, none⟩ = some v := hr 0 v rfl
          obtain ⟨u, hu, hR⟩ := hl.2 0 y rfl
          have : v = u := by simpa using hu
          subst this
          refine ⟨v, ?_, hR⟩
          unfold rowT at hrow
          split at hrow
          · cases hrow
          · cases hrow
          · rename_i d hs ha hu
            have hagg : (isAgg t).run P w = .ok false w := by
              unfold isAgg
              rw [Sem.run_bind, run_underlying hu w]
              cases d <;> first | rfl | (rename_i x; exact absurd rfl (hs x)) | (rename_i x y; exact absurd rfl (ha x y)) | simp_all
            simp [Instr.loadAt, Instr.sureAddr, loadVar, Sem.run_bind, hagg, load, Sem.run, hv]
          · cases hrow
        · cases h
      · cases h
    · cases h
  · cases h

theorem take_drop_get {α : Type} (l : List α) (j n i : Nat) (x : α) (h : ((l.drop j).take n)[i]? = some x) : i < n ∧ l[j + i]? = some x := by
  rw [List.getElem?_take] at h
  split at h
  · rename_i hi; rw [List.getElem?_drop] at h; exact ⟨hi, h⟩
  · cases h

theorem loadK_ok {t : TypeId} {x : A} {k : A → Option X} (h : loadK P σ t x k = some r) : ∃ y, k y = some r ∧ ∀ lab ρ a w, Rl w0 N lab ρ σ a w → ∀ u, RA w w0.heap.size lab ρ x u →
    ∃ v, (Instr.loadAt t u).run P w = .ok v w ∧ RA w w0.heap.size lab ρ y v := by
  unfold loadK at h
  split at h
  · cases h
  · rename_i n hn
    split at h
    · rename_i r' j
      split at h
      · rename_i cs hcs
        obtain ⟨y, hy, hf⟩ := finK_ok h
        refine ⟨y, hy, fun lab ρ a w hR u hu => ?_⟩
        obtain ⟨b, off, hρ, rfl⟩ := hu
        have hr := hR.root r' _ hcs
        generalize he : Root.blk cs = x at hr
        cases hr with
        | sl => cases he
        | blk b' off' cells e cs' us hρ' hl hh hs hc =>
          injection he with he
          subst he
          rw [hρ] at hρ'
          injection hρ' with e1 e2
          subst e1 e2
          refine hf w _ lab ρ b (off + j) (((cs.drop j).take n).mapIdx fun i _ => us (j + i)) ⟨by simp, fun i x hx => ?_⟩ (fun i v hv => ?_)
          · obtain ⟨hi, hx'⟩ := take_drop_get _ _ _ _ _ hx
            refine ⟨us (j + i), ?_, (hc _ x hx').2⟩
            simp only [List.getElem?_toArray, List.getElem?_mapIdx, hx, Option.map_some]
          · rw [List.getElem?_mapIdx] at hv
            cases hx : ((cs.drop j).take n)[i]? with
            | none => rw [hx] at hv; cases hv
            | some x =>
              rw [hx] at hv
              injection hv with hv
              subst hv
              obtain ⟨hi, hx'⟩ := take_drop_get _ _ _ _ _ hx
              rw [cell_of_row w b _ cells _ _ hh, Nat.add_assoc]
              exact (hc _ x hx').1
      · cases h
    · rename_i cs
      obtain ⟨y, hy, hf⟩ := finK_ok h
      refine ⟨y, hy, fun lab ρ a w hR u hu => ?_⟩
      obtain ⟨b, off, rfl, hb, hl, hc⟩ := hu
      have hget : ∀ (i : Nat) (x : Lf), ((cs.take n).map Lf.v)[i]? = some x → ∃ z v, x = .v z ∧ z.fro = true ∧ w.cell? ⟨b, off + i, none⟩ = some v ∧ RV w w0.heap.size lab [] z v := by
        intro i x hx
        rw [List.getElem?_map] at hx
        cases hz : (cs.take n)[i]? with
        | none => rw [hz] at hx; cases hx
        | some z =>
          rw [hz] at hx
          injection hx with hx
          rw [List.getElem?_take] at hz
          split at hz
          · obtain ⟨hf', v, hv, hr⟩ := hc i z hz
            exact ⟨z, v, hx.symm, hf', hv, hr⟩
          · cases hz
      refine hf w _ lab ρ b off (((cs.take n).map Lf.v).mapIdx fun i _ => (w.cell? ⟨b, off + i, none⟩).getD undef) ⟨by simp, fun i x hx => ?_⟩ (fun i v hv => ?_)
      · obtain ⟨z, v, rfl, hf', hv, hr⟩ := hget i x hx
        refine ⟨v, ?_, hf', hr⟩
        simp only [List.getElem?_toArray, List.getElem?_mapIdx, hx, Option.map_some, hv, Option.getD_some]
      · rw [List.getElem?_mapIdx] at hv
        cases hx : ((cs.take n).map Lf.v)[i]? with
        | none => rw [hx] at hv; cases hv
        | some x =>
          rw [hx] at hv
          obtain ⟨z, v', rfl, hf', hv', hr⟩ := hget i x hx
          rw [hv'] at hv
          injection hv with hv
          rw [hv']
          exact congrArg some hv
    · rename_i j i s q
      obtain ⟨y0, hg, h2⟩ := getK_ok _ _ h
      clear h
      split at h2
      · rename_i t' o' qn l
        split at h2
        · rename_i hs
          subst hs
          split at h2
          · rename_i hi
            obtain ⟨y, hy, hf⟩ := finK_ok h2
            refine ⟨y, hy, fun lab ρ a w hR u hu => ?_⟩
            obtain ⟨ad, rfl, had⟩ := hu
            obtain ⟨hv, hval, hrv⟩ := hg.ok hR.root
            cases hrv with
            | slNil => simp at hi
            | slEmp => simp at hi
            | fro _ _ _ _ _ _ _ _ _ ho => omega
            | own _ _ _ _ _ b cap cs us hlb hh hs hn hmx hc hr =>
              rw [addrAt_step j i (csz t') hval hlb] at had
              injection had with had
              subst had
              have hget : ∀ (m : Nat) (x : Lf), (leaves (fun j' => j' :: i :: csz t' :: q) j (((enc t' o' l[i]).drop j).take n))[m]? = some x → cs[i * csz t' + (j + m)]? = some (us i (j + m)) ∧ RLf w w0.heap.size lab ρ x (us i (j + m)) := by
                intro m x hx
                rw [leaves_get] at hx
                cases hz : (((enc t' o' l[i]).drop j).take n)[m]? with
                | none => rw [hz] at hx; cases hx
                | some z =>
                  rw [hz] at hx
                  injection hx with hx
                  have hx : (bif z.fro then Lf.v z else Lf.own ((j + m) :: i :: csz t' :: q)) = x := hx
                  obtain ⟨_, hz'⟩ := take_drop_get _ _ _ _ _ hz
                  have h3 := hc i hi _ z hz'
                  have h4 := hr i hi _ z hz'
                  refine ⟨h3, ?_⟩
                  cases hfz : z.fro with
                  | true =>
                    rw [hfz] at hx
                    have hx : Lf.v z = x := hx
                    subst hx
                    exact ⟨hfz, h4.key hfz⟩
                  | false =>
                    rw [hfz] at hx
                    have hx : Lf.own ((j + m) :: i :: csz t' :: q) = x := hx
                    subst hx
                    refine ⟨?_, ?_⟩
                    · exact h4.notfro hfz
                    · rw [valAt_long, addrAt_step (j + m) i (csz t') hval hlb]
                      show w.cell? _ = _
                      rw [cell_of_row w b _ cs _ _ hh]
                      exact h3
              refine hf w _ lab ρ b (i * csz t' + j) ((leaves (fun j' => j' :: i :: csz t' :: q) j (((enc t' o' l[i]).drop j).take n)).mapIdx fun m _ => us i (j + m)) ⟨by simp, fun m x hx => ?_⟩ (fun m v hv => ?_)
              · refine ⟨us i (j + m), ?_, (hget m x hx).2⟩
                simp only [List.getElem?_toArray, List.getElem?_mapIdx, hx, Option.map_some]
              · rw [List.getElem?_mapIdx] at hv
                cases hx : (leaves (fun j' => j' :: i :: csz t' :: q) j (((enc t' o' l[i]).drop j).take n))[m]? with
                | none => rw [hx] at hv; cases hv
                | some x =>
                  rw [hx] at hv
                  injection hv with hv
                  subst hv
                  rw [cell_of_row w b _ cs _ _ hh, Nat.add_assoc]
                  exact (hget m x hx).1
          · cases h2
        · cases h2
      · cases h2
    · cases h
end
end Go.Proofs.Ytkgliadgedamiaa
