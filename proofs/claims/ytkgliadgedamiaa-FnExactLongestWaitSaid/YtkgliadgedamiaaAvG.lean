/-
  Operations by contents, fourth part: places, lengths, parts of tuples and structs. Nothing here is a claim.
-/
import Derived.Test.YtkgliadgedamiaaAvF
import Derived.Great.BuildSlice
namespace Go.Proofs.Ytkgliadgedamiaa
open Go.RowKit
set_option linter.unusedVariables false

def fieldK {X : Type} (P : Program) (s : TypeId) (x : A) (f : Nat) (k : A → Option X) : Option X :=
  match fieldT P s f with
  | none => none
  | some fd => match szOf P fd.type with
    | some (_ + 1) => (match x with
      | .bptr r j => k (.bptr r (j + fd.offset))
      | .fptr cs => k (.fptr (cs.drop fd.offset))
      | .ptr (j :: i :: s :: q) => k (.ptr ((j + fd.offset) :: i :: s :: q))
      | _ => none)
    | _ => none
def idxK {X : Type} (P : Program) (σ : S) (t : TypeId) (x i : A) (k : A → Option X) : Option X :=
  match elemT P t with
  | none => none
  | some e => match szOf P e, i with
    | some n, .lf (.v (.int _ iv)) => (match x with
      | .lf (.v (.sl t' g _ l)) => if n = csz t' then (bif Nat.blt g 2 then (if h : 0 ≤ iv ∧ iv.toNat < l.length then k (.fptr (enc t' g (l[iv.toNat]'h.2))) else none) else none) else none
      | .lf (.own q) => getK σ.m q fun y => (match y with
        | .sl t' (_ + 2) _ l => if n = csz t' then (if h : 0 ≤ iv ∧ iv.toNat < l.length then k (.ptr (0 :: iv.toNat :: csz t' :: q)) else none) else none
        | _ => none)
      | _ => none)
    | _, _ => none
def lenK {X : Type} (P : Program) (σ : S) (t : TypeId) (x : A) (k : A → Option X) : Option X :=
  match x with
  | .lf y => lfK σ y fun z => (match z with
    | .sl _ _ _ l => (match P.underlying t with | some (.slice _) => k (.lf (.v (.int .i64 (l.length : Int)))) | _ => none)
    | .nil => (match P.underlying t with | some (.slice _) => k (.lf (.v (.int .i64 0))) | _ => none)
    | .str s => (match P.underlying t with | some .string => k (.lf (.v (.int .i64 (s.size : Int)))) | _ => none)
    | _ => none)
  | _ => none
def partA : Bool × List Lf → Option A
  | (true, cs) => some (.agg cs)
  | (false, [y]) => some (.lf y)
  | _ => none
def extK {X : Type} (x : A) (i : Nat) (k : A → Option X) : Option X :=
  match x with
  | .tup xs => match (xs[i]?).bind partA with
    | some y => k y
    | none => none
  | _ => none

section
variable {P : Program} {w w0 : World} {B N : Nat} {lab : Lab} {ρ : Nat → Loc} {σ : S} {a : Act} {X : Type} {r : X} {o : Oper}

theorem addrAt_add (n : Nat) {j i s : Nat} {q : List Nat} {ad : Addr} (h : addrAt w lab ρ (j :: i :: s :: q) = some ad) : addrAt w lab ρ ((j + n) :: i :: s :: q) = some ⟨ad.block, ad.off + n, none⟩ := by
  match q, h with
  | [], h => simp [addrAt] at h
  | [r], h =>
    simp only [addrAt] at h ⊢
    split at h
    · split at h
      · rename_i hl
        injection h with h
        subst h
        rw [if_pos hl, Nat.add_assoc]
      · cases h
    · cases h
  | x :: y :: q, h =>
    simp only [addrAt] at h ⊢
    split at h
    · split at h
      · rename_i hl
        injection h with h
        subst h
        rw [if_pos hl, Nat.add_assoc]
      · cases h
    · cases h
theorem run_fieldAt_mid (w : World) (s : TypeId) (f : Nat) (fd : Field) (n : Nat) (b off : Nat) (hf : fieldT P s f = some fd) (hs : szOf P fd.type = some (n + 1)) :
    (Instr.fieldAt s (.pointer (some ⟨b, off, none⟩)) f).run P w = .ok (.pointer (some ⟨b, off + fd.offset, none⟩)) w := by
  unfold fieldT at hf
  split at hf
  · rename_i fs hu
    unfold szOf at hs
    cases hq : P.info? fd.type with
    | none => simp [hq] at hs
    | some i =>
      have hi : i.size = n + 1 := by simpa [hq] using hs
      simp [Instr.fieldAt, run_underlying hu, hf, Instr.sureAddr, fieldPlace, sizeOf, typeInfo, hq, hi, Addr.add_mid]
  · cases hf
theorem fieldK_ok {s : TypeId} {x : A} {f : Nat} {k : A → Option X} (h : fieldK P s x f k = some r) : ∃ y, k y = some r ∧ ∀ (w : World) (B : Nat) (lab : Lab) (ρ : Nat → Loc) (u : Value), RA w B lab ρ x u →
    ∃ v, (Instr.fieldAt s u f).run P w = .ok v w ∧ RA w B lab ρ y v := by
  unfold fieldK at h
  split at h
  · cases h
  · rename_i fd hfd
    split at h
    · rename_i n hn
      split at h
      · rename_i r' j
        refine ⟨_, h, fun w B lab ρ u hu => ?_⟩
        obtain ⟨b, off, hρ, rfl⟩ := hu
        exact ⟨_, run_fieldAt_mid w s f fd n b _ hfd hn, b, off, hρ, by rw [Nat.add_assoc]⟩
      · rename_i cs
        refine ⟨_, h, fun w B lab ρ u hu => ?_⟩
        obtain ⟨b, off, rfl, hb, hl, hc⟩ := hu
        refine ⟨_, run_fieldAt_mid w s f fd n b _ hfd hn, b, _, rfl, hb, hl, fun j x hx => ?_⟩
        rw [List.getElem?_drop] at hx
        have := hc _ x hx
        rw [← Nat.add_assoc] at this
        exact this
      · rename_i j i s' q
        refine ⟨_, h, fun w B lab ρ u hu => ?_⟩
        obtain ⟨ad, rfl, had⟩ := hu
        have h2 := addrAt_add fd.offset had
        obtain ⟨_, _, _, _, _, _, _, hsp, _⟩ := addrAt_lab _ _ had
        obtain ⟨b, off, sp⟩ := ad
        simp only at hsp
        subst hsp
        exact ⟨_, run_fieldAt_mid w s f fd n b off hfd hn, _, rfl, h2⟩
      · cases h
    · cases h
theorem run_indexAt_mid (w : World) (t e : TypeId) (n b off len cap : Nat) (kk : IntKind) (iv : Int) (hu : elemT P t = some e) (hs : szOf P e = some n) (h0 : 0 ≤ iv) (h1 : iv.toNat < len) :
    (Instr.indexAt t (.slice (some ⟨b, off, none⟩) len cap) (.int kk iv)).run P w = .ok (.pointer (some ⟨b, off + iv.toNat * n, none⟩)) w := by
  unfold elemT at hu
  split at hu
  · rename_i e' hu'
    injection hu with hu
    subst hu
    unfold szOf at hs
    cases hq : P.info? e' with
    | none => simp [hq] at hs
    | some i =>
      have hi : i.size = n := by simpa [hq] using hs
      have h2 : iv < (len : Int) := by omega
      simp [Instr.indexAt, run_underlying hu', asIntOf, h0, h2, sizeOf, typeInfo, hq, hi, Addr.add_mid]
  · cases hu
theorem idxK_ok {t : TypeId} {x i : A} {k : A → Option X} (h : idxK P σ t x i k = some r) : ∃ y, k y = some r ∧ ∀ lab ρ a w, Rl w0 N lab ρ σ a w → ∀ u v, RA w w0.heap.size lab ρ x u → RA w w0.heap.size lab ρ i v →
    ∃ p, (Instr.indexAt t u v).run P w = .ok p w ∧ RA w w0.heap.size lab ρ y p := by
  unfold idxK at h
  split at h
  · cases h
  · rename_i e he
    split at h
    · rename_i n kk iv hn
      split at h
      · rename_i t' g qn l
        split at h
        · rename_i hnc
          subst hnc
          cases hg : Nat.blt g 2 with
          | false => rw [hg] at h; cases h
          | true =>
            rw [hg, cond_true] at h
            split at h
            · rename_i hb
              refine ⟨_, h, fun lab ρ a w hR u v hu hv => ?_⟩
              obtain rfl := hv.2.int_inv
              have hg2 : g < 2 := by have := Nat.le_of_ble_eq_true hg; omega
              cases hu.2 with
              | slNil => simp at hb
              | slEmp => simp at hb
              | own => exact absurd hg2 (by omega)
              | fro _ _ _ _ _ b off cap us ho hl hbb h1 hcap hc hr =>
                refine ⟨_, run_indexAt_mid w t e _ b off _ cap kk iv he hn hb.1 hb.2, b, _, rfl, hbb, hl, fun j x hx => ⟨enc_fro t' g _ hg2 j x hx, us iv.toNat j, ?_, hr _ hb.2 j x hx⟩⟩
                rw [Nat.add_assoc]
                exact hc _ hb.2 j x hx
            · cases h
        · cases h
      · rename_i q
        obtain ⟨y0, hg, h2⟩ := getK_ok _ _ h
        clear h
        split at h2
        · rename_i t' o' qn l
          split at h2
          · rename_i hnc
            subst hnc
            split at h2
            · rename_i hb
              refine ⟨_, h2, fun lab ρ a w hR u v hu hv => ?_⟩
              obtain rfl := hv.2.int_inv
              obtain ⟨hv', hval, hrv⟩ := hg.ok hR.root
              have : hv' = u := by
                have h3 := hu.2
                rw [hval] at h3
                injection h3
              subst this
              cases hrv with
              | slNil => simp at hb
              | slEmp => simp at hb
              | fro _ _ _ _ _ _ _ _ _ ho => omega
              | own _ _ _ _ _ b cap cs us hlb hh hs hn' hmx hc hr =>
                refine ⟨_, run_indexAt_mid w t e _ b 0 _ cap kk iv he hn hb.1 hb.2, _, rfl, ?_⟩
                rw [addrAt_step 0 iv.toNat (csz t') hval hlb]
                simp
            · cases h2
          · cases h2
        · cases h2
      · cases h
    · cases h
theorem lenK_ok {t ty : TypeId} {x : A} {k : A → Option X} (h : lenK P σ t x k = some r) : ∃ y, k y = some r ∧ ∀ lab ρ a w, Rl w0 N lab ρ σ a w → ∀ u, RA w w0.heap.size lab ρ x u →
    ∃ v, (Builtin.len_ #[t] ty #[u]).run P w = .ok v w ∧ RA w w0.heap.size lab ρ y v := by
  unfold lenK at h
  split at h
  · rename_i y
    have key : ∃ z, (∀ lab ρ a w, Rl w0 N lab ρ σ a w → ∀ u, RLf w w0.heap.size lab ρ y u → ∃ q, RV w w0.heap.size lab q z u) ∧ (match z with
        | .sl _ _ _ l => (match P.underlying t with | some (.slice _) => k (.lf (.v (.int .i64 (l.length : Int)))) | _ => none)
        | .nil => (match P.underlying t with | some (.slice _) => k (.lf (.v (.int .i64 0))) | _ => none)
        | .str s => (match P.underlying t with | some .string => k (.lf (.v (.int .i64 (s.size : Int)))) | _ => none)
        | _ => none) = some r := by
      cases y with
      | v z => exact ⟨z, fun lab ρ a w _ u hu => ⟨[], hu.2⟩, h⟩
      | dead => cases h
      | own q =>
        obtain ⟨z, hz, h⟩ := getK_ok q _ h
        refine ⟨z, fun lab ρ a w hR u hu => ?_, h⟩
        obtain ⟨v, hv, hr⟩ := hz.ok hR.root
        have h3 := hu.2
        rw [hv] at h3
        injection h3 with h3
        subst h3
        exact ⟨q, hr⟩
    obtain ⟨z, hz, h2⟩ := key
    clear h
    split at h2
    · rename_i t' g qn l
      split at h2
      · rename_i e he
        refine ⟨_, h2, fun lab ρ a w hR u hu => ?_⟩
        obtain ⟨q, hr⟩ := hz lab ρ a w hR u hu
        cases hr with
        | slNil => exact ⟨_, by simp [Builtin.len_, run_underlying he, goInt], rfl, .int _ _ _⟩
        | slEmp => exact ⟨_, by simp [Builtin.len_, run_underlying he, goInt], rfl, .int _ _ _⟩
        | fro => exact ⟨_, by simp [Builtin.len_, run_underlying he, goInt], rfl, .int _ _ _⟩
        | own => exact ⟨_, by simp [Builtin.len_, run_underlying he, goInt], rfl, .int _ _ _⟩
      · cases h2
    · split at h2
      · rename_i e he
        refine ⟨_, h2, fun lab ρ a w hR u hu => ?_⟩
        obtain ⟨q, hr⟩ := hz lab ρ a w hR u hu
        cases hr
        exact ⟨_, by simp [Builtin.len_, run_underlying he, goInt], rfl, .int _ _ _⟩
      · cases h2
    · split at h2
      · rename_i he
        refine ⟨_, h2, fun lab ρ a w hR u hu => ?_⟩
        obtain ⟨q, hr⟩ := hz lab ρ a w hR u hu
        obtain rfl := hr.str_inv
        exact ⟨_, by simp [Builtin.len_, run_underlying he, goInt], rfl, .int _ _ _⟩
      · cases h2
    · cases h2
  · cases h
theorem partA_ok {p : Bool × List Lf} {y : A} (h : partA p = some y) {u : Value} (hu : RP w B lab ρ p u) : RA w B lab ρ y u := by
  unfold partA at h
  split at h
  · injection h with h
    subst h
    exact hu
  · rename_i z
    injection h with h
    subst h
    obtain ⟨u', hu', hr⟩ := hu.2 0 z rfl
    have : u = u' := by simpa using hu'
    subst this
    exact hr
  · cases h
theorem extK_ok {x : A} {i : Nat} {k : A → Option X} (h : extK x i k = some r) : ∃ y, k y = some r ∧ ∀ (w : World) (B : Nat) (lab : Lab) (ρ : Nat → Loc) (u : Value), RA w B lab ρ x u →
    ∃ v, (Instr.extract u i).run P w = .ok v w ∧ RA w B lab ρ y v := by
  unfold extK at h
  split at h
  · rename_i xs
    split at h
    · rename_i y hy
      refine ⟨y, h, fun w B lab ρ u hu => ?_⟩
      obtain ⟨us, rfl, hs, hp⟩ := hu
      cases hx : xs[i]? with
      | none => rw [hx] at hy; cases hy
      | some p =>
        rw [hx] at hy
        obtain ⟨v, hv, hr⟩ := hp i p hx
        exact ⟨v, by simp [Instr.extract, hv], partA_ok hy hr⟩
    · cases h
  · cases h
end
end Go.Proofs.Ytkgliadgedamiaa
