/-
  Regions whose order is open: an operation that only gives a value may be taken first. Nothing here is a claim.
-/
import Derived.Test.YtkgliadgedamiaaAvP
namespace Go.Proofs.Ytkgliadgedamiaa
open Go.RowKit
set_option linter.unusedVariables false

section
variable {P : Program} {w w' w0 : World} {B N : Nat} {lab lab' : Lab} {ρ ρ' : Nat → Loc} {σ : S} {a : Act} {X : Type} {d : Nat} {r : X} {o : Oper} {Φ : Ctrs}

/-! What an operation gives hangs on its operands and on the roots alone. -/
theorem lfK_m {σ2 : S} (hm : σ2.m = σ.m) (x : Lf) (k : V → Option X) : lfK σ2 x k = lfK σ x k := by
  cases x <;> simp only [lfK, hm]
theorem loadK_m {σ2 : S} (hm : σ2.m = σ.m) (t : TypeId) (x : A) (k : A → Option X) : loadK P σ2 t x k = loadK P σ t x k := by
  simp only [loadK, hm]
theorem idxK_m {σ2 : S} (hm : σ2.m = σ.m) (t : TypeId) (x i : A) (k : A → Option X) : idxK P σ2 t x i k = idxK P σ t x i k := by
  simp only [idxK, hm]
theorem lenK_m {σ2 : S} (hm : σ2.m = σ.m) (t : TypeId) (x : A) (k : A → Option X) : lenK P σ2 t x k = lenK P σ t x k := by
  cases x <;> simp only [lenK, lfK_m hm]
theorem buildK_c {σ2 : S} (t : TypeId) (parts : List (Nat × Operand)) (h : ∀ p ∈ parts, opd σ2 p.2 = opd σ p.2) (k : A → Option X) : buildK P σ2 t parts k = buildK P σ t parts k := by
  have e : (parts.map fun p => (p.1, opd σ2 p.2)) = parts.map fun p => (p.1, opd σ p.2) := List.map_congr_left fun p hp => by rw [h p hp]
  simp only [buildK, e]
theorem lvK_m {σ2 : S} (hm : σ2.m = σ.m) : ∀ (xs : List Lf) (k : List V → Option X), lvK σ2 xs k = lvK σ xs k
  | [], k => rfl
  | x :: xs, k => by
    simp only [lvK, lfK_m hm]
    congr 1
    funext y
    exact lvK_m hm xs _
theorem argK_m {σ2 : S} (hm : σ2.m = σ.m) (x : A) (k : Pt → Option X) : argK σ2 x k = argK σ x k := by
  cases x <;> simp only [argK, lvK_m hm]
theorem argsK_c {σ2 : S} (hm : σ2.m = σ.m) : ∀ (xs : List Operand) (k : List Pt → Option X), (∀ x ∈ xs, opd σ2 x = opd σ x) → argsK σ2 xs k = argsK σ xs k
  | [], k, _ => rfl
  | x :: xs, k, h => by
    simp only [argsK, argK_m hm, h x (.head _)]
    congr 1
    funext p
    exact argsK_c hm xs _ (fun y hy => h y (.tail _ hy))
theorem valK_c {σ2 : S} (op : Op) (hm : σ2.m = σ.m) (h : ∀ x ∈ op.operands, opd σ2 x = opd σ x) (k : A → Option X) : valK P σ2 op k = valK P σ op k := by
  unfold valK
  split
  · rw [h _ (by simp [Op.operands])]
  · rw [h _ (by simp [Op.operands])]
  · rename_i c x y; rw [h c (by simp [Op.operands]), h x (by simp [Op.operands]), h y (by simp [Op.operands])]
  · rename_i t parts
    exact buildK_c t _ (fun p hp => h p.2 (by simp only [Op.operands]; exact List.mem_toArray.2 (List.mem_map_of_mem (f := (·.2)) hp))) k
  · rename_i t x; rw [h x (by simp [Op.operands]), loadK_m hm]
  · rename_i op t x y yt; rw [h x (by simp [Op.operands]), h y (by simp [Op.operands])]
  · rename_i op t x; rw [h x (by simp [Op.operands])]
  · rename_i s d x; rw [h x (by simp [Op.operands])]
  · rename_i s x f; rw [h x (by simp [Op.operands])]
  · rename_i s x f; rw [h x (by simp [Op.operands])]
  · rename_i t x i; rw [h x (by simp [Op.operands]), h i (by simp [Op.operands]), idxK_m hm]
  · rename_i t x i; rw [h x (by simp [Op.operands]), h i (by simp [Op.operands])]
  · rename_i x i; rw [h x (by simp [Op.operands])]
  · rename_i x; rw [h x (by simp [Op.operands])]
  · rename_i x t; rw [h x (by simp [Op.operands, Call.operands]), lenK_m hm]
  · rename_i x y t t'; rw [h x (by simp [Op.operands, Call.operands]), h y (by simp [Op.operands, Call.operands])]
  · rename_i x y t t'; rw [h x (by simp [Op.operands, Call.operands]), h y (by simp [Op.operands, Call.operands])]
  · rfl
/-! .. and a root that it does not name is of no account. -/
def mroot (n : Nat) (x : Root) (m : Nat → Option Root) : Nat → Option Root := upd (fun r => bif Nat.beq r n then none else (m r).map (Root.drop n)) n (some x)
theorem mroot_sl {n : Nat} {x : Root} {m : Nat → Option Root} {q : Nat} (h : q ≠ n) : mroot n x m q = (m q).map (Root.drop n) := by
  have hb : Nat.beq q n = false := by
    cases hb : Nat.beq q n with
    | false => rfl
    | true => exact absurd (Nat.eq_of_beq_eq_true hb) h
  unfold mroot
  rw [upd_ne _ _ _ h, hb]
  rfl
theorem getK_root {n : Nat} {x : Root} {m : Nat → Option Root} : ∀ (q : List Nat) (k : V → Option X), lastIs n q = false → getK (mroot n x m) q k = getK m q k
  | [], _, _ => rfl
  | [y], k, h => by
    have hy : y ≠ n := by rintro rfl; simp [lastIs] at h
    simp only [getK, mroot_sl hy]
    cases m y with
    | none => rfl
    | some z => cases z <;> rfl
  | [_, _], _, _ => rfl
  | [j, i, s], k, h => rfl
  | j :: i :: s :: q0 :: q, k, h => by
    have h' : lastIs n (q0 :: q) = false := by simpa [lastIs] using h
    simp only [getK]
    exact getK_root (q0 :: q) _ h'
theorem finK_drop {n : Nat} {t : TypeId} {cs : List Lf} {y : A} (h : Det (fun X k => finK (X := X) P t cs k) y) : Det (fun X k => finK (X := X) P t (cs.map (Lf.drop n)) k) (y.drop n) := by
  have h1 := h.at_ (X := A) (fun z => some z)
  unfold finK at h1
  split at h1
  · rename_i sz hsz
    split at h1
    · rename_i hl
      split at h1
      · rename_i hr
        injection h1 with h1
        subst h1
        intro X k
        simp only [finK, hsz, List.length_map, if_pos hl, hr]
        rfl
      · rename_i hr
        split at h1
        · rename_i z
          injection h1 with h1
          subst h1
          intro X k
          simp only [List.length_singleton] at hl
          simp only [finK, hsz, List.map_cons, List.map_nil, List.length_singleton, if_pos hl, hr]
          rfl
        · cases h1
      · cases h1
    · cases h1
  · cases h1
theorem nr_bptr {p : Nat → Bool} {r j n : Nat} (h : (A.bptr r j).nr p = true) (hn : p n = true) : r ≠ n := by
  rintro rfl
  have h : (!p r) = true := h
  rw [hn] at h
  cases h
theorem valK_root {p : Nat → Bool} {n : Nat} {x : Root} {op : Op} {v : A} (h : Det (fun X k => valK (X := X) P σ op k) v) (hn : p n = true) (hops : ∀ y ∈ op.operands, (opd σ y).nr p = true) (hv : v.nr p = true) :
    Det (fun X k => valK (X := X) P ((σ.drop n).root n x) op k) v := by
  have ho : ∀ y ∈ op.operands, opd ((σ.drop n).root n x) y = opd σ y := by
    intro y hy
    have := A.nr_drop (hops y hy) hn
    cases y with
    | tmp t => exact this
    | const v => rfl
    | global g => rfl
    | func f => rfl
  have hm : ((σ.drop n).root n x).m = mroot n x σ.m := rfl
  have hvd := A.nr_drop hv hn
  have hot : ∀ y ∈ op.operands, opd ⟨((σ.drop n).root n x).t, σ.m⟩ y = opd σ y := by
    intro y hy
    rw [← ho y hy]
    cases y <;> rfl
  -- an operation that does not look at the roots
  have easy : (∀ (X : Type) (k : A → Option X), valK P ⟨((σ.drop n).root n x).t, σ.m⟩ op k = valK P ((σ.drop n).root n x) op k) → Det (fun X k => valK (X := X) P ((σ.drop n).root n x) op k) v := by
    intro he X k
    exact (he X k).symm.trans ((valK_c (σ := σ) (σ2 := ⟨((σ.drop n).root n x).t, σ.m⟩) op rfl hot k).trans (h.at_ k))
  have h0 := h.at_ (X := A) (fun z => some z)
  unfold valK at h0
  split at h0
  case h_5 t y =>
    intro X k
    have hy := hops y (by simp [Op.operands])
    have hoy := ho y (by simp [Op.operands])
    simp only [valK]
    rw [hoy]
    generalize opd σ y = u at h0 hy
    have hd : Det (fun X k => loadK (X := X) P σ t u k) v := by
      obtain ⟨y', h1, h2⟩ := loadK_det h0
      injection h1 with h1
      subst h1
      exact h2
    unfold loadK at h0 ⊢
    split at h0
    · cases h0
    · rename_i sz hsz
      split at h0
      · rename_i r' j
        split at h0
        · rename_i cs hcs
          obtain ⟨y', h1, h2⟩ := finK_det h0
          injection h1 with h1
          subst h1
          have h3 := finK_drop (n := n) h2
          rw [hvd] at h3
          rw [hm, mroot_sl (nr_bptr hy hn), hcs]
          simp only [Option.map_some, Root.drop]
          rw [← List.map_drop, ← List.map_take]
          exact h3.at_ k
        · cases h0
      · obtain ⟨y', h1, h2⟩ := finK_det h0
        injection h1 with h1
        subst h1
        exact h2.at_ k
      · rename_i j i s q
        have hq : lastIs n q = false := by
          have hk : keyNr p (j :: i :: s :: q) = true := hy
          have := keyNr_last hk hn
          cases q with
          | nil =>
            obtain ⟨z, _, hg, _⟩ := getK_det _ _ h0
            cases hg
          | cons q0 q => simpa [lastIs] using this
        rw [hm, getK_root q _ hq]
        have h3 := hd.at_ k
        unfold loadK at h3
        rw [hsz] at h3
        exact h3
      · cases h0
  case h_11 t y i =>
    intro X k
    have hy := hops y (by simp [Op.operands])
    have hoy := ho y (by simp [Op.operands])
    have hoi := ho i (by simp [Op.operands])
    have h1 := h.at_ k
    simp only [valK] at h1 ⊢
    rw [hoy, hoi, ← h1]
    generalize opd σ y = u at hy
    unfold idxK
    split
    · rfl
    · split
      · split
        · rfl
        · rename_i q
          have hk : keyNr p q = true := hy
          rw [hm, getK_root q _ (keyNr_last hk hn)]
        · rfl
      · rfl
  case h_15 y t =>
    intro X k
    have hy := hops y (by simp [Op.operands, Call.operands])
    have hoy := ho y (by simp [Op.operands, Call.operands])
    have h1 := h.at_ k
    simp only [valK] at h1 ⊢
    rw [hoy, ← h1]
    generalize opd σ y = u at hy
    unfold lenK
    split
    · rename_i z
      cases z with
      | own q =>
        have hk : keyNr p q = true := hy
        simp only [lfK]
        rw [hm, getK_root q _ (keyNr_last hk hn)]
      | v z => rfl
      | dead => rfl
    · rfl
  case h_18 => cases h0
  all_goals exact easy fun X k => rfl
end
end Go.Proofs.Ytkgliadgedamiaa
