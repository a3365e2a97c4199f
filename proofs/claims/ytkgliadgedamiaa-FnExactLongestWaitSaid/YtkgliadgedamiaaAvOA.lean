/-
  The operations by contents give one thing, whatever comes behind. Nothing here is a claim.
-/
import Derived.Test.YtkgliadgedamiaaAvO
namespace Go.Proofs.Ytkgliadgedamiaa
open Go.RowKit
set_option linter.unusedVariables false

/-- f gives y to whatever comes behind. -/
def Det {α : Type} (f : (X : Type) → (α → Option X) → Option X) (y : α) : Prop := ∀ (X : Type) (k : α → Option X), f X k = k y
section
variable {P : Program} {N : Nat} {σ : S} {X : Type} {r : X} {d : Nat} {m : Nat → Option Root}

theorem getK_det : ∀ (q : List Nat) (k : V → Option X), getK m q k = some r → ∃ y, k y = some r ∧ Get m q y ∧ Det (fun X k => getK (X := X) m q k) y
  | [], _, h => by simp [getK] at h
  | [x], k, h => by
    simp only [getK] at h
    split at h
    · rename_i y hy; exact ⟨y, h, .root x y hy, fun X k => by simp only [getK, hy]⟩
    · cases h
  | [_, _], _, h => by simp [getK] at h
  | j :: i :: s :: q, k, h => by
    simp only [getK] at h
    obtain ⟨y, h2, hg, hd⟩ := getK_det q _ h
    clear h
    split at h2
    · split at h2
      · rename_i hs
        subst hs
        split at h2
        · rename_i hi
          split at h2
          · rename_i z hz
            exact ⟨z, h2, .elem j i q _ _ _ _ z hg hi hz, fun X k => by
              simp only [getK]
              exact (hd X _).trans (by simp only [if_true, dif_pos hi, hz])⟩
          · cases h2
        · cases h2
      · cases h2
    · cases h2
theorem lfK_det {x : Lf} {k : V → Option X} (h : lfK σ x k = some r) : ∃ y, k y = some r ∧ Det (fun X k => lfK (X := X) σ x k) y := by
  cases x with
  | v z => exact ⟨z, h, fun X k => rfl⟩
  | own q => obtain ⟨y, h1, _, h2⟩ := getK_det q k h; exact ⟨y, h1, h2⟩
  | dead => cases h
theorem vK_det {x : A} {k : V → Option X} (h : vK x k = some r) : ∃ y, k y = some r ∧ Det (fun X k => vK (X := X) x k) y := by
  obtain ⟨y, rfl, h⟩ := vK_ok h
  exact ⟨y, h, fun X k => rfl⟩
theorem binK_det {ty : TypeId} {op : BinOp} {x y : V} {k : V → Option X} (h : binK P ty op x y k = some r) : ∃ z, k z = some r ∧ Det (fun X k => binK (X := X) P ty op x y k) z := by
  unfold binK at h
  split at h
  · rename_i kx a ky b
    split at h
    · split at h
      · cases h
      · rename_i hb; exact ⟨_, h, fun X k => by simp only [binK, if_neg hb]⟩
    · split at h
      · cases h
      · rename_i hb; exact ⟨_, h, fun X k => by simp only [binK, if_neg hb]⟩
    · rename_i h1 h2
      split at h
      · rename_i hk
        subst hk
        cases op
        case shl => exact absurd rfl h1
        case shr => exact absurd rfl h2
        case quo =>
          by_cases hb : b = 0
          · simp only [hb, if_true] at h; cases h
          · simp only [hb, if_false] at h; exact ⟨_, h, fun X k => by simp only [binK, if_true, if_neg hb]⟩
        case rem =>
          by_cases hb : b = 0
          · simp only [hb, if_true] at h; cases h
          · simp only [hb, if_false] at h; exact ⟨_, h, fun X k => by simp only [binK, if_true, if_neg hb]⟩
        all_goals first
          | (refine ⟨_, h, fun X k => ?_⟩; simp only [binK, if_true]; done)
          | cases h
      · cases h
  · split at h
    · rename_i hty
      split at h
      · exact ⟨_, h, fun X k => by simp only [binK, hty]⟩
      · exact ⟨_, h, fun X k => by simp only [binK, hty]⟩
      · cases h
    · cases h
  · rename_i a b
    split at h
    · cases hL : okLen (a.size + b.size) with
      | false => rw [hL] at h; cases h
      | true => rw [hL] at h; exact ⟨_, h, fun X k => by simp only [binK, hL, cond_true]⟩
    · exact ⟨_, h, fun X k => by simp only [binK]⟩
    · exact ⟨_, h, fun X k => by simp only [binK]⟩
    · cases h
  · cases h
theorem unK_det {op : UnOp} {x : V} {k : V → Option X} (h : unK op x k = some r) : ∃ z, k z = some r ∧ Det (fun X k => unK (X := X) op x k) z := by
  unfold unK at h
  split at h
  · exact ⟨_, h, fun X k => rfl⟩
  · exact ⟨_, h, fun X k => rfl⟩
  · cases h
theorem finK_det {t : TypeId} {cs : List Lf} {k : A → Option X} (h : finK P t cs k = some r) : ∃ y, k y = some r ∧ Det (fun X k => finK (X := X) P t cs k) y := by
  unfold finK at h
  split at h
  · rename_i n hn
    split at h
    · rename_i hl
      split at h
      · rename_i hr; exact ⟨_, h, fun X k => by simp only [finK, hn, if_pos hl, hr]⟩
      · rename_i hr
        split at h
        · exact ⟨_, h, fun X k => by simp only [finK, hn, if_pos hl, hr]⟩
        · cases h
      · cases h
    · cases h
  · cases h
theorem loadK_det {t : TypeId} {x : A} {k : A → Option X} (h : loadK P σ t x k = some r) : ∃ y, k y = some r ∧ Det (fun X k => loadK (X := X) P σ t x k) y := by
  unfold loadK at h
  split at h
  · cases h
  · rename_i n hn
    split at h
    · split at h
      · rename_i cs hcs
        obtain ⟨y, h1, h2⟩ := finK_det h
        exact ⟨y, h1, fun X k => by simp only [loadK, hn, hcs]; exact h2 X k⟩
      · cases h
    · obtain ⟨y, h1, h2⟩ := finK_det h
      exact ⟨y, h1, fun X k => by simp only [loadK, hn]; exact h2 X k⟩
    · rename_i j i s q
      obtain ⟨z, h2, _, hd⟩ := getK_det _ _ h
      clear h
      split at h2
      · split at h2
        · rename_i hs
          split at h2
          · rename_i hi
            obtain ⟨y, h3, h4⟩ := finK_det h2
            exact ⟨y, h3, fun X k => by
              simp only [loadK, hn]
              exact (hd X _).trans (by simp only [if_pos hs, dif_pos hi]; exact h4 X k)⟩
          · cases h2
        · cases h2
      · cases h2
    · cases h
theorem fieldK_det {s : TypeId} {x : A} {f : Nat} {k : A → Option X} (h : fieldK P s x f k = some r) : ∃ y, k y = some r ∧ Det (fun X k => fieldK (X := X) P s x f k) y := by
  unfold fieldK at h
  split at h
  · cases h
  · rename_i fd hfd
    split at h
    · rename_i n hn
      split at h
      · exact ⟨_, h, fun X k => by simp only [fieldK, hfd, hn]⟩
      · exact ⟨_, h, fun X k => by simp only [fieldK, hfd, hn]⟩
      · exact ⟨_, h, fun X k => by simp only [fieldK, hfd, hn]⟩
      · cases h
    · cases h
theorem idxK_det {t : TypeId} {x i : A} {k : A → Option X} (h : idxK P σ t x i k = some r) : ∃ y, k y = some r ∧ Det (fun X k => idxK (X := X) P σ t x i k) y := by
  unfold idxK at h
  split at h
  · cases h
  · rename_i e he
    split at h
    · rename_i n kk iv hn
      split at h
      · rename_i t' g qn l
        split at h
        · rename_i hnc
          cases hg : Nat.blt g 2 with
          | false => rw [hg] at h; cases h
          | true =>
            rw [hg, cond_true] at h
            split at h
            · rename_i hb
              exact ⟨_, h, fun X k => by simp only [idxK, he, hn, if_pos hnc, hg, cond_true, dif_pos hb]⟩
            · cases h
        · cases h
      · rename_i q
        obtain ⟨z, h2, _, hd⟩ := getK_det _ _ h
        clear h
        split at h2
        · split at h2
          · rename_i hnc
            split at h2
            · rename_i hb
              exact ⟨_, h2, fun X k => by
                simp only [idxK, he, hn]
                exact (hd X _).trans (by simp only [if_pos hnc, dif_pos hb])⟩
            · cases h2
          · cases h2
        · cases h2
      · cases h
    · cases h
theorem lenK_det {t : TypeId} {x : A} {k : A → Option X} (h : lenK P σ t x k = some r) : ∃ y, k y = some r ∧ Det (fun X k => lenK (X := X) P σ t x k) y := by
  unfold lenK at h
  split at h
  · obtain ⟨z, h2, hd⟩ := lfK_det h
    clear h
    split at h2
    · split at h2
      · rename_i he
        exact ⟨_, h2, fun X k => by simp only [lenK]; exact (hd X _).trans (by simp only [he])⟩
      · cases h2
    · split at h2
      · rename_i he
        exact ⟨_, h2, fun X k => by simp only [lenK]; exact (hd X _).trans (by simp only [he])⟩
      · cases h2
    · split at h2
      · rename_i he
        exact ⟨_, h2, fun X k => by simp only [lenK]; exact (hd X _).trans (by simp only [he])⟩
      · cases h2
    · cases h2
  · cases h
theorem extK_det {x : A} {i : Nat} {k : A → Option X} (h : extK x i k = some r) : ∃ y, k y = some r ∧ Det (fun X k => extK (X := X) x i k) y := by
  unfold extK at h
  split at h
  · split at h
    · rename_i y hy; exact ⟨y, h, fun X k => by simp only [extK, hy]⟩
    · cases h
  · cases h
theorem buildK_det {t : TypeId} {parts : List (Nat × Operand)} {k : A → Option X} (h : buildK P σ t parts k = some r) : ∃ y, k y = some r ∧ Det (fun X k => buildK (X := X) P σ t parts k) y := by
  unfold buildK at h
  split at h
  · rename_i z pl hz hpl
    split at h
    · rename_i cs hcs; exact ⟨_, h, fun X k => by simp only [buildK, hz, hpl, hcs]⟩
    · cases h
  · cases h
theorem partK_det {s : TypeId} {x : A} {f : Nat} {k : A → Option X} (h : partK P s x f k = some r) : ∃ y, k y = some r ∧ Det (fun X k => partK (X := X) P s x f k) y := by
  unfold partK at h
  split at h
  · rename_i fd cs hfd
    split at h
    · rename_i n hn hr
      split at h
      · rename_i hle; exact ⟨_, h, fun X k => by simp only [partK, hfd, hn, hr, if_pos hle]⟩
      · cases h
    · rename_i n hn hr
      split at h
      · rename_i y hy; exact ⟨_, h, fun X k => by simp only [partK, hfd, hn, hr, hy]⟩
      · cases h
    · cases h
  · cases h
theorem mmK_det {mx : Bool} {x y : A} {k : A → Option X} (h : mmK mx x y k = some r) : ∃ z, k z = some r ∧ Det (fun X k => mmK (X := X) mx x y k) z := by
  unfold mmK at h
  split at h
  · exact ⟨_, h, fun X k => rfl⟩
  · cases h
theorem strIdxK_det {t : TypeId} {x i : A} {k : A → Option X} (h : strIdxK P t x i k = some r) : ∃ z, k z = some r ∧ Det (fun X k => strIdxK (X := X) P t x i k) z := by
  unfold strIdxK at h
  split at h
  · split at h
    · rename_i hu
      split at h
      · rename_i hb; exact ⟨_, h, fun X k => by simp only [strIdxK, hu, dif_pos hb]⟩
      · cases h
    · cases h
  · cases h
theorem convK_det {src dst : TypeId} {x : A} {k : A → Option X} (h : convK P src dst x k = some r) : ∃ z, k z = some r ∧ Det (fun X k => convK (X := X) P src dst x k) z := by
  unfold convK at h
  split at h
  · split at h
    · rename_i d1 kd h1 h2; exact ⟨_, h, fun X k => by simp only [convK, h1, h2]⟩
    · cases h
  · cases h
end
end Go.Proofs.Ytkgliadgedamiaa
