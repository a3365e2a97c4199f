/-
  The operations that make or write memory give one state, whatever comes behind; states that do not name a root. Nothing here is a claim.
-/
import Derived.Test.YtkgliadgedamiaaAvOA
namespace Go.Proofs.Ytkgliadgedamiaa
open Go.RowKit
set_option linter.unusedVariables false

section
variable {P : Program} {N : Nat} {σ : S} {X : Type} {r : X} {d : Nat} {m : Nat → Option Root} {o : Oper}

theorem Det.at_ {α : Type} {f : (X : Type) → (α → Option X) → Option X} {y : α} (h : Det f y) {X : Type} (k : α → Option X) : f X k = k y := h X k
theorem putK_det {dst : Option Tmp} {x : A} {k : S → Option X} (h : putK N σ dst x k = some r) : ∃ τ, k τ = some r ∧ Det (fun X k => putK (X := X) N σ dst x k) τ := by
  unfold putK at h
  split at h
  · exact ⟨_, h, fun X k => rfl⟩
  · rename_i d
    cases hN : Nat.blt d N with
    | false => rw [hN] at h; cases h
    | true => rw [hN] at h; exact ⟨_, h, fun X k => by simp only [putK, hN, cond_true]⟩
theorem newK_det {x : Root} {y : A} {k : S → Option X} (h : newK N σ d x y k = some r) : k (((σ.drop d).root d x).set d y) = some r ∧ Det (fun X k => newK (X := X) N σ d x y k) (((σ.drop d).root d x).set d y) := by
  unfold newK at h
  cases hN : Nat.blt d N with
  | false => rw [hN] at h; cases h
  | true => rw [hN] at h; exact ⟨h, fun X k => by simp only [newK, hN, cond_true]⟩
theorem allocK_det {e : TypeId} {k : S → Option X} (h : allocK P N σ d e k = some r) : ∃ x y, k (((σ.drop d).root d x).set d y) = some r ∧ y = .bptr d 0 ∧ (∀ (σ' : S), Det (fun X k => allocK (X := X) P N σ' d e k) (((σ'.drop d).root d x).set d y)) := by
  unfold allocK at h
  split at h
  · rename_i z hz
    obtain ⟨h1, _⟩ := newK_det h
    refine ⟨_, _, h1, rfl, fun σ' X k => ?_⟩
    obtain ⟨hN, _⟩ := newK_ok h
    have hb : Nat.blt d N = true := Nat.ble_eq_true_of_le hN
    simp only [allocK, hz, newK, hb, cond_true]
  · cases h
theorem makeK_det {t : TypeId} {l c : A} {k : S → Option X} (h : makeK P N σ d t l c k = some r) : ∃ y, k (((σ.drop d).root d (.sl y)).set d (.lf (.own [d]))) = some r ∧ (∀ (σ' : S), Det (fun X k => makeK (X := X) P N σ' d t l c k) (((σ'.drop d).root d (.sl y)).set d (.lf (.own [d])))) := by
  unfold makeK at h
  split at h
  · rename_i e tc kl n kc c hei
    split at h
    · cases h
    · rename_i z hz
      split at h
      · rename_i hb
        obtain ⟨h1, _⟩ := newK_det h
        refine ⟨_, h1, fun σ' X k => ?_⟩
        obtain ⟨hN, _⟩ := newK_ok h
        have hb2 : Nat.blt d N = true := Nat.ble_eq_true_of_le hN
        simp only [makeK, hei, hz, if_pos hb, newK, hb2, cond_true]
      · cases h
  · cases h
theorem buildSK_det {t : TypeId} {len : Nat} {parts : List (Nat × Operand)} {k : S → Option X} (h : buildSK P N σ d t len parts k = some r) : ∃ y, k (((σ.drop d).root d (.sl y)).set d (.lf (.own [d]))) = some r ∧
    (∀ (σ' : S), (∀ p ∈ parts, opd σ' p.2 = opd σ p.2) → Det (fun X k => buildSK (X := X) P N σ' d t len parts k) (((σ'.drop d).root d (.sl y)).set d (.lf (.own [d])))) := by
  unfold buildSK at h
  split at h
  · rename_i e tc hei
    split at h
    · rename_i z hz
      cases hc : (Nat.beq (full tc) 0 && Nat.beq z.cells.size (csz tc) && Nat.blt (len * csz tc) 16777217) with
      | false => rw [hc] at h; cases h
      | true =>
        rw [hc, cond_true] at h
        split at h
        · rename_i cs hcs
          split at h
          · rename_i vs hvs
            split at h
            · rename_i l hl
              obtain ⟨h1, _⟩ := newK_det h
              refine ⟨_, h1, fun σ' hσ X k => ?_⟩
              obtain ⟨hN, _⟩ := newK_ok h
              have hb2 : Nat.blt d N = true := Nat.ble_eq_true_of_le hN
              have e : (parts.map fun p => (p.1, opd σ' p.2)) = parts.map fun p => (p.1, opd σ p.2) := List.map_congr_left fun p hp => by rw [hσ p hp]
              simp only [buildSK, hei, hz, hc, cond_true, e, hcs, hvs, hl, newK, hb2]
            · cases h
          · cases h
        · cases h
    · cases h
  · cases h
theorem appK_det {t : TypeId} {x y : A} {k : S → Option X} (h : appK P N σ d t x y k = some r) : ∃ τ, k τ = some r ∧ Det (fun X k => appK (X := X) P N σ d t x y k) τ := by
  unfold appK at h
  split at h
  · rename_i e tc yl hei
    cases hc : (Nat.beq (full tc) 0 && (zeroOf P e).any (fun z => Nat.beq z.cells.size (csz tc))) with
    | false => rw [hc] at h; cases h
    | true =>
      rw [hc, cond_true] at h
      obtain ⟨yv, h2, hd⟩ := lfK_det h
      clear h
      split at h2
      · cases h2
      · rename_i l2 hl2
        split at h2
        · cases hL : okLen l2.length with
          | false => rw [hL] at h2; cases h2
          | true =>
            rw [hL, cond_true] at h2
            obtain ⟨h3, h4⟩ := newK_det h2
            exact ⟨_, h3, fun X k => by
              simp only [appK, hei, hc, cond_true]
              exact (hd.at_ _).trans (by simp only [hl2, hL, cond_true]; exact h4 X k)⟩
        · rename_i rr
          split at h2
          · rename_i t' o q l hm
            split at h2
            · rename_i htt
              cases hL : (Nat.blt d N && okLen (l.length + l2.length)) with
              | false => rw [hL] at h2; cases h2
              | true =>
                rw [hL, cond_true] at h2
                exact ⟨_, h2, fun X k => by
                  simp only [appK, hei, hc, cond_true]
                  exact (hd.at_ _).trans (by simp only [hl2, hm, dif_pos htt, hL, cond_true])⟩
            · cases h2
          · cases h2
        · cases h2
  · cases h
theorem putM_det : ∀ (q : List Nat) (y : V) (k : (Nat → Option Root) → Option X), putM m q y k = some r → ∃ m', k m' = some r ∧ Det (fun X k => putM (X := X) m q y k) m'
  | [], _, _, h => by simp [putM] at h
  | [x], y, k, h => by
    simp only [putM] at h
    split at h
    · rename_i y0 hy; exact ⟨_, h, fun X k => by simp only [putM, hy]⟩
    · cases h
  | [_, _], _, _, h => by simp [putM] at h
  | j :: i :: s :: q, y, k, h => by
    simp only [putM] at h
    obtain ⟨z, h2, _, hd⟩ := getK_det q _ h
    clear h
    split at h2
    · split at h2
      · rename_i hs
        split at h2
        · rename_i hi
          split at h2
          · rename_i hj
            split at h2
            · rename_i e he
              obtain ⟨m', h3, h4⟩ := putM_det q _ k h2
              exact ⟨m', h3, fun X k => by
                simp only [putM]
                exact (hd.at_ _).trans (by simp only [if_pos hs, dif_pos hi, if_pos hj, he]; exact h4 X k)⟩
            · cases h2
          · cases h2
        · cases h2
      · cases h2
    · cases h2
theorem storeK_det {t : TypeId} {x y : A} {k : S → Option X} (h : storeK P σ t x y k = some r) : ∃ τ, k τ = some r ∧ Det (fun X k => storeK (X := X) P σ t x y k) τ := by
  unfold storeK at h
  split at h
  · rename_i n xs hn hxs
    split at h
    · rename_i hlen
      split at h
      · rename_i r' j
        split at h
        · rename_i cs hcs
          split at h
          · rename_i hj
            cases hl : xs.all Lf.live with
            | false => rw [hl] at h; cases h
            | true => rw [hl] at h; exact ⟨_, h, fun X k => by simp only [storeK, hn, hxs, if_pos hlen, hcs, if_pos hj, hl, cond_true]⟩
          · cases h
        · cases h
      · rename_i j i s q
        split at h
        · cases h
        · rename_i vs hvs
          obtain ⟨y0, h2, hg0, hd⟩ := getK_det _ _ h
          clear h
          split at h2
          · rename_i t' o' qn l
            split at h2
            · rename_i hs
              split at h2
              · rename_i hi
                split at h2
                · rename_i hj
                  cases hold : (((enc t' o' l[i]).drop j).take vs.length).all V.plain with
                  | false => rw [hold] at h2; cases h2
                  | true =>
                    rw [hold, cond_true] at h2
                    split at h2
                    · rename_i e he
                      obtain ⟨m', h3, h4⟩ := putM_det q _ _ h2
                      exact ⟨_, h3, fun X k => by
                        simp only [storeK, hn, hxs, if_pos hlen, hvs]
                        exact (hd.at_ _).trans (by simp only [if_pos hs, dif_pos hi, if_pos hj, hold, cond_true, he]; exact h4.at_ _)⟩
                    · cases h2
                · cases h2
              · cases h2
            · cases h2
          · cases h2
      · cases h
    · cases h
  · cases h
theorem lvK_det : ∀ (xs : List Lf) (k : List V → Option X), lvK σ xs k = some r → ∃ vs, k vs = some r ∧ Det (fun X k => lvK (X := X) σ xs k) vs
  | [], k, h => ⟨[], h, fun X k => rfl⟩
  | x :: xs, k, h => by
    unfold lvK at h
    obtain ⟨y, h2, hd⟩ := lfK_det h
    obtain ⟨ys, h3, hd2⟩ := lvK_det xs _ h2
    exact ⟨_, h3, fun X k => by
      simp only [lvK]
      exact (hd.at_ _).trans (hd2.at_ _)⟩
theorem argK_det {x : A} {k : Pt → Option X} (h : argK σ x k = some r) : ∃ p, k p = some r ∧ Det (fun X k => argK (X := X) σ x k) p := by
  unfold argK at h
  split at h
  · obtain ⟨vs, h2, hd⟩ := lvK_det _ _ h; exact ⟨_, h2, fun X k => by simp only [argK]; exact hd.at_ _⟩
  · obtain ⟨vs, h2, hd⟩ := lvK_det _ _ h; exact ⟨_, h2, fun X k => by simp only [argK]; exact hd.at_ _⟩
  · cases h
theorem argsK_det : ∀ (xs : List Operand) (k : List Pt → Option X), argsK σ xs k = some r → ∃ ps, k ps = some r ∧ Det (fun X k => argsK (X := X) σ xs k) ps
  | [], k, h => ⟨[], h, fun X k => rfl⟩
  | x :: xs, k, h => by
    unfold argsK at h
    obtain ⟨p, h2, hd⟩ := argK_det h
    obtain ⟨ps, h3, hd2⟩ := argsK_det xs _ h2
    exact ⟨_, h3, fun X k => by
      simp only [argsK]
      exact (hd.at_ _).trans (hd2.at_ _)⟩
/-- What a call does to a state. -/
def callS (d : Nat) (res : Res) (σ : S) : Option S := match res with
  | .one p => match partA (p.1, resLf (100000 + 1000 * d) p.2) with
    | some y => some ((resRt (100000 + 1000 * d) σ p.2).set d y)
    | none => none
  | .tup ps => some ((resRs (100000 + 1000 * d) σ ps).set d (.tup (resLs (100000 + 1000 * d) ps)))
theorem callK_det {f : Nat} {c : Ctr} {args : List Operand} {k : S → Option X} (hc : CtrOK P f c) (h : callK N σ d c args k = some r) : ∃ res τ, callS d res σ = some τ ∧ k τ = some r ∧
    (∀ σ' τ', (∀ (X : Type) (k : List Pt → Option X), argsK σ' args k = argsK σ args k) → callS d res σ' = some τ' → Det (fun X k => callK (X := X) N σ' d c args k) τ') := by
  unfold callK at h
  cases hN : Nat.blt d N with
  | false => rw [hN] at h; cases h
  | true =>
    rw [hN, cond_true] at h
    obtain ⟨ps, h2, hd⟩ := argsK_det _ _ h
    obtain ⟨res, h3, hd2, _⟩ := hc X ps _ r h2
    have step : ∀ σ' τ', (∀ (X : Type) (k : List Pt → Option X), argsK σ' args k = argsK σ args k) → callS d res σ' = some τ' → Det (fun X k => callK (X := X) N σ' d c args k) τ' := by
      intro σ' τ' ha hτ X k
      simp only [callK, hN, cond_true]
      rw [ha]
      refine (hd.at_ _).trans ((hd2 X _).trans ?_)
      unfold callS at hτ
      cases res with
      | one p =>
        simp only at hτ ⊢
        split at hτ
        · rename_i y hy
          injection hτ with hτ
          subst hτ
          simp only [hy]
        · cases hτ
      | tup ps' =>
        injection hτ with hτ
        subst hτ
        rfl
    cases res with
    | one p =>
      simp only at h3
      split at h3
      · rename_i y hy
        exact ⟨.one p, _, by simp only [callS, hy], h3, step⟩
      · cases h3
    | tup ps' => exact ⟨.tup ps', _, rfl, h3, step⟩

/-! Keys that do not end in certain names. -/
def keyNr (p : Nat → Bool) (k : List Nat) : Bool := match k.getLast? with
  | some r => !p r
  | none => true
def Lf.nr (p : Nat → Bool) : Lf → Bool
  | .own k => keyNr p k
  | _ => true
def A.nr (p : Nat → Bool) : A → Bool
  | .lf x => x.nr p
  | .agg cs => cs.all (Lf.nr p)
  | .tup xs => xs.all fun q => q.2.all (Lf.nr p)
  | .ptr k => keyNr p k
  | .bptr r _ => !p r
  | .fn _ cap => cap.all fun q => !p q.1
  | _ => true
theorem keyNr_last {p : Nat → Bool} {k : List Nat} {n : Nat} (h : keyNr p k = true) (hn : p n = true) : lastIs n k = false := by
  unfold keyNr at h
  unfold lastIs
  split at h
  · rename_i r hr
    rw [hr]
    have : r ≠ n := by rintro rfl; simp [hn] at h
    simpa using this
  · rename_i hr; rw [hr]; rfl
theorem Lf.nr_drop {p : Nat → Bool} {x : Lf} {n : Nat} (h : x.nr p = true) (hn : p n = true) : x.drop n = x := by
  cases x with
  | own k =>
    have e : Lf.drop n (.own k) = (bif lastIs n k then .dead else .own k) := rfl
    rw [e, keyNr_last h hn]
    rfl
  | v x => rfl
  | dead => rfl
theorem Lfs.nr_drop {p : Nat → Bool} {xs : List Lf} {n : Nat} (h : xs.all (Lf.nr p) = true) (hn : p n = true) : xs.map (Lf.drop n) = xs := by
  conv => rhs; rw [← List.map_id xs]
  exact List.map_congr_left fun x hx => Lf.nr_drop (List.all_eq_true.1 h x hx) hn
theorem A.nr_drop {p : Nat → Bool} {x : A} {n : Nat} (h : x.nr p = true) (hn : p n = true) : x.drop n = x := by
  cases x with
  | lf x => exact congrArg A.lf (Lf.nr_drop h hn)
  | agg cs => exact congrArg A.agg (Lfs.nr_drop h hn)
  | tup xs =>
    refine congrArg A.tup ?_
    conv => rhs; rw [← List.map_id xs]
    refine List.map_congr_left fun q hq => ?_
    have := Lfs.nr_drop (List.all_eq_true.1 h q hq) hn
    simp only [id]
    rw [this]
  | ptr k =>
    have e : A.drop n (.ptr k) = (bif lastIs n k then .undef else .ptr k) := rfl
    rw [e, keyNr_last h hn]; rfl
  | bptr r j =>
    have e : A.drop n (.bptr r j) = (bif Nat.beq r n then .undef else .bptr r j) := rfl
    have : Nat.beq r n = false := by
      cases hb : Nat.beq r n with
      | false => rfl
      | true =>
        obtain rfl := Nat.eq_of_beq_eq_true hb
        have h : (!p r) = true := h
        rw [hn] at h; cases h
    rw [e, this]; rfl
  | fn f cap =>
    have e : A.drop n (.fn f cap) = (bif cap.any (fun p => Nat.beq p.1 n) then .undef else .fn f cap) := rfl
    have : cap.any (fun p => Nat.beq p.1 n) = false := by
      rw [List.any_eq_false]
      intro q hq hb
      obtain hb := Nat.eq_of_beq_eq_true hb
      have := List.all_eq_true.1 h q hq
      rw [hb, hn] at this; cases this
    rw [e, this]; rfl
  | _ => rfl

theorem S.ext' {σ τ : S} (h1 : ∀ k, σ.t k = τ.t k) (h2 : ∀ r, σ.m r = τ.m r) : σ = τ := by
  cases σ; cases τ
  simp only [S.mk.injEq]
  exact ⟨funext h1, funext h2⟩
theorem S.set_set {e d : Nat} (h : e ≠ d) (v u : A) : (σ.set d v).set e u = (σ.set e u).set d v := by
  refine S.ext' (fun k => ?_) fun _ => rfl
  show upd (upd σ.t d v) e u k = upd (upd σ.t e u) d v k
  by_cases h1 : k = e
  · subst h1; rw [upd_same, upd_ne _ _ _ h, upd_same]
  · by_cases h2 : k = d
    · subst h2; rw [upd_ne _ _ _ h1, upd_same, upd_same]
    · rw [upd_ne _ _ _ h1, upd_ne _ _ _ h2, upd_ne _ _ _ h2, upd_ne _ _ _ h1]
theorem S.drop_set (n : Nat) {v : A} (hv : v.drop n = v) : (σ.set d v).drop n = (σ.drop n).set d v := by
  refine S.ext' (fun k => ?_) fun _ => rfl
  show (upd σ.t d v k).drop n = upd (fun k => (σ.t k).drop n) d v k
  by_cases h : k = d
  · subst h; rw [upd_same, upd_same, hv]
  · rw [upd_ne _ _ _ h, upd_ne _ _ _ h]
theorem resRt_set (v : A) : ∀ (xs : List V) (c : Nat) (σ : S), (∀ n, c ≤ n → v.drop n = v) → resRt c (σ.set d v) xs = (resRt c σ xs).set d v
  | [], c, σ, h => rfl
  | x :: xs, c, σ, h => by
    simp only [resRt]
    cases hf : x.fro with
    | true =>
      simp only [cond_true]
      exact resRt_set v xs (c + 1) σ (fun n hn => h n (by omega))
    | false =>
      simp only [cond_false]
      rw [S.drop_set c (h c (Nat.le_refl _))]
      exact resRt_set v xs (c + 1) ((σ.drop c).root c (.sl x)) (fun n hn => h n (by omega))
theorem resRs_set (v : A) : ∀ (ps : List Pt) (c : Nat) (σ : S), (∀ n, c ≤ n → v.drop n = v) → resRs c (σ.set d v) ps = (resRs c σ ps).set d v
  | [], c, σ, h => rfl
  | p :: ps, c, σ, h => by
    simp only [resRs]
    rw [resRt_set v p.2 c σ h]
    exact resRs_set v ps _ _ (fun n hn => h n (by omega))
end
end Go.Proofs.Ytkgliadgedamiaa
