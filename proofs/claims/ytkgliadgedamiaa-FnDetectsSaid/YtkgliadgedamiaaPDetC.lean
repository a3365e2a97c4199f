/-
  Encoding by division gives words of the code; two wrong symbols are seen. Nothing here is a claim.
-/
import Derived.Test.YtkgliadgedamiaaPDetB
namespace Go.Proofs.Ytkgliadgedamiaa
open Go.RowKit
set_option linter.unusedVariables false
set_option maxRecDepth 100000

theorem t_onel : (all16 fun a => Nat.beq (gm 1 a) a) = true := by kernel_rfl
theorem gm_onel {a : Nat} (ha : a < 16) : gm 1 a = a := Nat.eq_of_beq_eq_true (all16_ok t_onel ha)
theorem synp_upd {r : List Nat} (hr : Wd16 r) (hl : r.length = 11) {k e : Nat} (he : e < 16) (hk : k < 11) (j : Nat) : synp (r.set k (r.getD k 0 ^^^ e)) j 11 = synp r j 11 ^^^ gm e (pw (k * j)) := by
  rw [synp_set hr he (by omega) j 11, if_neg (by omega)]
theorem synp_inn {r : List Nat} (hr : Wd16 r) (hl : r.length = 11) {m f j : Nat} (hm : m < 8) (hf : f < 16) (hj : j < 3) : synp (inn r m f 4) j 11 = synp r j 11 := by
  have st : ∀ k, k < 4 → synp (inn r m f (k + 1)) j 11 = synp (inn r m f k) j 11 ^^^ gm (gm (byG k) f) (pw ((m + k) * j)) := fun k hk =>
    synp_upd (inn_wd hr m f k) (by rw [inn_len, hl]) (gm_lt _ _) (by omega) j
  have h := List.all_eq_true.1 (all16_ok (List.all_eq_true.1 t_div m (List.mem_range.2 hm)) hf) j (List.mem_range.2 hj)
  have h : gm (gm (byG 0) f) (pw ((m + 0) * j)) ^^^ (gm (gm (byG 1) f) (pw ((m + 1) * j)) ^^^ (gm (gm (byG 2) f) (pw ((m + 2) * j)) ^^^ gm (gm (byG 3) f) (pw ((m + 3) * j)))) = 0 := by
    have e3 : gm (byG 3) f = f := gm_onel hf
    rw [e3]
    exact Nat.eq_of_beq_eq_true h
  rw [st 3 (by decide), st 2 (by decide), st 1 (by decide), st 0 (by decide), Nat.xor_assoc, Nat.xor_assoc, Nat.xor_assoc, h, Nat.xor_zero]
  rfl
theorem synp_out {r : List Nat} (hr : Wd16 r) (hl : r.length = 11) {j : Nat} (hj : j < 3) : ∀ t, t ≤ 8 → synp (out r t) j 11 = synp r j 11
  | 0, _ => rfl
  | t + 1, ht => (synp_inn (out_wd hr t) (by rw [out_len, hl]) (by omega) ((out_wd hr t).get _) hj).trans (synp_out hr hl hj t (by omega))
theorem getD_set (r : List Nat) (k v n : Nat) : (r.set k v).getD n 0 = if n = k ∧ k < r.length then v else r.getD n 0 := by
  simp only [List.getD_eq_getElem?_getD, List.getElem?_set]
  by_cases h : n = k
  · subst h
    by_cases h' : n < r.length
    · simp [h']
    · simp [h']
  · simp [h, Ne.symm h]
theorem inn_hi (r : List Nat) (m f : Nat) : ∀ k n, m + k ≤ n → (inn r m f k).getD n 0 = r.getD n 0
  | 0, n, _ => rfl
  | k + 1, n, h => by
    show (List.set _ _ _).getD n 0 = _
    rw [getD_set, if_neg (by omega), inn_hi r m f k n (by omega)]
theorem inn_top {r : List Nat} {m f : Nat} (h : m + 3 < r.length) : (inn r m f 4).getD (m + 3) 0 = r.getD (m + 3) 0 ^^^ gm (byG 3) f := by
  show (List.set _ _ _).getD (m + 3) 0 = _
  rw [getD_set, if_pos ⟨rfl, by rw [inn_len]; exact h⟩, inn_hi r m f 3 (m + 3) (Nat.le_refl _)]
theorem out_zero {r : List Nat} (hr : Wd16 r) (hl : r.length = 11) : ∀ t, t ≤ 8 → ∀ n, 10 - t < n → n < 11 → (out r t).getD n 0 = 0
  | 0, _, n, h, h' => by omega
  | t + 1, ht, n, h, h' => by
    show (inn (out r t) (7 - t) ((out r t).getD (10 - t) 0) 4).getD n 0 = 0
    by_cases hn : n = 10 - t
    · have e : n = 7 - t + 3 := by omega
      subst e
      rw [inn_top (by rw [out_len, hl]; omega), ← hn]
      have : gm (byG 3) ((out r t).getD (7 - t + 3) 0) = (out r t).getD (7 - t + 3) 0 := gm_onel ((out_wd hr t).get _)
      rw [this, Nat.xor_self]
    · rw [inn_hi _ _ _ 4 n (by omega)]
      exact out_zero hr hl t (by omega) n (by omega) h'
def cpy (w r : List Nat) : Nat → List Nat
  | 0 => w
  | k + 1 => (cpy w r k).set k (r.getD k 0)
theorem cpy_len (w r : List Nat) : ∀ k, (cpy w r k).length = w.length
  | 0 => rfl
  | k + 1 => by show (List.set _ _ _).length = _; rw [List.length_set, cpy_len w r k]
theorem p_cpy {w r : List Nat} (hw : w.length = 11) (hr : r.length = 11) :
    iter Lfs_EncodeSymbols_8 big (((), (), (0 : Int), ()), (toI w, toI r, ())) = some (.inl (((), ()), (toI (cpy w r 3), ()))) := by
  have e := iter_run (step := Lfs_EncodeSymbols_8) (fun i => (((), (), (i : Int), ()), (toI (cpy w r i), toI r, ()))) (z := .inl (((), ()), (toI (cpy w r 3), ()))) 3 0 big (fun k _ hk => ?_) ?_ (by unfold big; omega)
  · exact e
  · unfold Lfs_EncodeSymbols_8
    dsimp only
    have c1 : decide ((k : Int) < (3 : Int)) = true := decide_eq_true (by omega)
    have hk1 : k < (toI r).length := by rw [toI_len]; omega
    have hk2 : k < (toI (cpy w r k)).length := by rw [toI_len, cpy_len]; omega
    have c2 : 0 ≤ (k : Int) ∧ (k : Int).toNat < (toI r).length := ⟨by omega, hk1⟩
    have c3 : 0 ≤ (k : Int) ∧ (k : Int).toNat < (toI (cpy w r k)).length := ⟨by omega, hk2⟩
    have c4 : (toI r)[(k : Int).toNat]'c2.2 = ((r.getD k 0 : Nat) : Int) := toI_get hk1
    rw [c1, cond_true, dif_pos c2, dif_pos c2.2, c4, dif_pos c3, dif_pos c3.2, wrap_succ (by omega)]
    have c5 : (toI (cpy w r k)).set (k : Int).toNat ((r.getD k 0 : Nat) : Int) = toI (cpy w r (k + 1)) := toI_set _ _ _
    rw [c5]
  · unfold Lfs_EncodeSymbols_8
    dsimp only
    rfl
theorem p_senc {d : List Nat} (hd : Wd16 d) (hl : d.length = 8) : ∃ w, fs_EncodeSymbols (toI d) = some (toI w) ∧ w.length = 11 ∧ Wd16 w ∧ synp w 0 11 = 0 ∧ synp w 1 11 = 0 ∧ synp w 2 11 = 0 := by
  have hz : Wd16 (0 :: 0 :: 0 :: d) := by
    intro x hx
    simp only [List.mem_cons] at hx
    rcases hx with rfl | rfl | rfl | hx
    · decide
    · decide
    · decide
    · exact hd x hx
  have hzl : (0 :: 0 :: 0 :: d).length = 11 := by simp [hl]
  have e1 : fs_EncodeSymbols (toI d) = some (toI (cpy (0 :: 0 :: 0 :: d) (out (0 :: 0 :: 0 :: d) 8) 3)) := by
    unfold fs_EncodeSymbols
    have c0 : ((d.length : Int) == (8 : Int)) = true := by rw [hl]; rfl
    have c1 : okLen ((List.replicate (3 : Int).toNat (0 : Int)).length + (toI d).length) = true := by
      rw [toI_len, hl]; rfl
    have c2 : okLen (([] : List Int).length + (toI (0 :: 0 :: 0 :: d)).length) = true := by
      rw [toI_len, hzl]; rfl
    have c3 : IntKind.i64.wrap (((toI (0 :: 0 :: 0 :: d)).length : Int) - (1 : Int)) = 10 := by
      rw [toI_len, hzl]; rfl
    have eW : List.replicate (3 : Int).toNat (0 : Int) ++ toI d = toI (0 :: 0 :: 0 :: d) := rfl
    rw [p_ssymbols hd (by omega), bindS, c0, show (!true) = false from rfl, cond_false, if_pos (by decide), c1, cond_true, eW, t_by, bindS, Sum.elim_inl]
    dsimp only
    rw [List.nil_append, c2, cond_true, c3, p_out hz hzl, bindS, Sum.elim_inl]
    dsimp only
    rw [p_cpy hzl (by rw [out_len, hzl]), bindS, Sum.elim_inl]
  have ho := out_wd hz 8
  have syn : ∀ j, j < 3 → synp (cpy (0 :: 0 :: 0 :: d) (out (0 :: 0 :: 0 :: d) 8) 3) j 11 = 0 := by
    intro j hj
    have h1 := synp_out hz hzl hj 8 (Nat.le_refl _)
    have z := out_zero hz hzl 8 (Nat.le_refl _)
    revert h1 z
    generalize out (0 :: 0 :: 0 :: d) 8 = r
    intro h1 z
    have h2 : synp (cpy (0 :: 0 :: 0 :: d) r 3) j 11 = gm (r.getD 0 0) (pw (0 * j)) ^^^ (gm (r.getD 1 0) (pw (1 * j)) ^^^ (gm (r.getD 2 0) (pw (2 * j)) ^^^ synp (0 :: 0 :: 0 :: d) j 11)) := by
      show synp (r.getD 0 0 :: r.getD 1 0 :: r.getD 2 0 :: d) j 11 = _
      simp only [synp, List.getD_cons_zero, List.getD_cons_succ, Nat.xor_assoc, Nat.zero_xor, gm_zero (pw_lt _)]
    have h3 : synp r j 11 = gm (r.getD 0 0) (pw (0 * j)) ^^^ (gm (r.getD 1 0) (pw (1 * j)) ^^^ gm (r.getD 2 0) (pw (2 * j))) := by
      simp only [synp, z 3 (by decide) (by decide), z 4 (by decide) (by decide), z 5 (by decide) (by decide), z 6 (by decide) (by decide), z 7 (by decide) (by decide), z 8 (by decide) (by decide), z 9 (by decide) (by decide), z 10 (by decide) (by decide), Nat.xor_assoc, Nat.zero_xor, Nat.xor_zero, gm_zero (pw_lt _)]
    rw [h2, ← h1, h3, ← Nat.xor_assoc (gm (r.getD 1 0) _) (gm (r.getD 2 0) _), ← Nat.xor_assoc (gm (r.getD 0 0) _), Nat.xor_self]
  refine ⟨_, e1, by rw [cpy_len, hzl], ?_, syn 0 (by decide), syn 1 (by decide), syn 2 (by decide)⟩
  exact ((hz.set (ho.get _)).set (ho.get _)).set (ho.get _)
end Go.Proofs.Ytkgliadgedamiaa
