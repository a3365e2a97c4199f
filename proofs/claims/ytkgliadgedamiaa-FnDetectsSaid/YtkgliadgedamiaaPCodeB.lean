/-
  The code over the field of sixteen elements: words, syndromes, encoding, correcting. Nothing here is a claim.
-/
import Derived.Test.YtkgliadgedamiaaPCode
namespace Go.Proofs.Ytkgliadgedamiaa
open Go.RowKit
set_option linter.unusedVariables false
set_option maxRecDepth 100000

theorem p_mul {a b : Nat} (ha : a < 16) (hb : b < 16) : fi_GfMul (a : Int) (b : Int) = some (gm a b : Int) := by
  have h := all16_ok (all16_ok t_mul ha) hb
  exact eq_of_beq h
theorem p_pow {n : Nat} (h : n < 31) : fi_GfPow 2 (n : Int) = some (pw n : Int) := eq_of_beq (List.all_eq_true.1 t_pow n (List.mem_range.2 h))
theorem p_xor {a b : Nat} (ha : a < 16) (hb : b < 16) : bits .xor .i64 (a : Int) (b : Int) = ((a ^^^ b : Nat) : Int) := by
  have h := all16_ok (all16_ok t_xor ha) hb
  rw [Bool.and_eq_true] at h
  exact of_decide_eq_true h.1
theorem xor_lt {a b : Nat} (ha : a < 16) (hb : b < 16) : a ^^^ b < 16 := by
  have h := all16_ok (all16_ok t_xor ha) hb
  rw [Bool.and_eq_true] at h
  exact Nat.le_of_ble_eq_true h.2
theorem gm_xor {a b c : Nat} (ha : a < 16) (hb : b < 16) (hc : c < 16) : gm (a ^^^ b) c = gm a c ^^^ gm b c := Nat.eq_of_beq_eq_true (all16_ok (all16_ok (all16_ok t_lin ha) hb) hc)
theorem gm_one {a : Nat} (ha : a < 16) : gm a 1 = a := by
  have h := all16_ok t_one ha
  rw [Bool.and_eq_true] at h
  exact Nat.eq_of_beq_eq_true h.1
theorem gm_zero {a : Nat} (ha : a < 16) : gm 0 a = 0 := by
  have h := all16_ok t_one ha
  rw [Bool.and_eq_true] at h
  exact Nat.eq_of_beq_eq_true h.2
abbrev toI (w : List Nat) : List Int := w.map fun (n : Nat) => (n : Int)
def Wd16 (w : List Nat) : Prop := ∀ x ∈ w, x < 16
theorem toI_len (w : List Nat) : (toI w).length = w.length := by simp [toI]
theorem toI_get {w : List Nat} {k : Nat} (h : k < (toI w).length) : (toI w)[k] = ((w.getD k 0 : Nat) : Int) := by
  have h' : k < w.length := by rw [toI_len] at h; exact h
  simp [toI, List.getD_eq_getElem?_getD, List.getElem?_eq_getElem h']
theorem Wd16.get {w : List Nat} (h : Wd16 w) (k : Nat) : w.getD k 0 < 16 := by
  by_cases hk : k < w.length
  · simp only [List.getD_eq_getElem?_getD, List.getElem?_eq_getElem hk, Option.getD_some]
    exact h _ (List.getElem_mem hk)
  · simp [List.getD_eq_getElem?_getD, List.getElem?_eq_none (Nat.le_of_not_lt hk)]
theorem p_symbols {w : List Nat} (hw : Wd16 w) (hl : w.length < 1000) (n : Int) : fi_SymbolsOk (toI w) n = some ((w.length : Int) == n) := by
  unfold fi_SymbolsOk
  have e := iter_run (step := Lfi_SymbolsOk_0) (fun i => ((toI w, n, toI w, ((toI w).length : Int), (i : Int), ()), ())) (z := .inr (.inl ((toI w, n, ()), ()))) w.length 0 big (fun k _ hk => ?_) ?_ (by unfold big; omega)
  · have e : iter Lfi_SymbolsOk_0 big ((toI w, n, toI w, ((toI w).length : Int), (0 : Int), ()), ()) = _ := e
    rw [e]
    show some (((toI w).length : Int) == n) = _
    rw [toI_len]
  · have hk : k < (toI w).length := by rw [toI_len]; omega
    unfold Lfi_SymbolsOk_0
    dsimp only
    have c1 : decide ((k : Int) < ((toI w).length : Int)) = true := decide_eq_true (by omega)
    have c2 : 0 ≤ (k : Int) ∧ (k : Int).toNat < (toI w).length := ⟨by omega, by simpa using hk⟩
    rw [c1, cond_true, dif_pos c2]
    have c3 : (toI w)[(k : Int).toNat]'c2.2 = ((w.getD k 0 : Nat) : Int) := toI_get hk
    rw [c3]
    have := hw.get k
    unfold fi_isElement
    rw [p_between_t (by omega) (by omega), bindS, bindS, wrap_succ (by omega)]
    rfl
  · unfold Lfi_SymbolsOk_0
    dsimp only
    have c1 : decide (((0 + w.length : Nat) : Int) < ((toI w).length : Int)) = false := decide_eq_false (by rw [toI_len]; omega)
    rw [c1, cond_false]
def synp (w : List Nat) (j : Nat) : Nat → Nat
  | 0 => 0
  | i + 1 => synp w j i ^^^ gm (w.getD i 0) (pw (i * j))
theorem synp_lt (w : List Nat) (j : Nat) : ∀ i, synp w j i < 16
  | 0 => Nat.zero_lt_succ _
  | i + 1 => xor_lt (synp_lt w j i) (gm_lt _ _)
theorem p_synIn {w : List Nat} (hw : Wd16 w) (hl : w.length = 11) (j : Nat) (hj : j < 3) (a b : Int) (o : List Int) (ho : j < o.length) (h0 : o.set j 0 = o) :
    iter Lfi_Syndromes_2 big ((toI w, (), (j : Int), a, b, toI w, ((toI w).length : Int), (0 : Int), ()), (o, ())) = some (.inl ((toI w, (), a, b, ()), (o.set j (synp w j 11 : Int), ()))) := by
  have e := iter_run (step := Lfi_Syndromes_2) (fun i => ((toI w, (), (j : Int), a, b, toI w, ((toI w).length : Int), (i : Int), ()), (o.set j (synp w j i : Int), ()))) (z := .inl ((toI w, (), a, b, ()), (o.set j (synp w j 11 : Int), ()))) 11 0 big (fun k _ hk => ?_) ?_ (by unfold big; omega)
  · have e : iter Lfi_Syndromes_2 big ((toI w, (), (j : Int), a, b, toI w, ((toI w).length : Int), (0 : Int), ()), (o.set j 0, ())) = _ := e
    rw [h0] at e
    exact e
  · have hk : k < (toI w).length := by rw [toI_len]; omega
    unfold Lfi_Syndromes_2
    dsimp only
    have c1 : decide ((k : Int) < ((toI w).length : Int)) = true := decide_eq_true (by omega)
    have c2 : 0 ≤ (k : Int) ∧ (k : Int).toNat < (toI w).length := ⟨by omega, by simpa using hk⟩
    have c4 : 0 ≤ (j : Int) ∧ (j : Int).toNat < (o.set j (synp w j k : Int)).length := ⟨by omega, by simpa using ho⟩
    have c3 : (toI w)[(k : Int).toNat]'c2.2 = ((w.getD k 0 : Nat) : Int) := toI_get hk
    have c5 : (o.set j (synp w j k : Int))[(j : Int).toNat]'c4.2 = (synp w j k : Int) := List.getElem_set_self _
    rw [c1, cond_true, dif_pos c2, dif_pos c4, dif_pos c4.2, c3, c5]
    have hkj : k * j ≤ 20 := Nat.le_trans (Nat.mul_le_mul (show k ≤ 10 by omega) (show j ≤ 2 by omega)) (by decide)
    have c6 : IntKind.i64.wrap ((k : Int) * (j : Int)) = ((k * j : Nat) : Int) := by
      rw [← Int.natCast_mul, w64 (by omega) (by omega)]
    rw [c6, p_pow (by omega), bindS, p_mul (hw.get k) (pw_lt _), bindS, dif_pos c4, dif_pos c4.2, p_xor (synp_lt _ _ _) (gm_lt _ _), wrap_succ (by omega)]
    have c7 : (o.set j (synp w j k : Int)).set (j : Int).toNat ((synp w j k ^^^ gm (w.getD k 0) (pw (k * j)) : Nat) : Int) = o.set j (synp w j (k + 1) : Int) := List.set_set ..
    rw [c7]
  · unfold Lfi_Syndromes_2
    dsimp only
    have c1 : decide (((0 + 11 : Nat) : Int) < ((toI w).length : Int)) = false := decide_eq_false (by rw [toI_len]; omega)
    rw [c1, cond_false]
def outS (w : List Nat) : Nat → List Int
  | 0 => [0, 0, 0]
  | 1 => [(synp w 0 11 : Int), 0, 0]
  | 2 => [(synp w 0 11 : Int), (synp w 1 11 : Int), 0]
  | _ => [(synp w 0 11 : Int), (synp w 1 11 : Int), (synp w 2 11 : Int)]
theorem p_syn {w : List Nat} (hw : Wd16 w) (hl : w.length = 11) : fi_Syndromes (toI w) = some [(synp w 0 11 : Int), (synp w 1 11 : Int), (synp w 2 11 : Int)] := by
  unfold fi_Syndromes
  have c0 : ((w.length : Int) == (11 : Int)) = true := by rw [hl]; rfl
  rw [p_symbols hw (by omega), c0, bindS]
  have e := iter_run (step := Lfi_Syndromes_0) (fun j => ((toI w, (), (3 : Int), (j : Int), ()), (outS w j, ()))) (z := .inl (((), ()), (outS w 3, ()))) 3 0 big (fun k _ hk => ?_) ?_ (by unfold big; omega)
  · have e : iter Lfi_Syndromes_0 big ((toI w, (), ((List.replicate (3 : Int).toNat (0 : Int)).length : Int), (0 : Int), ()), (List.replicate (3 : Int).toNat (0 : Int), ())) = _ := e
    rw [show (!true) = false from rfl, cond_false, if_pos (by decide), e]
    rfl
  · unfold Lfi_Syndromes_0
    dsimp only
    have c1 : decide ((k : Int) < (3 : Int)) = true := decide_eq_true (by omega)
    have e2 : outS w k = (outS w k).set k 0 ∧ k < (outS w k).length ∧ (outS w k).set k (synp w k 11 : Int) = outS w (k + 1) := by
      have : k = 0 ∨ k = 1 ∨ k = 2 := by omega
      rcases this with rfl | rfl | rfl
      · exact ⟨rfl, by simp [outS], rfl⟩
      · exact ⟨rfl, by simp [outS], rfl⟩
      · exact ⟨rfl, by simp [outS], rfl⟩
    rw [c1, cond_true, p_synIn hw hl k (by omega) (3 : Int) (k : Int) (outS w k) e2.2.1 e2.1.symm, e2.2.2]
    show some (Sum.inl ((toI w, (), (3 : Int), IntKind.i64.wrap ((k : Int) + 1), ()), (outS w (k + 1), ()))) = _
    rw [wrap_succ (by omega)]
  · unfold Lfi_Syndromes_0
    dsimp only
    rfl
end Go.Proofs.Ytkgliadgedamiaa
