/-
  Encoding by division, over the field of sixteen elements. Nothing here is a claim.
-/
import Derived.Test.YtkgliadgedamiaaPDetA
namespace Go.Proofs.Ytkgliadgedamiaa
open Go.RowKit
set_option linter.unusedVariables false
set_option maxRecDepth 100000

theorem t_smul : (all16 fun a => all16 fun b => fs_GfMul (Int.ofNat a) (Int.ofNat b) == some (Int.ofNat (gm a b))) = true := by kernel_rfl
theorem p_smul {a b : Nat} (ha : a < 16) (hb : b < 16) : fs_GfMul (a : Int) (b : Int) = some (gm a b : Int) := by
  have h := all16_ok (all16_ok t_smul ha) hb
  exact eq_of_beq h
theorem t_by (W : List Int) : iter Lfs_EncodeSymbols_0 big (((), (), (1 : Int), ()), (W, ([(1 : Int), (1 : Int)] : List Int), ())) = some (.inl (((), (), ()), (W, toI byL, ()))) := by kernel_rfl
theorem p_ssymbols {w : List Nat} (hw : Wd16 w) (hl : w.length < 1000) (n : Int) : fs_SymbolsOk (toI w) n = some ((w.length : Int) == n) := by
  unfold fs_SymbolsOk
  have e := iter_run (step := Lfs_SymbolsOk_0) (fun i => ((toI w, n, (i : Int), ()), ())) (z := .inr (.inl ((toI w, n, ()), ()))) w.length 0 big (fun k _ hk => ?_) ?_ (by unfold big; omega)
  · have e : iter Lfs_SymbolsOk_0 big ((toI w, n, (0 : Int), ()), ()) = _ := e
    rw [e]
    show some (((toI w).length : Int) == n) = _
    rw [toI_len]
  · have hk : k < (toI w).length := by rw [toI_len]; omega
    unfold Lfs_SymbolsOk_0
    dsimp only
    have c1 : decide ((k : Int) < ((toI w).length : Int)) = true := decide_eq_true (by omega)
    have c2 : 0 ≤ (k : Int) ∧ (k : Int).toNat < (toI w).length := ⟨by omega, by simpa using hk⟩
    rw [c1, cond_true, dif_pos c2]
    have c3 : (toI w)[(k : Int).toNat]'c2.2 = ((w.getD k 0 : Nat) : Int) := toI_get hk
    rw [c3]
    have := hw.get k
    unfold fs_l11Is
    rw [p_in_t (by omega) (by omega), bindS, bindS, wrap_succ (by omega)]
    rfl
  · unfold Lfs_SymbolsOk_0
    dsimp only
    have c1 : decide (((0 + w.length : Nat) : Int) < ((toI w).length : Int)) = false := decide_eq_false (by rw [toI_len]; omega)
    rw [c1, cond_false]
def byG (k : Nat) : Nat := byL.getD k 0
theorem byG_lt (k : Nat) : byG k < 16 := by
  have : Wd16 byL := by
    intro x hx
    simp only [byL, List.mem_cons, List.not_mem_nil, or_false] at hx
    omega
  exact this.get k
/-- One turn of the inner loop, in row m (i = m + 3). -/
def inn (r : List Nat) (m f : Nat) : Nat → List Nat
  | 0 => r
  | k + 1 => (inn r m f k).set (m + k) ((inn r m f k).getD (m + k) 0 ^^^ gm (byG k) f)
theorem inn_len (r : List Nat) (m f : Nat) : ∀ k, (inn r m f k).length = r.length
  | 0 => rfl
  | k + 1 => by show (List.set _ _ _).length = _; rw [List.length_set, inn_len r m f k]
theorem inn_wd {r : List Nat} (hr : Wd16 r) (m f : Nat) : ∀ k, Wd16 (inn r m f k)
  | 0 => hr
  | k + 1 => (inn_wd hr m f k).set (xor_lt ((inn_wd hr m f k).get _) (gm_lt _ _))
theorem toI_set (w : List Nat) (k v : Nat) : (toI w).set k (v : Int) = toI (w.set k v) := (List.map_set ..).symm
theorem p_inn {r : List Nat} (hr : Wd16 r) (hl : r.length = 11) {m f : Nat} (hm : m < 8) (hf : f < 16) (W : List Int) :
    iter Lfs_EncodeSymbols_6 big (((), (), (), ((m + 3 : Nat) : Int), (f : Int), (0 : Int), ()), (W, toI byL, toI r, ())) = some (.inl (((), (), (), ((m + 3 : Nat) : Int), ()), (W, toI byL, toI (inn r m f 4), ()))) := by
  have e := iter_run (step := Lfs_EncodeSymbols_6) (fun k => (((), (), (), ((m + 3 : Nat) : Int), (f : Int), (k : Int), ()), (W, toI byL, toI (inn r m f k), ()))) (z := .inl (((), (), (), ((m + 3 : Nat) : Int), ()), (W, toI byL, toI (inn r m f 4), ()))) 4 0 big (fun k _ hk => ?_) ?_ (by unfold big; omega)
  · exact e
  · unfold Lfs_EncodeSymbols_6
    dsimp only
    have c1 : decide ((k : Int) < ((toI byL).length : Int)) = true := decide_eq_true (by show (k : Int) < 4; omega)
    have c2 : IntKind.i64.wrap (IntKind.i64.wrap (((m + 3 : Nat) : Int) - 3) + (k : Int)) = ((m + k : Nat) : Int) := by
      rw [w64 (n := ((m + 3 : Nat) : Int) - 3) (by omega) (by omega), w64 (by omega) (by omega)]; omega
    have hk1 : m + k < (toI (inn r m f k)).length := by rw [toI_len, inn_len, hl]; omega
    have c3 : 0 ≤ ((m + k : Nat) : Int) ∧ ((m + k : Nat) : Int).toNat < (toI (inn r m f k)).length := ⟨by omega, hk1⟩
    have hk2 : k < (toI byL).length := by show k < 4; omega
    have c4 : 0 ≤ (k : Int) ∧ (k : Int).toNat < (toI byL).length := ⟨by omega, hk2⟩
    have c5 : (toI (inn r m f k))[((m + k : Nat) : Int).toNat]'c3.2 = (((inn r m f k).getD (m + k) 0 : Nat) : Int) := toI_get hk1
    have c6 : (toI byL)[(k : Int).toNat]'c4.2 = ((byG k : Nat) : Int) := toI_get hk2
    rw [c1, cond_true]
    simp only [c2]
    rw [dif_pos c3, dif_pos c3.2]
    rw [dif_pos c4, dif_pos c4.2, c6, p_smul (byG_lt k) hf, bindS, dif_pos c3, dif_pos c3.2, c5, p_xor ((inn_wd hr m f k).get _) (gm_lt _ _), wrap_succ (by omega)]
    have c7 : (toI (inn r m f k)).set ((m + k : Nat) : Int).toNat (((inn r m f k).getD (m + k) 0 ^^^ gm (byG k) f : Nat) : Int) = toI (inn r m f (k + 1)) := toI_set _ _ _
    rw [c7]
  · unfold Lfs_EncodeSymbols_6
    dsimp only
    have c1 : decide (((0 + 4 : Nat) : Int) < ((toI byL).length : Int)) = false := rfl
    rw [c1, cond_false]
/-- Behind t rows. -/
def out (r : List Nat) : Nat → List Nat
  | 0 => r
  | t + 1 => inn (out r t) (7 - t) ((out r t).getD (10 - t) 0) 4
theorem out_len (r : List Nat) : ∀ t, (out r t).length = r.length
  | 0 => rfl
  | t + 1 => by show (inn _ _ _ _).length = _; rw [inn_len, out_len r t]
theorem out_wd {r : List Nat} (hr : Wd16 r) : ∀ t, Wd16 (out r t)
  | 0 => hr
  | t + 1 => inn_wd (out_wd hr t) _ _ _
theorem p_out {r : List Nat} (hr : Wd16 r) (hl : r.length = 11) (W : List Int) :
    iter Lfs_EncodeSymbols_4 big (((), (), (), (10 : Int), ()), (W, toI byL, toI r, ())) = some (.inl (((), (), ()), (W, toI (out r 8), ()))) := by
  have e := iter_run (step := Lfs_EncodeSymbols_4) (fun t => (((), (), (), (10 : Int) - (t : Int), ()), (W, toI byL, toI (out r t), ()))) (z := .inl (((), (), ()), (W, toI (out r 8), ()))) 8 0 big (fun t _ ht => ?_) ?_ (by unfold big; omega)
  · exact e
  · unfold Lfs_EncodeSymbols_4
    dsimp only
    have hi : (10 : Int) - (t : Int) = ((7 - t + 3 : Nat) : Int) := by omega
    have c1 : decide ((10 : Int) - (t : Int) ≥ 3) = true := decide_eq_true (by omega)
    have hk1 : 7 - t + 3 < (toI (out r t)).length := by rw [toI_len, out_len, hl]; omega
    have c3 : 0 ≤ ((7 - t + 3 : Nat) : Int) ∧ ((7 - t + 3 : Nat) : Int).toNat < (toI (out r t)).length := ⟨by omega, hk1⟩
    have c5 : (toI (out r t))[((7 - t + 3 : Nat) : Int).toNat]'c3.2 = (((out r t).getD (10 - t) 0 : Nat) : Int) := (toI_get hk1).trans (by rw [show 7 - t + 3 = 10 - t by omega])
    rw [c1, cond_true]
    simp only [hi]
    rw [dif_pos c3, dif_pos c3.2, c5, p_inn (out_wd hr t) (by rw [out_len, hl]) (by omega) ((out_wd hr t).get _)]
    show some (Sum.inl (((), (), (), IntKind.i64.wrap (((7 - t + 3 : Nat) : Int) - 1), ()), (W, toI byL, toI (out r (t + 1)), ()))) = _
    rw [w64 (by omega) (by omega), show ((7 - t + 3 : Nat) : Int) - 1 = 10 - ((t + 1 : Nat) : Int) by omega]
  · unfold Lfs_EncodeSymbols_4
    dsimp only
    rfl
end Go.Proofs.Ytkgliadgedamiaa
