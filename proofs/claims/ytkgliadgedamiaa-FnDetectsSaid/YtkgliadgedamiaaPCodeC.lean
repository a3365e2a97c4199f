/-
  The code over the field of sixteen elements: the law that one wrong symbol is put right. Nothing here is a claim.
-/
import Derived.Test.YtkgliadgedamiaaPCodeB
namespace Go.Proofs.Ytkgliadgedamiaa
open Go.RowKit
set_option linter.unusedVariables false
set_option maxRecDepth 100000

theorem p_wordOk {w : List Nat} (hw : Wd16 w) (hl : w.length = 11) : fi_WordOk (toI w) = some (Nat.beq (synp w 0 11) 0 && (Nat.beq (synp w 1 11) 0 && Nat.beq (synp w 2 11) 0)) := by
  unfold fi_WordOk
  rw [p_syn hw hl, bindS]
  generalize synp w 0 11 = a
  generalize synp w 1 11 = b
  generalize synp w 2 11 = c
  have q : ∀ n : Nat, ((n : Int) == (0 : Int)) = Nat.beq n 0 := by
    intro n
    cases n with
    | zero => rfl
    | succ n => rfl
  show (bif ((a : Int) == (0 : Int)) then (bif ((b : Int) == (0 : Int)) then some ((c : Int) == (0 : Int)) else some false) else some false) = _
  rw [q, q, q]
  cases Nat.beq a 0 <;> cases Nat.beq b 0 <;> rfl
theorem enc_facts (a0 a1 a2 : Nat) (h0 : a0 < 16) (h1 : a1 < 16) (h2 : a2 < 16) :
    (fun y z => (fun x => (gm x 1 ^^^ (gm y 1 ^^^ (gm z 1 ^^^ a0))) = 0 ∧ (gm x 1 ^^^ (gm y 2 ^^^ (gm z 4 ^^^ a1))) = 0 ∧ (gm x 1 ^^^ (gm y 4 ^^^ (gm z 3 ^^^ a2))) = 0) (a0 ^^^ y ^^^ z))
      (gm (gm 2 (a0 ^^^ a1) ^^^ gm 5 (a0 ^^^ a2)) 13) (gm (gm 3 (a0 ^^^ a2) ^^^ gm 5 (a0 ^^^ a1)) 13) := by
  have h := all16_ok (all16_ok (all16_ok t_enc h0) h1) h2
  dsimp only at h ⊢
  rw [Bool.and_eq_true, Bool.and_eq_true] at h
  exact ⟨Nat.eq_of_beq_eq_true h.1.1, Nat.eq_of_beq_eq_true h.1.2, Nat.eq_of_beq_eq_true h.2⟩
theorem p_enc {d : List Nat} (hd : Wd16 d) (hl : d.length = 8) : ∃ w, fi_EncodeSymbols (toI d) = some (toI w) ∧ w.length = 11 ∧ Wd16 w ∧ w.drop 3 = d ∧ synp w 0 11 = 0 ∧ synp w 1 11 = 0 ∧ synp w 2 11 = 0 := by
  have hz : Wd16 (0 :: 0 :: 0 :: d) := by
    intro x hx
    simp only [List.mem_cons] at hx
    rcases hx with rfl | rfl | rfl | hx
    · decide
    · decide
    · decide
    · exact hd x hx
  have key : ∀ j x y z, j < 3 → x < 16 → y < 16 → z < 16 → synp (x :: y :: z :: d) j 11 = gm x (pw (0 * j)) ^^^ (gm y (pw (1 * j)) ^^^ (gm z (pw (2 * j)) ^^^ synp (0 :: 0 :: 0 :: d) j 11)) := by
    intro j x y z hj hx hy hz
    simp only [synp, List.getD_cons_zero, List.getD_cons_succ, Nat.xor_assoc, Nat.zero_xor, gm_zero (pw_lt _)]
  have e0 : ∀ a0 a1 a2 : Nat, a0 < 16 → a1 < 16 → a2 < 16 → fi_Syndromes (toI (0 :: 0 :: 0 :: d)) = some [(a0 : Int), (a1 : Int), (a2 : Int)] →
      fi_EncodeSymbols (toI d) = some (toI ((a0 ^^^ gm (gm 2 (a0 ^^^ a1) ^^^ gm 5 (a0 ^^^ a2)) 13 ^^^ gm (gm 3 (a0 ^^^ a2) ^^^ gm 5 (a0 ^^^ a1)) 13) :: gm (gm 2 (a0 ^^^ a1) ^^^ gm 5 (a0 ^^^ a2)) 13 :: gm (gm 3 (a0 ^^^ a2) ^^^ gm 5 (a0 ^^^ a1)) 13 :: d)) := by
    intro a0 a1 a2 h0 h1 h2 hs
    unfold fi_EncodeSymbols
    have c0 : ((d.length : Int) == (8 : Int)) = true := by rw [hl]; rfl
    have c1 : okLen ((List.replicate (3 : Int).toNat (0 : Int)).length + (toI d).length) = true := by
      rw [toI_len, hl]; rfl
    rw [p_symbols hd (by omega), bindS, c0, show (!true) = false from rfl, cond_false, if_pos (by decide), c1, cond_true]
    have e1 : fi_Syndromes (List.replicate (3 : Int).toNat (0 : Int) ++ toI d) = some [(a0 : Int), (a1 : Int), (a2 : Int)] := hs
    rw [e1, bindS]
    show (fi_GfInv (4 : Int)).bind (fun y15 => (fi_GfMul (2 : Int) (bits .xor .i64 (a0 : Int) (a1 : Int))).bind fun y16 => (fi_GfMul (5 : Int) (bits .xor .i64 (a0 : Int) (a2 : Int))).bind fun y17 => (fi_GfMul (bits .xor .i64 y16 y17) y15).bind fun y18 => (fi_GfMul (3 : Int) (bits .xor .i64 (a0 : Int) (a2 : Int))).bind fun y22 => (fi_GfMul (5 : Int) (bits .xor .i64 (a0 : Int) (a1 : Int))).bind fun y23 => (fi_GfMul (bits .xor .i64 y22 y23) y15).bind fun y24 => some (bits .xor .i64 (bits .xor .i64 (a0 : Int) y18) y24 :: y18 :: y24 :: toI d)) = _
    have m2 : ∀ b : Nat, b < 16 → fi_GfMul (2 : Int) (b : Int) = some (gm 2 b : Int) := fun b hb => p_mul (a := 2) (by decide) hb
    have m3 : ∀ b : Nat, b < 16 → fi_GfMul (3 : Int) (b : Int) = some (gm 3 b : Int) := fun b hb => p_mul (a := 3) (by decide) hb
    have m5 : ∀ b : Nat, b < 16 → fi_GfMul (5 : Int) (b : Int) = some (gm 5 b : Int) := fun b hb => p_mul (a := 5) (by decide) hb
    have m13 : ∀ b : Nat, b < 16 → fi_GfMul (b : Int) (13 : Int) = some (gm b 13 : Int) := fun b hb => p_mul (b := 13) hb (by decide)
    rw [t_i4, bindS, p_xor h0 h1, p_xor h0 h2, m2 _ (xor_lt h0 h1), bindS, m5 _ (xor_lt h0 h2), bindS, p_xor (gm_lt _ _) (gm_lt _ _), m13 _ (xor_lt (gm_lt _ _) (gm_lt _ _)), bindS, m3 _ (xor_lt h0 h2), bindS, m5 _ (xor_lt h0 h1), bindS, p_xor (gm_lt _ _) (gm_lt _ _), m13 _ (xor_lt (gm_lt _ _) (gm_lt _ _)), bindS, p_xor h0 (gm_lt _ _), p_xor (xor_lt h0 (gm_lt _ _)) (gm_lt _ _)]
    rfl
  have h0 := synp_lt (0 :: 0 :: 0 :: d) 0 11
  have h1 := synp_lt (0 :: 0 :: 0 :: d) 1 11
  have h2 := synp_lt (0 :: 0 :: 0 :: d) 2 11
  have e1 := e0 _ _ _ h0 h1 h2 (p_syn hz (by simp [hl]))
  have f := enc_facts _ _ _ h0 h1 h2
  dsimp only at f
  refine ⟨_, e1, by simp [hl], ?_, rfl, ?_, ?_, ?_⟩
  · intro x hx
    simp only [List.mem_cons] at hx
    rcases hx with rfl | rfl | rfl | hx
    · exact xor_lt (xor_lt h0 (gm_lt _ _)) (gm_lt _ _)
    · exact gm_lt _ _
    · exact gm_lt _ _
    · exact hd x hx
  · rw [key 0 _ _ _ (by decide) (xor_lt (xor_lt h0 (gm_lt _ _)) (gm_lt _ _)) (gm_lt _ _) (gm_lt _ _)]
    exact f.1
  · rw [key 1 _ _ _ (by decide) (xor_lt (xor_lt h0 (gm_lt _ _)) (gm_lt _ _)) (gm_lt _ _) (gm_lt _ _)]
    exact f.2.1
  · rw [key 2 _ _ _ (by decide) (xor_lt (xor_lt h0 (gm_lt _ _)) (gm_lt _ _)) (gm_lt _ _) (gm_lt _ _)]
    exact f.2.2
end Go.Proofs.Ytkgliadgedamiaa
