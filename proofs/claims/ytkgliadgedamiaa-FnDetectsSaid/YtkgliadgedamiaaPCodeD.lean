/-
  The code over the field of sixteen elements: the law that one wrong symbol is put right. Nothing here is a claim.
-/
import Derived.Test.YtkgliadgedamiaaPCodeC
namespace Go.Proofs.Ytkgliadgedamiaa
open Go.RowKit
set_option linter.unusedVariables false
set_option maxRecDepth 100000

theorem synp_set {w : List Nat} (hw : Wd16 w) {k e : Nat} (he : e < 16) (hk : k < w.length) (j : Nat) : ∀ i, synp (w.set k (w.getD k 0 ^^^ e)) j i = if i ≤ k then synp w j i else synp w j i ^^^ gm e (pw (k * j))
  | 0 => by rw [if_pos (Nat.zero_le _)]; rfl
  | i + 1 => by
    have ih := synp_set hw he hk j i
    have hg : (w.set k (w.getD k 0 ^^^ e)).getD i 0 = if i = k then w.getD k 0 ^^^ e else w.getD i 0 := by
      simp only [List.getD_eq_getElem?_getD, List.getElem?_set]
      by_cases h : i = k
      · subst h; simp [hk]
      · simp [h, Ne.symm h]
    show synp (w.set k (w.getD k 0 ^^^ e)) j i ^^^ gm ((w.set k (w.getD k 0 ^^^ e)).getD i 0) (pw (i * j)) = _
    rw [ih, hg]
    by_cases h1 : i < k
    · rw [if_pos (by omega), if_neg (by omega), if_pos (by omega)]; rfl
    · by_cases h2 : i = k
      · subst h2
        rw [if_pos (Nat.le_refl _), if_pos rfl, if_neg (by omega), gm_xor (hw.get _) he (pw_lt _), ← Nat.xor_assoc]
        rfl
      · rw [if_neg (by omega), if_neg h2, if_neg (by omega)]
        show _ = synp w j i ^^^ gm (w.getD i 0) (pw (i * j)) ^^^ gm e (pw (k * j))
        rw [Nat.xor_assoc, Nat.xor_comm (gm e _), ← Nat.xor_assoc]
theorem Wd16.set {w : List Nat} (h : Wd16 w) {k v : Nat} (hv : v < 16) : Wd16 (w.set k v) := by
  intro x hx
  rcases List.mem_or_eq_of_mem_set hx with hx | rfl
  · exact h x hx
  · exact hv
theorem inv_facts {e k : Nat} (he : e < 16) (h0 : e ≠ 0) (hk : k < 11) : ∃ y x, fi_GfInv (e : Int) = some y ∧ fi_GfMul ((gm e (pw k) : Nat) : Int) y = some x ∧ fi_GfLog x = some (k : Int) ∧ fi_GfMul ((gm e (pw k) : Nat) : Int) x = some ((gm e (pw (k * 2)) : Nat) : Int) ∧ gm e (pw k) ≠ 0 := by
  have h := all16_ok t_inv he
  rw [Bool.or_eq_true] at h
  rcases h with h | h
  · exact absurd (Nat.eq_of_beq_eq_true h) h0
  · have h := List.all_eq_true.1 h k (List.mem_range.2 hk)
    split at h
    · rename_i y hy
      split at h
      · rename_i x hx
        rw [Bool.and_eq_true, Bool.and_eq_true] at h
        obtain ⟨⟨g1, g2⟩, g3⟩ := h
        refine ⟨y, x, hy, hx, ?_, ?_, ?_⟩
        · split at g1
          · rename_i n hn; rw [hn, of_decide_eq_true g1]; rfl
          · cases g1
        · split at g2
          · rename_i n hn; exact hn.trans (congrArg some (of_decide_eq_true g2))
          · cases g2
        · intro h; rw [h] at g3; cases g3
      · cases h
    · cases h
theorem p_clean {w : List Nat} (hw : Wd16 w) (hl : w.length = 11) (s0 : synp w 0 11 = 0) (s1 : synp w 1 11 = 0) (s2 : synp w 2 11 = 0) : fi_CorrectWord (toI w) = some (toI w, 0, -1) := by
  unfold fi_CorrectWord
  have c1 : okLen (([] : List Int).length + (toI w).length) = true := by rw [toI_len, hl]; rfl
  rw [p_syn hw hl, bindS, show isEmp [(synp w 0 11 : Int), (synp w 1 11 : Int), (synp w 2 11 : Int)] = false from rfl, cond_false, c1, cond_true, p_wordOk hw hl, bindS, s0, s1, s2]
  rfl
theorem p_fix {w : List Nat} (hw : Wd16 w) (hl : w.length = 11) (s0 : synp w 0 11 = 0) (s1 : synp w 1 11 = 0) (s2 : synp w 2 11 = 0) {e k : Nat} (he : e < 16) (h0 : e ≠ 0) (hk : k < 11) :
    fi_CorrectWord (toI (w.set k (w.getD k 0 ^^^ e))) = some (toI w, 1, (k : Int)) := by
  obtain ⟨y, x, f1, f2, f3, f4, f5⟩ := inv_facts he h0 hk
  have hw' := hw.set (k := k) (xor_lt (hw.get k) he)
  have hl' : (w.set k (w.getD k 0 ^^^ e)).length = 11 := by rw [List.length_set, hl]
  have t0 : synp (w.set k (w.getD k 0 ^^^ e)) 0 11 = e := by
    rw [synp_set hw he (by omega) 0 11, if_neg (by omega), s0, Nat.zero_xor, Nat.mul_zero]
    exact gm_one he
  have t1 : synp (w.set k (w.getD k 0 ^^^ e)) 1 11 = gm e (pw k) := by
    rw [synp_set hw he (by omega) 1 11, if_neg (by omega), s1, Nat.zero_xor, Nat.mul_one]
  have t2 : synp (w.set k (w.getD k 0 ^^^ e)) 2 11 = gm e (pw (k * 2)) := by
    rw [synp_set hw he (by omega) 2 11, if_neg (by omega), s2, Nat.zero_xor]
  have hb : fi_WordOk (toI (w.set k (w.getD k 0 ^^^ e))) = some false := by
    rw [p_wordOk hw' hl', t0]
    cases e with
    | zero => exact absurd rfl h0
    | succ e => rfl
  have hs := p_syn hw' hl'
  rw [t0, t1, t2] at hs
  have hx : w.getD k 0 ^^^ e < 16 := xor_lt (hw.get k) he
  have hback : (w.getD k 0 ^^^ e) ^^^ e = w.getD k 0 := by rw [Nat.xor_assoc, Nat.xor_self, Nat.xor_zero]
  have hw0 : (w.set k (w.getD k 0 ^^^ e)).set k (w.getD k 0) = w := by
    rw [List.set_set]
    have hk' : k < w.length := by omega
    have : w.getD k 0 = w[k] := by simp [List.getD_eq_getElem?_getD, List.getElem?_eq_getElem hk']
    rw [this]
    exact List.set_getElem_self hk'
  have hget : (w.set k (w.getD k 0 ^^^ e)).getD k 0 = w.getD k 0 ^^^ e := by
    have hk' : k < w.length := by omega
    simp [List.getD_eq_getElem?_getD, hk']
  revert hs hb hl' hw0 hget
  generalize w.set k (w.getD k 0 ^^^ e) = u
  intro hl' hb hs hw0 hget
  unfold fi_CorrectWord
  have c1 : okLen (([] : List Int).length + (toI u).length) = true := by rw [toI_len, hl']; rfl
  rw [hs, bindS, show isEmp [(e : Int), (gm e (pw k) : Int), (gm e (pw (k * 2)) : Int)] = false from rfl, cond_false, c1, cond_true, hb, bindS, cond_false]
  have n0 : ((e : Int) != (0 : Int)) = true := by
    rw [bne_iff_ne]; omega
  have n1 : (((gm e (pw k) : Nat) : Int) != (0 : Int)) = true := by
    rw [bne_iff_ne]; omega
  have hku : k < (toI u).length := by rw [toI_len]; omega
  have c2 : 0 ≤ (k : Int) ∧ (k : Int).toNat < (toI u).length := ⟨by omega, by simpa using hku⟩
  have c3 : (toI u)[(k : Int).toNat]'c2.2 = ((w.getD k 0 ^^^ e : Nat) : Int) := (toI_get hku).trans (by rw [hget])
  show (bif ((e : Int) != (0 : Int)) then (bif (((gm e (pw k) : Nat) : Int) != (0 : Int)) then (fi_GfInv (e : Int)).bind fun y15 => (fi_GfMul ((gm e (pw k) : Nat) : Int) y15).bind fun y16 => (fi_GfLog y16).bind fun y17 => bif (decide (y17 < (11 : Int))) then (fi_GfMul ((gm e (pw k) : Nat) : Int) y16).bind fun y24 => bif (y24 == ((gm e (pw (k * 2)) : Nat) : Int)) then if h25 : 0 ≤ y17 ∧ y17.toNat < (toI u).length then if h26 : y17.toNat < (toI u).length then if h31 : 0 ≤ y17 ∧ y17.toNat < (toI u).length then if h32 : y17.toNat < (toI u).length then some ((toI u).set y17.toNat (bits .xor .i64 ((toI u)[y17.toNat]'h26) (e : Int)), (1 : Int), y17) else none else none else none else none else some (toI u, (2 : Int), (-1 : Int)) else some (toI u, (2 : Int), (-1 : Int)) else some (toI u, (2 : Int), (-1 : Int))) else some (toI u, (2 : Int), (-1 : Int))) = _
  rw [n0, cond_true, n1, cond_true, f1, bindS, f2, bindS, f3, bindS, decide_eq_true (by omega), cond_true, f4, bindS, beq_self_eq_true, cond_true, dif_pos c2, dif_pos c2.2, dif_pos c2, dif_pos c2.2, c3, p_xor hx he, hback]
  have : (toI u).set (k : Int).toNat ((w.getD k 0 : Nat) : Int) = toI w := by
    show (toI u).set k ((w.getD k 0 : Nat) : Int) = toI w
    rw [← hw0, hw0, ← List.map_set, hw0]
  rw [this]
end Go.Proofs.Ytkgliadgedamiaa
