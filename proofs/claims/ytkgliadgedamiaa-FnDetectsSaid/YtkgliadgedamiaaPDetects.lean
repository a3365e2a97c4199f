/-
  The law that two wrong symbols are seen. Nothing here is a claim.
-/
import Derived.Test.YtkgliadgedamiaaPDetC
import Derived.Test.YtkgliadgedamiaaPCorrects
namespace Go.Proofs.Ytkgliadgedamiaa
open Go.RowKit
set_option linter.unusedVariables false
set_option maxRecDepth 100000

theorem beq_nat (n m : Nat) : ((n : Int) == (m : Int)) = Nat.beq n m := by
  cases h : Nat.beq n m with
  | true => rw [Nat.eq_of_beq_eq_true h]; simp
  | false =>
    have : n ≠ m := by rintro rfl; rw [Nat.beq_refl] at h; cases h
    simp; omega
theorem two_facts {i k e f : Nat} (hi : i < 11) (hk : k < 11) (hik : i ≠ k) (he : e < 16) (he0 : e ≠ 0) (hf : f < 16) (hf0 : f ≠ 0) :
    ¬ (e ^^^ f = 0 ∧ gm e (pw i) ^^^ gm f (pw k) = 0 ∧ gm e (pw (i * 2)) ^^^ gm f (pw (k * 2)) = 0) ∧
    (e ^^^ f = 0 ∨ gm e (pw i) ^^^ gm f (pw k) = 0 ∨ gm (gm e (pw i) ^^^ gm f (pw k)) (gm (gm e (pw i) ^^^ gm f (pw k)) (iv (e ^^^ f))) ≠ gm e (pw (i * 2)) ^^^ gm f (pw (k * 2))) := by
  have h := List.all_eq_true.1 (List.all_eq_true.1 t_two i (List.mem_range.2 hi)) k (List.mem_range.2 hk)
  rw [Bool.or_eq_true] at h
  rcases h with h | h
  · exact absurd (Nat.eq_of_beq_eq_true h) hik
  have h := all16_ok h he
  rw [Bool.or_eq_true] at h
  rcases h with h | h
  · exact absurd (Nat.eq_of_beq_eq_true h) he0
  have h := all16_ok h hf
  rw [Bool.or_eq_true] at h
  rcases h with h | h
  · exact absurd (Nat.eq_of_beq_eq_true h) hf0
  dsimp only at h
  rw [Bool.and_eq_true, Bool.or_eq_true, Bool.or_eq_true] at h
  obtain ⟨h1, h2⟩ := h
  refine ⟨fun ⟨a, b, c⟩ => ?_, ?_⟩
  · rw [a, b, c] at h1; cases h1
  · rcases h2 with h2 | h2 | h2
    · exact .inl (Nat.eq_of_beq_eq_true h2)
    · exact .inr (.inl (Nat.eq_of_beq_eq_true h2))
    · refine .inr (.inr fun e => ?_)
      rw [e, Nat.beq_refl] at h2; cases h2
theorem p_lost {u : List Nat} (hu : Wd16 u) (hl : u.length = 11) {s0 s1 s2 : Nat} (t0 : synp u 0 11 = s0) (t1 : synp u 1 11 = s1) (t2 : synp u 2 11 = s2)
    (hA : ¬ (s0 = 0 ∧ s1 = 0 ∧ s2 = 0)) (hB : s0 = 0 ∨ s1 = 0 ∨ gm s1 (gm s1 (iv s0)) ≠ s2) : fi_WordOk (toI u) = some false ∧ fi_CorrectWord (toI u) = some (toI u, 2, -1) := by
  have l0 : s0 < 16 := t0 ▸ synp_lt u 0 11
  have l1 : s1 < 16 := t1 ▸ synp_lt u 1 11
  have hb : fi_WordOk (toI u) = some false := by
    rw [p_wordOk hu hl, t0, t1, t2]
    cases h : (Nat.beq s0 0 && (Nat.beq s1 0 && Nat.beq s2 0)) with
    | false => rfl
    | true =>
      rw [Bool.and_eq_true, Bool.and_eq_true] at h
      exact absurd ⟨Nat.eq_of_beq_eq_true h.1, Nat.eq_of_beq_eq_true h.2.1, Nat.eq_of_beq_eq_true h.2.2⟩ hA
  have hs := p_syn hu hl
  rw [t0, t1, t2] at hs
  refine ⟨hb, ?_⟩
  unfold fi_CorrectWord
  have c1 : okLen (([] : List Int).length + (toI u).length) = true := by rw [toI_len, hl]; rfl
  rw [hs, bindS, show isEmp [(s0 : Int), (s1 : Int), (s2 : Int)] = false from rfl, cond_false, c1, cond_true, hb, bindS, cond_false]
  show (bif ((s0 : Int) != (0 : Int)) then (bif ((s1 : Int) != (0 : Int)) then (fi_GfInv (s0 : Int)).bind fun y15 => (fi_GfMul (s1 : Int) y15).bind fun y16 => (fi_GfLog y16).bind fun y17 => bif (decide (y17 < (11 : Int))) then (fi_GfMul (s1 : Int) y16).bind fun y24 => bif (y24 == (s2 : Int)) then if h25 : 0 ≤ y17 ∧ y17.toNat < (toI u).length then if h26 : y17.toNat < (toI u).length then if h31 : 0 ≤ y17 ∧ y17.toNat < (toI u).length then if h32 : y17.toNat < (toI u).length then some ((toI u).set y17.toNat (bits .xor .i64 ((toI u)[y17.toNat]'h26) (s0 : Int)), (1 : Int), y17) else none else none else none else none else some (toI u, (2 : Int), (-1 : Int)) else some (toI u, (2 : Int), (-1 : Int)) else some (toI u, (2 : Int), (-1 : Int))) else some (toI u, (2 : Int), (-1 : Int))) = _
  by_cases z0 : s0 = 0
  · subst z0; rfl
  have n0 : ((s0 : Int) != (0 : Int)) = true := by rw [bne_iff_ne]; omega
  rw [n0, cond_true]
  by_cases z1 : s1 = 0
  · subst z1; rfl
  have n1 : ((s1 : Int) != (0 : Int)) = true := by rw [bne_iff_ne]; omega
  have hi : fi_GfInv (s0 : Int) = some (iv s0 : Int) := by
    have h := all16_ok t_iv l0
    rw [Bool.or_eq_true] at h
    rcases h with h | h
    · exact absurd (Nat.eq_of_beq_eq_true h) z0
    · exact eq_of_beq h
  have hB : gm s1 (gm s1 (iv s0)) ≠ s2 := by
    rcases hB with h | h | h
    · exact absurd h z0
    · exact absurd h z1
    · exact h
  rw [n1, cond_true, hi, bindS, p_mul l1 (iv_lt _), bindS]
  obtain ⟨y, hy⟩ : ∃ y, fi_GfLog ((gm s1 (iv s0) : Nat) : Int) = some y := Option.isSome_iff_exists.1 (all16_ok t_log (gm_lt s1 (iv s0)))
  rw [hy, bindS]
  cases decide (y < (11 : Int)) with
  | false => rfl
  | true =>
    have hne : (((gm s1 (gm s1 (iv s0)) : Nat) : Int) == (s2 : Int)) = false := by
      rw [beq_nat]
      cases h : Nat.beq (gm s1 (gm s1 (iv s0))) s2 with
      | false => rfl
      | true => exact absurd (Nat.eq_of_beq_eq_true h) hB
    rw [cond_true, p_mul l1 (gm_lt _ _), bindS, hne, cond_false]
theorem p_FnDetects (l : List Int) : fl_FnDetects l = some true := by
  unfold fl_FnDetects fl_big
  rw [bindS]
  by_cases hbig : (l.length : Int) > 1048576
  · rw [decide_eq_true hbig]; rfl
  · rw [decide_eq_false hbig, cond_false]
    obtain ⟨d, e1, hd, hd16⟩ := p_DrawData l (by omega)
    obtain ⟨p, e2, hp, hpx⟩ := p_places l (by omega)
    obtain ⟨w, e3, hl, hw, s0, s1, s2⟩ := p_senc hd16 hd
    have k0 : 0 ≤ (0 : Int) ∧ (0 : Int).toNat < p.length := ⟨by omega, by simp; omega⟩
    have k1 : 0 ≤ (1 : Int) ∧ (1 : Int).toNat < p.length := ⟨by omega, by simp; omega⟩
    have k2 : 0 ≤ (2 : Int) ∧ (2 : Int).toNat < p.length := ⟨by omega, by simp; omega⟩
    have k3 : 0 ≤ (3 : Int) ∧ (3 : Int).toNat < p.length := ⟨by omega, by simp; omega⟩
    have x0 := hpx _ (List.getElem_mem k0.2)
    have x1 := hpx _ (List.getElem_mem k1.2)
    have x2 := hpx _ (List.getElem_mem k2.2)
    have x3 := hpx _ (List.getElem_mem k3.2)
    have t0 := tmod_bd x0.1 (show (0 : Int) < 11 by omega)
    have t1 := tmod_bd x1.1 (show (0 : Int) < 10 by omega)
    have t2 := tmod_bd x2.1 (show (0 : Int) < 15 by omega)
    have t3 := tmod_bd x3.1 (show (0 : Int) < 15 by omega)
    obtain ⟨i, hi⟩ : ∃ k : Nat, (p[(0 : Int).toNat]'k0.2).tmod 11 = (k : Int) := ⟨_, (Int.toNat_of_nonneg t0.1).symm⟩
    obtain ⟨b, hb⟩ : ∃ e : Nat, (p[(1 : Int).toNat]'k1.2).tmod 10 = (e : Int) := ⟨_, (Int.toNat_of_nonneg t1.1).symm⟩
    obtain ⟨e, he⟩ : ∃ e : Nat, (p[(2 : Int).toNat]'k2.2).tmod 15 = (e : Int) := ⟨_, (Int.toNat_of_nonneg t2.1).symm⟩
    obtain ⟨f, hf⟩ : ∃ e : Nat, (p[(3 : Int).toNat]'k3.2).tmod 15 = (e : Int) := ⟨_, (Int.toNat_of_nonneg t3.1).symm⟩
    rw [hi] at t0
    rw [hb] at t1
    rw [he] at t2
    rw [hf] at t3
    obtain ⟨k, hk⟩ : ∃ k : Nat, k = (i + 1 + b) % 11 := ⟨_, rfl⟩
    have hkI : (IntKind.i64.wrap (IntKind.i64.wrap ((i : Int) + 1) + (b : Int))).tmod 11 = (k : Int) := by
      rw [wrap_succ (by omega), w64 (by omega) (by omega), ← Int.natCast_add, hk]
      rfl
    have hk11 : k < 11 := by omega
    have hik : i ≠ k := by omega
    have c4 : IntKind.i64.wrap (1 + (e : Int)) = ((1 + e : Nat) : Int) := by
      rw [w64 (by omega) (by omega)]; simp
    have c5 : IntKind.i64.wrap (1 + (f : Int)) = ((1 + f : Nat) : Int) := by
      rw [w64 (by omega) (by omega)]; simp
    have hiw : i < (toI w).length := by rw [toI_len]; omega
    have k4 : 0 ≤ (i : Int) ∧ (i : Int).toNat < (toI w).length := ⟨by omega, hiw⟩
    have c6 : (toI w)[(i : Int).toNat]'k4.2 = ((w.getD i 0 : Nat) : Int) := toI_get hiw
    obtain ⟨v, hv⟩ : ∃ v, v = w.set i (w.getD i 0 ^^^ (1 + e)) := ⟨_, rfl⟩
    have c7 : (toI w).set (i : Int).toNat ((w.getD i 0 ^^^ (1 + e) : Nat) : Int) = toI v := by rw [hv]; exact toI_set _ _ _
    rw [e1, bindS, e3, bindS, e2, bindS, dif_pos k0, dif_pos k0.2]
    dsimp only
    rw [dif_pos k1, dif_pos k1.2]
    try dsimp only
    simp only [hi, hb, hkI]
    rw [dif_pos k4, dif_pos k4.2]
    try dsimp only
    rw [dif_pos k2, dif_pos k2.2]
    try dsimp only
    rw [dif_pos k4, dif_pos k4.2]
    try dsimp only
    simp only [c6, he, c4, p_xor (hw.get i) (show 1 + e < 16 by omega), c7]
    have hw1 : Wd16 (w.set i (w.getD i 0 ^^^ (1 + e))) := hw.set (xor_lt (hw.get i) (by omega))
    have hl1 : (w.set i (w.getD i 0 ^^^ (1 + e))).length = 11 := by rw [List.length_set, hl]
    have y0 : synp (w.set i (w.getD i 0 ^^^ (1 + e))) 0 11 = 1 + e := by
      rw [synp_upd hw hl (by omega) (by omega), s0, Nat.zero_xor, Nat.mul_zero]; exact gm_one (by omega)
    have y1 : synp (w.set i (w.getD i 0 ^^^ (1 + e))) 1 11 = gm (1 + e) (pw i) := by
      rw [synp_upd hw hl (by omega) (by omega), s1, Nat.zero_xor, Nat.mul_one]
    have y2 : synp (w.set i (w.getD i 0 ^^^ (1 + e))) 2 11 = gm (1 + e) (pw (i * 2)) := by
      rw [synp_upd hw hl (by omega) (by omega), s2, Nat.zero_xor]
    rw [← hv] at hw1 hl1 y0 y1 y2
    have hkw : k < (toI v).length := by rw [toI_len]; omega
    have k5 : 0 ≤ (k : Int) ∧ (k : Int).toNat < (toI v).length := ⟨by omega, hkw⟩
    have c8 : (toI v)[(k : Int).toNat]'k5.2 = ((v.getD k 0 : Nat) : Int) := toI_get hkw
    have c9 : (toI v).set (k : Int).toNat ((v.getD k 0 ^^^ (1 + f) : Nat) : Int) = toI (v.set k (v.getD k 0 ^^^ (1 + f))) := toI_set _ _ _
    rw [dif_pos k5, dif_pos k5.2]
    try dsimp only
    rw [dif_pos k3, dif_pos k3.2]
    try dsimp only
    rw [dif_pos k5, dif_pos k5.2]
    try dsimp only
    simp only [c8, hf, c5, p_xor (hw1.get k) (show 1 + f < 16 by omega), c9]
    have hw2 : Wd16 (v.set k (v.getD k 0 ^^^ (1 + f))) := hw1.set (xor_lt (hw1.get k) (by omega))
    have hl2 : (v.set k (v.getD k 0 ^^^ (1 + f))).length = 11 := by rw [List.length_set, hl1]
    have z0 : synp (v.set k (v.getD k 0 ^^^ (1 + f))) 0 11 = (1 + e) ^^^ (1 + f) := by
      rw [synp_upd hw1 hl1 (by omega) hk11, y0, Nat.mul_zero]; exact congrArg _ (gm_one (by omega))
    have z1 : synp (v.set k (v.getD k 0 ^^^ (1 + f))) 1 11 = gm (1 + e) (pw i) ^^^ gm (1 + f) (pw k) := by
      rw [synp_upd hw1 hl1 (by omega) hk11, y1, Nat.mul_one]
    have z2 : synp (v.set k (v.getD k 0 ^^^ (1 + f))) 2 11 = gm (1 + e) (pw (i * 2)) ^^^ gm (1 + f) (pw (k * 2)) := by
      rw [synp_upd hw1 hl1 (by omega) hk11, y2]
    have tf := two_facts (i := i) (k := k) (e := 1 + e) (f := 1 + f) (by omega) hk11 hik (by omega) (by omega) (by omega) (by omega)
    obtain ⟨g1, g2⟩ := p_lost hw2 hl2 z0 z1 z2 tf.1 tf.2
    have hs1 := p_sameInts (toI (v.set k (v.getD k 0 ^^^ (1 + f)))) (by rw [toI_len]; omega)
    rw [g2, bindS, hs1, bindS, cond_true, beq_self_eq_true, cond_true, beq_self_eq_true, cond_true, g1]
    rfl
theorem law_FnDetects (v0 : Value) (w : World) (r0 : RdL .u8 (fun x : Int => 0 ≤ x ∧ x ≤ 255) w v0) : Calls Try.prog 12 #[v0] w fun e w' => e = .returned (.bool true) ∧ Below w.heap.size w w' := by
  obtain ⟨l, hl, _, h0⟩ := r0
  exact law_of ok_fl_FnDetects (ctrT_run (ai := [(false, .sl .u8)]) (x := (l, ())) (by kernel_rfl) (p_FnDetects l)) (args1 h0)
end Go.Proofs.Ytkgliadgedamiaa
