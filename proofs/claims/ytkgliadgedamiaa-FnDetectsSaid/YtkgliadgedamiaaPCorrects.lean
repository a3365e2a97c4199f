/-
  The law that one wrong symbol is put right. Nothing here is a claim.
-/
import Derived.Test.YtkgliadgedamiaaPCodeD
namespace Go.Proofs.Ytkgliadgedamiaa
open Go.RowKit
set_option linter.unusedVariables false
set_option maxRecDepth 100000

theorem p_DrawData (l : List Int) (h : l.length ≤ 1073741823) : ∃ d, fs_DrawData l = some (toI d) ∧ d.length = 8 ∧ Wd16 d := by
  unfold fs_DrawData
  obtain ⟨h0, e0⟩ := p_new l h
  rw [e0, bindS]
  unfold fs_l12Data
  obtain ⟨z, h1, d, c, rfl, hd, hd16⟩ := iter_ind (step := Lfs_l12Data_0)
    (fun x => ∃ (i : Nat) (c : DCur) (d : List Nat), x = (((), (), (i : Int), ()), (((), c.i, c.h, ()), toI d, l, ())) ∧ i ≤ 8 ∧ Cok l c ∧ d.length = i ∧ Wd16 d)
    (fun x => 8 - x.1.2.2.1.toNat) (fun z => ∃ (d : List Nat) (c : DCur), z = .inl (((), ()), (toI d, ((), c.i, c.h, ()), l, ())) ∧ d.length = 8 ∧ Wd16 d) (by
      rintro x ⟨i, c, d, rfl, hi, hc, hd, hx⟩
      unfold Lfs_l12Data_0
      dsimp only
      by_cases h' : i < 8
      · have c1 : decide ((i : Int) < (8 : Int)) = true := decide_eq_true (by omega)
        rw [c1, cond_true, hc.eta]
        left
        obtain ⟨x, c', e1, hc', hx0, _, hx1⟩ := p_below hc 16
        rw [e1]
        have ho : okLen ((toI d).length + ([x] : List Int).length) = true := by
          rw [toI_len]
          unfold okLen; simp; omega
        have hxn : toI (d ++ [x.toNat]) = toI d ++ [x] := by
          have : ((x.toNat : Nat) : Int) = x := Int.toNat_of_nonneg hx0
          simp [toI, this]
        refine ⟨(((), (), IntKind.i64.wrap ((i : Int) + 1), ()), (((), c'.i, c'.h, ()), (toI d ++ [x]), l, ())), ?_, ⟨i + 1, c', d ++ [x.toNat], by rw [wrap_succ (by omega), hxn], by omega, hc', by simp [hd], fun u hu => ?_⟩, ?_⟩
        · show (bif okLen ((toI d).length + ([x] : List Int).length) then _ else none) = _
          rw [ho]; rfl
        · rcases List.mem_append.1 hu with hu | hu
          · exact hx u hu
          · have := hx1 (by omega)
            rw [List.mem_singleton.1 hu]; omega
        · dsimp only
          rw [wrap_succ (by omega)]
          omega
      · have c1 : decide ((i : Int) < (8 : Int)) = false := decide_eq_false (by omega)
        rw [c1, cond_false]
        right
        exact ⟨_, rfl, d, c, rfl, by omega, hx⟩)
    big (((), (), ((0 : Nat) : Int), ()), (((), (0 : Int), h0, ()), toI [], l, ())) ⟨0, ⟨l, 0, h0⟩, [], rfl, by omega, new_cok l h0 h, rfl, by intro x hx; cases hx⟩ (by dsimp only; unfold big; omega)
  have h1 : iter Lfs_l12Data_0 big (((), (), (0 : Int), ()), (((), (0 : Int), h0, ()), ([] : List Int), l, ())) = some _ := h1
  dsimp only
  rw [h1]
  exact ⟨d, rfl, hd, hd16⟩
theorem p_dataOf {w : List Nat} (hw : Wd16 w) (hl : w.length = 11) : fi_DataOf (toI w) = some (toI (w.drop 3)) := by
  unfold fi_DataOf
  have c0 : ((w.length : Int) == (11 : Int)) = true := by rw [hl]; rfl
  have hl' : (toI w).length = 11 := by rw [toI_len, hl]
  rw [p_symbols hw (by omega), bindS, c0, show (!true) = false from rfl, cond_false, hl', if_pos (by decide)]
  have e : ((toI w).take ((11 : Nat) : Int).toNat).drop (3 : Int).toNat = toI (w.drop 3) := by
    show ((toI w).take 11).drop 3 = _
    rw [List.take_of_length_le (by omega)]
    exact (List.map_drop ..).symm
  have c1 : okLen (([] : List Int).length + (toI (w.drop 3)).length) = true := by
    rw [toI_len, List.length_drop, hl]; rfl
  rw [e, c1, cond_true]
  rfl
theorem p_FnCorrects (l : List Int) : fl_FnCorrects l = some true := by
  unfold fl_FnCorrects fl_big
  rw [bindS]
  by_cases hbig : (l.length : Int) > 1048576
  · rw [decide_eq_true hbig]; rfl
  · rw [decide_eq_false hbig, cond_false]
    obtain ⟨d, e1, hd, hd16⟩ := p_DrawData l (by omega)
    obtain ⟨p, e2, hp, hpx⟩ := p_places l (by omega)
    obtain ⟨w, e3, hl, hw, hdw, s0, s1, s2⟩ := p_enc hd16 hd
    have hl' : (toI w).length = 11 := by rw [toI_len, hl]
    have c0 : (((toI w).length : Int) != (11 : Int)) = false := by rw [hl']; rfl
    have c1 : okLen (([] : List Int).length + (toI w).length) = true := by rw [hl']; rfl
    have c2 : ((w.length : Int) == (11 : Int)) = true := by rw [hl]; rfl
    have hok : fi_WordOk (toI w) = some true := by rw [p_wordOk hw hl, s0, s1, s2]; rfl
    have k0 : 0 ≤ (0 : Int) ∧ (0 : Int).toNat < p.length := ⟨by omega, by simp; omega⟩
    have k1 : 0 ≤ (1 : Int) ∧ (1 : Int).toNat < p.length := ⟨by omega, by simp; omega⟩
    rw [e1, bindS, e2, bindS, e3, bindS, c0, cond_false, hok, bindS, show (!true) = false from rfl, cond_false, p_symbols hw (by omega), bindS, c2, show (!true) = false from rfl, cond_false, c1, cond_true, dif_pos k0, dif_pos k0.2]
    dsimp only
    have x0 := hpx _ (List.getElem_mem k0.2)
    have x1 := hpx _ (List.getElem_mem k1.2)
    have t0 := tmod_bd x0.1 (show (0 : Int) < 11 by omega)
    have t1 := tmod_bd x1.1 (show (0 : Int) < 15 by omega)
    obtain ⟨k, hk⟩ : ∃ k : Nat, (p[(0 : Int).toNat]'k0.2).tmod 11 = (k : Int) := ⟨_, (Int.toNat_of_nonneg t0.1).symm⟩
    obtain ⟨e, he⟩ : ∃ e : Nat, (p[(1 : Int).toNat]'k1.2).tmod 15 = (e : Int) := ⟨_, (Int.toNat_of_nonneg t1.1).symm⟩
    rw [hk] at t0
    rw [he] at t1
    have hkw : k < (toI w).length := by omega
    have k2 : 0 ≤ (k : Int) ∧ (k : Int).toNat < (([] : List Int) ++ toI w).length := ⟨by omega, by simpa using hkw⟩
    have c3 : (([] : List Int) ++ toI w)[(k : Int).toNat]'k2.2 = ((w.getD k 0 : Nat) : Int) := toI_get hkw
    simp only [hk]
    rw [dif_pos k2, dif_pos k2.2]
    try dsimp only
    rw [dif_pos k1, dif_pos k1.2]
    try dsimp only
    rw [dif_pos k2, dif_pos k2.2]
    try dsimp only
    have c4 : IntKind.i64.wrap (1 + (e : Int)) = ((1 + e : Nat) : Int) := by
      rw [w64 (by omega) (by omega)]; simp
    rw [c3, he, c4, p_xor (hw.get k) (by omega)]
    have c5 : (([] : List Int) ++ toI w).set (k : Int).toNat ((w.getD k 0 ^^^ (1 + e) : Nat) : Int) = toI (w.set k (w.getD k 0 ^^^ (1 + e))) := by
      exact (List.map_set ..).symm
    rw [c5, p_fix hw hl s0 s1 s2 (by omega) (by omega) (by omega), bindS, p_clean hw hl s0 s1 s2, bindS]
    have hs1 := p_sameInts (toI w) (by omega)
    have hs2 := p_sameInts (toI d) (by rw [toI_len]; omega)
    rw [hs1, bindS, cond_true, beq_self_eq_true, cond_true, beq_self_eq_true, cond_true, p_dataOf hw hl, bindS, hdw, hs2, bindS, cond_true, bindS, cond_true, beq_self_eq_true, cond_true]
    rfl
theorem law_FnCorrects (v0 : Value) (w : World) (r0 : RdL .u8 (fun x : Int => 0 ≤ x ∧ x ≤ 255) w v0) : Calls Try.prog 7 #[v0] w fun e w' => e = .returned (.bool true) ∧ Below w.heap.size w w' := by
  obtain ⟨l, hl, _, h0⟩ := r0
  exact law_of ok_fl_FnCorrects (ctrT_run (ai := [(false, .sl .u8)]) (x := (l, ())) (by kernel_rfl) (p_FnCorrects l)) (args1 h0)
end Go.Proofs.Ytkgliadgedamiaa
