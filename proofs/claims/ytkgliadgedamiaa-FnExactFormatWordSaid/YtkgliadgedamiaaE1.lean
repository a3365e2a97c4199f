import Derived.Test.YtkgliadgedamiaaBase
import Derived.Test.YtkgliadgedamiaaOpen
import Derived.Test.YtkgliadgedamiaaRows
import Derived.WalkSpells
import Derived.WalkLawsBesides
import Derived.Handy
namespace Go.Proofs.Ytkgliadgedamiaa
open Go.RowKit
set_option maxRecDepth 100000

theorem Try.info5 : (Try.prog.info? 5).map (fun i => (i.zero, i.size, i.bytes)) = some (some (.int .u8 0), 1, 1) := by kernel_rfl

set_option maxHeartbeats 400000 in
theorem i_between (n a b : Int) (w : World) :
    Calls Try.prog 99 #[.int .i64 n, .int .i64 a, .int .i64 b] w fun e w' => e = .returned (.bool (inB n a b)) ∧ w = w' := by
  go_enter Try.func99, Try.ntmps99
  by_cases h1 : a ≤ n
  · go_wp2
    go_ret
    exact ⟨by simp [inB, h1], rfl⟩
  · go_wp2
    go_ret
    exact ⟨by simp [inB]; omega, rfl⟩

set_option maxHeartbeats 400000 in
theorem s_l01In (n a b : Int) (w : World) :
    Calls Try.prog 95 #[.int .i64 n, .int .i64 a, .int .i64 b] w fun e w' => e = .returned (.bool (inB n a b)) ∧ w = w' := by
  go_enter Try.func95, Try.ntmps95
  by_cases h1 : a ≤ n
  · go_wp2
    go_ret
    exact ⟨by simp [inB, h1], rfl⟩
  · go_wp2
    go_ret
    exact ⟨by simp [inB]; omega, rfl⟩

set_option maxHeartbeats 400000 in
theorem i_IsWord (x : Int) (w : World) :
    Calls Try.prog 65 #[.int .i64 x] w fun e w' => e = .returned (.bool (inB x 0 4294967295)) ∧ w = w' := by
  go_enter Try.func65, Try.ntmps65
  go_wp2_with (go_at_call 99; refine (i_between _ _ _ _).mono ?_; rintro e w' ⟨rfl, rfl⟩)
  go_ret
  exact ⟨rfl, rfl⟩

set_option maxHeartbeats 400000 in
theorem s_IsWord (x : Int) (w : World) :
    Calls Try.prog 63 #[.int .i64 x] w fun e w' => e = .returned (.bool (inB x 0 4294967295)) ∧ w = w' := by
  go_enter Try.func63, Try.ntmps63
  by_cases h1 : 0 ≤ x
  · go_wp2_with (go_at_call 95; refine (s_l01In _ _ _ _).mono ?_; rintro e w' ⟨rfl, rfl⟩)
    go_ret
    exact ⟨rfl, rfl⟩
  · go_wp2_with (go_at_call 95; refine (s_l01In _ _ _ _).mono ?_; rintro e w' ⟨rfl, rfl⟩)
    go_ret
    exact ⟨rfl, rfl⟩

set_option maxHeartbeats 400000 in
theorem i_FormatWord_no (x : Int) (hb : inB x 0 4294967295 = false) (w : World) :
    Calls Try.prog 15 #[.int .i64 x] w fun e w' => e = .returned (.string (bs [])) ∧ w = w' := by
  go_enter Try.func15, Try.ntmps15
  go_wp2_with (go_at_call 65; refine (i_IsWord _ _).mono ?_; rintro e w' ⟨rfl, rfl⟩)
  go_ret
  exact ⟨rfl, rfl⟩

theorem fwd_bits (x : Int) (h0 : 0 ≤ x) (h1 : x ≤ 4294967295) (k : Nat) : bits BinOp.and IntKind.i64 (x / 2 ^ (28 - 4 * k)) 15 = (fwd x.toNat k : Int) := by
  have h2 : (0 : Int) < 2 ^ (28 - 4 * k) := Int.pow_pos (by omega)
  rw [i64_and15 _ (Int.ediv_nonneg h0 (by omega)) (by have := Int.ediv_le_self (2 ^ (28 - 4 * k)) h0; omega)]
  unfold fwd
  obtain ⟨n, rfl⟩ := Int.eq_ofNat_of_zero_le h0
  rw [Int.toNat_natCast]
  congr 2

set_option maxHeartbeats 400000 in
theorem i_FormatWord (x : Int) (h0 : 0 ≤ x) (h1 : x ≤ 4294967295) (w : World) :
    Calls Try.prog 15 #[.int .i64 x] w fun e w' => e = .returned (.string (bs (fw x.toNat 8))) ∧ w = w' := by
  have hb := inB_mk h0 h1
  go_enter Try.func15, Try.ntmps15
  go_wp2_with (go_at_call 65; refine (i_IsWord _ _).mono ?_; rintro e w' ⟨rfl, rfl⟩)
  go_loop [3, 4] (fun o i => ∃ k : Nat, k ≤ 8 ∧ i = .int .i64 (28 - 4 * (k : Int)) ∧ o = .string (bs (fw x.toNat k))) (fun _ i => (intOf i + 4).toNat)
  case atStart => exact ⟨0, by omega, by simp, rfl⟩
  case round =>
    obtain ⟨k, hk, rfl, rfl⟩ := hrel
    by_cases hlt : k < 8
    · have hd := fwd_bits x h0 h1 k
      have hl := fwd_lt x.toNat k
      have HS := Lib.hid (hex_cut _ hl)
      have HF := Lib.hid (fw_succ x.toNat k)
      have hsz : (bs (fw x.toNat k)).size ≤ 8 := by rw [bs_size, fw_length]; omega
      generalize fwd x.toNat k = d at *
      go_wp2
      go_round
      case rel => exact ⟨k + 1, by omega, by go_num, by rw [HF.out, ← bs_append, ← HS.out]; rfl⟩
      case measure => simp [intOf]; omega
    · obtain rfl : k = 8 := by omega
      go_wp2
      go_ret
      exact ⟨rfl, rfl⟩

set_option maxHeartbeats 400000 in
theorem s_l01Figure (x : Int) (h0 : 0 ≤ x) (h1 : x < 16) (w : World) :
    Calls Try.prog 64 #[.int .i64 x] w fun e w' => e = .returned (.int .u8 ((hexc x.toNat).toNat : Int)) ∧ w = w' := by
  have HX := Lib.hid (hexc_toNat x.toNat (by omega))
  have hc : ((x.toNat : Nat) : Int) = x := by omega
  have HC := Lib.hid hc; clear hc
  by_cases hx : x < 10
  all_goals
    go_enter Try.func64, Try.ntmps64
    go_wp2
    go_ret
    refine ⟨ret_int ?_, rfl⟩
    rw [HX.out, HC.out]
    split <;> omega

set_option maxHeartbeats 400000 in
theorem s_FormatWord_no (x : Int) (hb : inB x 0 4294967295 = false) (w : World) :
    Calls Try.prog 14 #[.int .i64 x] w fun e w' => e = .returned (.string (bs [])) ∧ w = w' := by
  go_enter Try.func14, Try.ntmps14
  go_wp2_with (go_at_call 63; refine (s_IsWord _ _).mono ?_; rintro e w' ⟨rfl, rfl⟩)
  go_ret
  exact ⟨rfl, rfl⟩

set_option maxHeartbeats 400000 in
theorem s_FormatWord (x : Int) (h0 : 0 ≤ x) (h1 : x ≤ 4294967295) (w : World) :
    Calls Try.prog 14 #[.int .i64 x] w fun e w' => e = .returned (.string (bs (fw x.toNat 8))) ∧ Below w.heap.size w w' := by
  have hb := inB_mk h0 h1
  obtain ⟨i0, hi, hz0, hz1, hz2⟩ := info_parts Try.info5
  go_enter Try.func14, Try.ntmps14
  go_wp2_with (go_at_call 63; refine (s_IsWord _ _).mono ?_; rintro e w' ⟨rfl, rfl⟩)
  go_loopw [3, 4] (fun b i wr => ∃ k : Nat, k ≤ 8 ∧ i = .int .i64 (7 - (k : Int)) ∧ wr.ownsRow w.heap.size 5 1 b k (u8s (fw x.toNat k)) ∧ Below w.heap.size w wr) (fun _ i _ => (intOf i + 1).toNat)
  case atStart => exact ⟨0, by omega, by simp, World.ownsRow_made _ _ _ (Nat.le_refl _) (by unfold maxLen; omega) rfl, (Below.refl _ _).alloc (Nat.le_refl _) _⟩
  case round =>
    obtain ⟨k, hk, rfl, hown, hbel⟩ := hrel
    by_cases hlt : k < 8
    · have hd : bits BinOp.and IntKind.i64 (x / 2 ^ (4 * (7 - k))) 15 = (fwd x.toNat k : Int) := by
        have h := fwd_bits x h0 h1 k
        rw [show 28 - 4 * k = 4 * (7 - k) from by omega] at h
        exact h
      have hl := fwd_lt x.toNat k
      have HF := Lib.hid (fw_succ x.toNat k)
      have HO := Lib.hid hown; clear hown
      generalize fwd x.toNat k = d at *
      have hsz := hbel.size
      have hms : k + 1 ≤ maxLen := by unfold maxLen; omega
      have HC := Lib.hid (cell_one_new wr (.int .u8 ((hexc d).toNat : Int)) 5)
      go_wp2_with (first
        | (go_at_call 64; refine (s_l01Figure _ (by omega) (by omega) _).mono ?_; rintro e w' ⟨rfl, rfl⟩)
        | (at_builtin; refine wpList_append_own _ rfl _ _ 27 rfl w.heap.size 5 i0 (.int .u8 0) 1 1 Try.underlying27 hi hz0 hz1 hz2 rfl (by decide) _ _ _ rfl (HO.out.alloc _) ⟨wr.heap.size, 0, none⟩ 1 1 [.int .u8 ((hexc d).toNat : Int)] rfl rfl HC.out (oneCell_one rfl) hms (by omega) (by simp; omega) ?_; intro v1 w1 hown1 hg1 _))
      have hb1 := own_step hbel hsz HO.out hg1
      have HO1 := Lib.hid hown1; clear hown1
      go_wp2
      go_roundw
      case rel => exact ⟨k + 1, by omega, by go_num, by rw [HF.out, u8s_append]; exact HO1.out, hb1⟩
      case measure => simp [intOf]; omega
    · obtain rfl : k = 8 := by omega
      have hcv := run_str_own 27 9 Try.underlying27 Try.underlying5 Try.underlying9 hown
      clear hi hz0 hz1 hz2 hown
      go_wp2
      go_ret
      exact ⟨rfl, hbel⟩

set_option maxHeartbeats 400000 in
theorem law_FormatWord (v : Value) (w : World) (r : RdInt w v) :
    Calls Try.prog 3 #[v] w fun e w' => e = .returned (.bool true) ∧ Below w.heap.size w w' := by
  obtain ⟨x, rfl, _, _⟩ := r
  by_cases hb : 0 ≤ x ∧ x ≤ 4294967295
  · go_enter Try.func3, Try.ntmps3
    go_wp2_with (first
      | (go_at_call 14; refine (s_FormatWord _ hb.1 hb.2 _).mono ?_; rintro e w1 ⟨rfl, hb1⟩)
      | (go_at_call 15; refine (i_FormatWord _ hb.1 hb.2 _).mono ?_; rintro e w2 ⟨rfl, rfl⟩))
    go_ret
    exact ⟨rfl, hb1⟩
  · have hb' := inB_not hb
    clear hb
    go_enter Try.func3, Try.ntmps3
    go_wp2_with (first
      | (go_at_call 14; refine (s_FormatWord_no _ hb' _).mono ?_; rintro e w1 ⟨rfl, rfl⟩)
      | (go_at_call 15; refine (i_FormatWord_no _ hb' _).mono ?_; rintro e w2 ⟨rfl, rfl⟩))
    go_ret
    exact ⟨rfl, Below.refl _ _⟩
end Go.Proofs.Ytkgliadgedamiaa
