/-
  Contracts of the functions that write a word in hexadecimal, and the walk of the law FnExactFormatWord: it returns true for every int. No condition.
-/
import Derived.Test.YtkgliadgedamiaaBase
import Derived.Test.YtkgliadgedamiaaOpen
import Derived.Test.YtkgliadgedamiaaRows
import Derived.WalkSpells
import Derived.WalkLawsBesides
import Derived.Handy
namespace Go.Proofs.Ytkgliadgedamiaa
open Go.RowKit
set_option maxRecDepth 100000

theorem Try.info5 : (Try.prog.info? 5).map (fun i => (i.zero, i.size, i.bytes)) = some (some (.int .u8 0), 1, 1) := by kernel_rfl

set_option maxHeartbeats 400000 in
theorem i_between (n a b : Int) (w : World) :
    Calls Try.prog 99 #[.int .i64 n, .int .i64 a, .int .i64 b] w fun e w' => e = .returned (.bool (inB n a b)) ∧ w = w' := by
  go_enter Try.func99, Try.ntmps99
  by_cases h1 : a ≤ n
  · go_wp2
    go_ret
    exact ⟨by simp [inB, h1], rfl⟩
  · go_wp2
    go_ret
    exact ⟨by simp [inB]; omega, rfl⟩

set_option maxHeartbeats 400000 in
theorem s_l01In (n a b : Int) (w : World) :
    Calls Try.prog 95 #[.int .i64 n, .int .i64 a, .int .i64 b] w fun e w' => e = .returned (.bool (inB n a b)) ∧ w = w' := by
  go_enter Try.func95, Try.ntmps95
  by_cases h1 : a ≤ n
  · go_wp2
    go_ret
    exact ⟨by simp [inB, h1], rfl⟩
  · go_wp2
    go_ret
    exact ⟨by simp [inB]; omega, rfl⟩

set_option maxHeartbeats 400000 in
theorem i_IsWord (x : Int) (w : World) :
    Calls Try.prog 65 #[.int .i64 x] w fun e w' => e = .returned (.bool (inB x 0 4294967295)) ∧ w = w' := by
  go_enter Try.func65, Try.ntmps65
  go_wp2_with (go_at_call 99; refine (i_between _ _ _ _).mono ?_; rintro e w' ⟨rfl, rfl⟩)
  go_ret
  exact ⟨rfl, rfl⟩

set_option maxHeartbeats 400000 in
theorem s_IsWord (x : Int) (w : World) :
    Calls Try.prog 63 #[.int .i64 x] w fun e w' => e = .returned (.bool (inB x 0 4294967295)) ∧ w = w' := by
  go_enter Try.func63, Try.ntmps63
  by_cases h1 : 0 ≤ x
  · go_wp2_with (go_at_call 95; refine (s_l01In _ _ _ _).mono ?_; rintro e w' ⟨rfl, rfl⟩)
    go_ret
    exact ⟨rfl, rfl⟩
  · go_wp2_with (go_at_call 95; refine (s_l01In _ _ _ _).mono ?_; rintro e w' ⟨rfl, rfl⟩)
    go_ret
    exact ⟨rfl, rfl⟩

set_option maxHeartbeats 400000 in
theorem i_FormatWord_no (x : Int) (hb : inB x 0 4294967295 = false) (w : World) :
    Calls Try.prog 15 #[.int .i64 x] w fun e w' => e = .returned (.string (bs [])) ∧ w = w' := by
  go_enter Try.func15, Try.ntmps15
  go_wp2_with (go_at_call 65; refine (i_IsWord _ _).mono ?_; rintro e w' ⟨rfl, rfl⟩)
  go_ret
  exact ⟨rfl, rfl⟩

theorem fwd_bits (x : Int) (h0 : 0 ≤ x) (h1 : x ≤ 4294967295) (k : Nat) : bits BinOp.and IntKind.i64 (x / 2 ^ (28 - 4 * k)) 15 = (fwd x.toNat k : Int) := by
  have h2 : (0 : Int) < 2 ^ (28 - 4 * k) := Int.pow_pos (by omega)
  rw [i64_and15 _ (Int.ediv_nonneg h0 (by omega)) (by have := Int.ediv_le_self (2 ^ (28 - 4 * k)) h0; omega)]
  unfold fwd
  obtain ⟨n, rfl⟩ := Int.eq_ofNat_of_zero_le h0
  rw [Int.toNat_natCast]
  congr 2

set_option maxHeartbeats 400000 in
theorem i_FormatWord (x : Int) (h0 : 0 ≤ x) (h1 : x ≤ 4294967295) (w : World) :
    Calls Try.prog 15 #[.int .i64 x] w fun e w' => e = .returned (.string (bs (fw x.toNat 8))) ∧ w = w' := by
  have hb := inB_mk h0 h1
  go_enter Try.func15, Try.ntmps15
  go_wp2_with (go_at_call 65; refine (i_IsWord _ _).mono ?_; rintro e w' ⟨rfl, rfl⟩)
  go_loop [3, 4] (fun o i => ∃ k : Nat, k ≤ 8 ∧ i = .int .i64 (28 - 4 * (k : Int)) ∧ o = .string (bs (fw x.toNat k))) (fun _ i => (intOf i + 4).toNat)
  case atStart => exact ⟨0, by omega, by simp, rfl⟩
  case round =>
    obtain ⟨k, hk, rfl, rfl⟩ := hrel
    by_cases hlt : k < 8
    · have hd := fwd_bits x h0 h1 k
      have hl := fwd_lt x.toNat k
      have HS := Lib.hid (hex_cut _ hl)
      have HF := Lib.hid (fw_succ x.toNat k)
      have hsz : (bs (fw x.toNat k)).size ≤ 8 := by rw [bs_size, fw_length]; omega
      generalize fwd x.toNat k = d at *
      go_wp2
      go_round
      case rel => exact ⟨k + 1, by omega, by go_num, by rw [HF.out, ← bs_append, ← HS.out]; rfl⟩
      case measure => simp [intOf]; omega
    · obtain rfl : k = 8 := by omega
      go_wp2
      go_ret
      exact ⟨rfl, rfl⟩

set_option maxHeartbeats 400000 in
theorem s_l01Figure (x : Int) (h0 : 0 ≤ x) (h1 : x < 16) (w : World) :
    Calls Try.prog 64 #[.int .i64 x] w fun e w' => e = .returned (.int .u8 ((hexc x.toNat).toNat : Int)) ∧ w = w' := by
  have HX := Lib.hid (hexc_toNat x.toNat (by omega))
  have hc : ((x.toNat : Nat) : Int) = x := by omega
  have HC := Lib.hid hc; clear hc
  by_cases hx : x < 10
  all_goals
    go_enter Try.func64, Try.ntmps64
    go_wp2
    go_ret
    refine ⟨ret_int ?_, rfl⟩
    rw [HX.out, HC.out]
    split <;> omega

set_option maxHeartbeats 400000 in
theorem s_FormatWord_no (x : Int) (hb : inB x 0 4294967295 = false) (w : World) :
    Calls Try.prog 14 #[.int .i64 x] w fun e w' => e = .returned (.string (bs [])) ∧ w = w' := by
  go_enter Try.func14, Try.ntmps14
  go_wp2_with (go_at_call 63; refine (s_IsWord _ _).mono ?_; rintro e w' ⟨rfl, rfl⟩)
  go_ret
  exact ⟨rfl, rfl⟩

set_option maxHeartbeats 400000 in
theorem s_FormatWord (x : Int) (h0 : 0 ≤ x) (h1 : x ≤ 4294967295) (w : World) :
    Calls Try.prog 14 #[.int .i64 x] w fun e w' => e = .returned (.string (bs (fw x.toNat 8))) ∧ Below w.heap.size w w' := by
  have hb := inB_mk h0 h1
  obtain ⟨i0, hi, hz0, hz1, hz2⟩ := info_parts Try.info5
  go_enter Try.func14, Try.ntmps14
  go_wp2_with (go_at_call 63; refine (s_IsWord _ _).mono ?_; rintro e w' ⟨rfl, rfl⟩)
  go_loopw [3, 4] (fun b i wr => ∃ k : Nat, k ≤ 8 ∧ i = .int .i64 (7 - (k : Int)) ∧ wr.ownsRow w.heap.size 5 1 b k (u8s (fw x.toNat k)) ∧ Below w.heap.size w wr) (fun _ i _ => (intOf i + 1).toNat)
  case atStart => exact ⟨0, by omega, by simp, World.ownsRow_made _ _ _ (Nat.le_refl _) (by unfold maxLen; omega) rfl, (Below.refl _ _).alloc (Nat.le_refl _) _⟩
  case round =>
    obtain ⟨k, hk, rfl, hown, hbel⟩ := hrel
    by_cases hlt : k < 8
    · have hd : bits BinOp.and IntKind.i64 (x / 2 ^ (4 * (7 - k))) 15 = (fwd x.toNat k : Int) := by
        have h := fwd_bits x h0 h1 k
        rw [show 28 - 4 * k = 4 * (7 - k) from by omega] at h
        exact h
      have hl := fwd_lt x.toNat k
      have HF := Lib.hid (fw_succ x.toNat k)
      have HO := Lib.hid hown; clear hown
      generalize fwd x.toNat k = d at *
      have hsz := hbel.size
      have hms : k + 1 ≤ maxLen := by unfold maxLen; omega
      have HC := Lib.hid (cell_one_new wr (.int .u8 ((hexc d).toNat : Int)) 5)
      go_wp2_with (first
        | (go_at_call 64; refine (s_l01Figure _ (by omega) (by omega) _).mono ?_; rintro e w' ⟨rfl, rfl⟩)
        | (at_builtin; refine wpList_append_own _ rfl _ _ 27 rfl w.heap.size 5 i0 (.int .u8 0) 1 1 Try.underlying27 hi hz0 hz1 hz2 rfl (by decide) _ _ _ rfl (HO.out.alloc _) ⟨wr.heap.size, 0, none⟩ 1 1 [.int .u8 ((hexc d).toNat : Int)] rfl rfl HC.out (oneCell_one rfl) hms (by omega) (by simp; omega) ?_; intro v1 w1 hown1 hg1 _))
      have hb1 := own_step hbel hsz HO.out hg1
      have HO1 := Lib.hid hown1; clear hown1
      go_wp2
      go_roundw
      case rel => exact ⟨k + 1, by omega, by go_num, by rw [HF.out, u8s_append]; exact HO1.out, hb1⟩
      case measure => simp [intOf]; omega
    · obtain rfl : k = 8 := by omega
      have hcv := run_str_own 27 9 Try.underlying27 Try.underlying5 Try.underlying9 hown
      clear hi hz0 hz1 hz2 hown
      go_wp2
      go_ret
      exact ⟨rfl, hbel⟩

set_option maxHeartbeats 400000 in
theorem law_FormatWord (v : Value) (w : World) (r : RdInt w v) :
    Calls Try.prog 3 #[v] w fun e w' => e = .returned (.bool true) ∧ Below w.heap.size w w' := by
  obtain ⟨x, rfl, _, _⟩ := r
  by_cases hb : 0 ≤ x ∧ x ≤ 4294967295
  · go_enter Try.func3, Try.ntmps3
    go_wp2_with (first
      | (go_at_call 14; refine (s_FormatWord _ hb.1 hb.2 _).mono ?_; rintro e w1 ⟨rfl, hb1⟩)
      | (go_at_call 15; refine (i_FormatWord _ hb.1 hb.2 _).mono ?_; rintro e w2 ⟨rfl, rfl⟩))
    go_ret
    exact ⟨rfl, hb1⟩
  · have hb' := inB_not hb
    clear hb
    go_enter Try.func3, Try.ntmps3
    go_wp2_with (first
      | (go_at_call 14; refine (s_FormatWord_no _ hb' _).mono ?_; rintro e w1 ⟨rfl, rfl⟩)
      | (go_at_call 15; refine (i_FormatWord_no _ hb' _).mono ?_; rintro e w2 ⟨rfl, rfl⟩))
    go_ret
    exact ⟨rfl, Below.refl _ _⟩

set_option maxHeartbeats 400000 in
theorem str_IndexByte_lite (s : ByteArray) (c : Int) (w : World) :
    Calls Try.prog 107 #[.string s, .int .u8 c] w fun e w' => e = .returned (.int .i64 (Lib.indexByte s.data.toList c.toNat.toUInt8)) ∧ w = w' := by
  go_enter Try.func107, Try.ntmps107
  go_wp2
  rw [run_callFunc_extern Try.func119 (by kernel_rfl) (by kernel_rfl) (by kernel_rfl) (e := Extern.BytealgIndexByte.indexByte) (by kernel_rfl), Lib.run_indexByteString]
  simp only [Result.andThen]
  rw [Oper.upon_value]
  go_wp2
  go_ret
  exact ⟨rfl, rfl⟩

set_option maxHeartbeats 400000 in
theorem str_IndexByte (s : ByteArray) (c : Int) (w : World) :
    Calls Try.prog 67 #[.string s, .int .u8 c] w fun e w' => e = .returned (.int .i64 (Lib.indexByte s.data.toList c.toNat.toUInt8)) ∧ w = w' := by
  go_enter Try.func67, Try.ntmps67
  go_wp2_with (go_at_call 107; refine (str_IndexByte_lite _ _ _).mono ?_; rintro e w' ⟨rfl, rfl⟩)
  go_ret
  exact ⟨rfl, rfl⟩

set_option maxHeartbeats 400000 in
theorem s_l01Value (c : UInt8) (w : World) :
    Calls Try.prog 66 #[.int .u8 (c.toNat : Int)] w fun e w' => e = .returned (.int .i64 (hexv c)) ∧ w = w' := by
  have hc : (c.toNat : Int) ≤ 255 := by have := c.toNat_lt; omega
  by_cases h1 : 48 ≤ (c.toNat : Int)
  · by_cases h2 : (c.toNat : Int) ≤ 57
    · go_enter Try.func66, Try.ntmps66
      go_wp2
      go_ret
      exact ⟨ret_int (by unfold hexv; rw [if_pos ⟨h1, h2⟩]), rfl⟩
    · by_cases h3 : 97 ≤ (c.toNat : Int)
      · by_cases h4 : (c.toNat : Int) ≤ 102
        · go_enter Try.func66, Try.ntmps66
          go_wp2
          go_ret
          exact ⟨ret_int (by unfold hexv; rw [if_neg (by omega), if_pos ⟨h3, h4⟩]; show (c.toNat : Int) - 97 + 10 = _; omega), rfl⟩
        · go_enter Try.func66, Try.ntmps66
          go_wp2
          go_ret
          exact ⟨ret_int (by unfold hexv; rw [if_neg (by omega), if_neg (by omega)]), rfl⟩
      · go_enter Try.func66, Try.ntmps66
        go_wp2
        go_ret
        exact ⟨ret_int (by unfold hexv; rw [if_neg (by omega), if_neg (by omega)]), rfl⟩
  · go_enter Try.func66, Try.ntmps66
    go_wp2
    go_ret
    exact ⟨ret_int (by unfold hexv; rw [if_neg (by omega), if_neg (by omega)]), rfl⟩

set_option maxHeartbeats 400000 in
theorem s_ParseWord (s : ByteArray) (w : World) :
    Calls Try.prog 16 #[.string s] w fun e w' => e = .returned (.tuple #[.int .i64 (pwv s.data.toList), .bool (pwb s.data.toList)]) ∧ w = w' := by
  by_cases h8 : s.size = 8
  · have hl : s.size ≤ 8 := by omega
    have hg : 8 ≤ s.size := by omega
    have ht : ((s.size : Int) != 8) = false := by simp; omega
    have HG := Lib.hid h8; clear h8
    go_enter Try.func16, Try.ntmps16
    go_wp2
    go_loop [4, 5] (fun x i => ∃ k : Nat, k ≤ 8 ∧ i = .int .i64 (k : Int) ∧ x = .int .i64 (hexval (s.data.toList.take k)) ∧ Hid (∀ c ∈ s.data.toList.take k, 0 ≤ hexv c)) (fun _ i => 8 - (intOf i).toNat)
    case atStart => exact ⟨0, by omega, rfl, rfl, by intro c hc; simp at hc⟩
    case round =>
      obtain ⟨k, hk, rfl, rfl, hall⟩ := hrel
      by_cases hlt : k < 8
      · have hlk : k < s.size := by omega
        have hbd := hexval_bd k (s.data.toList.take k) (by rw [List.length_take, ← size_toList]; omega) hall.out
        have hp : (16 : Int) ^ k ≤ 268435456 := pow16_le k (by omega)
        have hx := hexv_bd s[k]
        have HB := Lib.hid (fun h => pwb_bad (s := s) hlk h)
        have HT := Lib.hid (take_snoc s k hlk)
        have HV := Lib.hid (hexval_snoc (s.data.toList.take k) s[k])
        generalize hexval (s.data.toList.take k) = a at *
        have hb0 := hbd.1
        have hb1 : a < 268435456 := by omega
        clear hbd hp
        by_cases hneg : hexv s[k] < 0
        · go_wp2_with (go_at_call 66; refine (s_l01Value _ _).mono ?_; rintro e w' ⟨rfl, rfl⟩)
          go_ret2
          exact ⟨pw_bad (HB.out hneg), rfl⟩
        · go_wp2_with (go_at_call 66; refine (s_l01Value _ _).mono ?_; rintro e w' ⟨rfl, rfl⟩)
          go_round
          case rel => exact ⟨k + 1, by omega, by go_num, by rw [HT.out, HV.out]; go_num, all_snoc HT.out hall (by omega)⟩
          case measure => simp [intOf]; omega
      · obtain rfl : k = 8 := by omega
        have HP := Lib.hid (pw_good (pwb_good HG.out hall.out))
        have HE := Lib.hid (List.take_of_length_le (l := s.data.toList) (i := 8) (by rw [← size_toList]; omega))
        go_wp2
        go_ret2
        exact ⟨(congrArg (fun l => Ending.returned (.tuple #[.int .i64 (hexval l), .bool true])) HE.out).trans HP.out, rfl⟩
  · have HP := Lib.hid (pw_bad (pwb_short h8))
    go_enter Try.func16, Try.ntmps16
    go_wp2
    go_ret2
    exact ⟨HP.out, rfl⟩

theorem str_hexIndex (c : UInt8) (w : World) :
    Calls Try.prog 67 #[.string { data := #[48, 49, 50, 51, 52, 53, 54, 55, 56, 57, 97, 98, 99, 100, 101, 102] }, .int .u8 (c.toNat : Int)] w fun e w' => e = .returned (.int .i64 (hexv c)) ∧ w = w' := by
  rw [← hexv_index c]
  have h := str_IndexByte hexConst (c.toNat : Int) w
  rw [show ((c.toNat : Int).toNat.toUInt8) = c from by simp] at h
  exact h

set_option maxHeartbeats 400000 in
theorem i_ParseWord (s : ByteArray) (w : World) :
    Calls Try.prog 17 #[.string s] w fun e w' => e = .returned (.tuple #[.int .i64 (pwv s.data.toList), .bool (pwb s.data.toList)]) ∧ w = w' := by
  by_cases h8 : s.size = 8
  · have hl : s.size ≤ 8 := by omega
    have hg : 8 ≤ s.size := by omega
    have ht : ((s.size : Int) != 8) = false := by simp; omega
    have HG := Lib.hid h8; clear h8
    go_enter Try.func17, Try.ntmps17
    go_wp2
    go_loop [4, 5] (fun x i => ∃ k : Nat, k ≤ 8 ∧ i = .int .i64 (k : Int) ∧ x = .int .i64 (hexval (s.data.toList.take k)) ∧ Hid (∀ c ∈ s.data.toList.take k, 0 ≤ hexv c)) (fun _ i => 8 - (intOf i).toNat)
    case atStart => exact ⟨0, by omega, rfl, rfl, by intro c hc; simp at hc⟩
    case round =>
      obtain ⟨k, hk, rfl, rfl, hall⟩ := hrel
      by_cases hlt : k < 8
      · have hlk : k < s.size := by omega
        have hbd := hexval_bd k (s.data.toList.take k) (by rw [List.length_take, ← size_toList]; omega) hall.out
        have hp : (16 : Int) ^ k ≤ 268435456 := pow16_le k (by omega)
        have hx := hexv_bd s[k]
        have HB := Lib.hid (fun h => pwb_bad (s := s) hlk h)
        have HT := Lib.hid (take_snoc s k hlk)
        have HV := Lib.hid (hexval_snoc (s.data.toList.take k) s[k])
        have HI := Lib.hid (hexv_index s[k])
        generalize hexval (s.data.toList.take k) = a at *
        have hb0 := hbd.1
        have hb1 : a < 268435456 := by omega
        clear hbd hp
        by_cases hneg : hexv s[k] < 0
        · go_wp2_with (go_at_call 67; refine (str_hexIndex _ _).mono ?_; rintro e w' ⟨rfl, rfl⟩)
          go_ret2
          exact ⟨pw_bad (HB.out hneg), rfl⟩
        · have hor := i64_or_shift a (hexv s[k]) (by omega) (by omega) (by omega) (by omega)
          go_wp2_with (go_at_call 67; refine (str_hexIndex _ _).mono ?_; rintro e w' ⟨rfl, rfl⟩)
          go_round
          case rel => exact ⟨k + 1, by omega, by go_num, by rw [HT.out, HV.out], all_snoc HT.out hall (by omega)⟩
          case measure => simp [intOf]; omega
      · obtain rfl : k = 8 := by omega
        have HP := Lib.hid (pw_good (pwb_good HG.out hall.out))
        have HE := Lib.hid (List.take_of_length_le (l := s.data.toList) (i := 8) (by rw [← size_toList]; omega))
        go_wp2
        go_ret2
        exact ⟨(congrArg (fun l => Ending.returned (.tuple #[.int .i64 (hexval l), .bool true])) HE.out).trans HP.out, rfl⟩
  · have HP := Lib.hid (pw_bad (pwb_short h8))
    go_enter Try.func17, Try.ntmps17
    go_wp2
    go_ret2
    exact ⟨HP.out, rfl⟩

set_option maxHeartbeats 400000 in
theorem law_ParseWord (v : Value) (w : World) (r : RdStr w v) :
    Calls Try.prog 4 #[v] w fun e w' => e = .returned (.bool true) ∧ Below w.heap.size w w' := by
  obtain ⟨s, rfl, hs⟩ := r
  generalize hpv : pwv s.data.toList = a
  generalize hpb : pwb s.data.toList = b
  have s_c := fun w => s_ParseWord s w
  have i_c := fun w => i_ParseWord s w
  rw [hpv, hpb] at s_c i_c
  have SC := Lib.hid s_c
  have IC := Lib.hid i_c
  clear s_c i_c hpv hpb
  by_cases hb : (s.size : Int) ≤ 1048576
  · go_enter Try.func4, Try.ntmps4
    go_wp2_with (first
      | (go_at_call 16; refine (SC.out _).mono ?_; rintro e w1 ⟨rfl, rfl⟩)
      | (go_at_call 17; refine (IC.out _).mono ?_; rintro e w2 ⟨rfl, rfl⟩))
    go_ret
    exact ⟨rfl, Below.refl _ _⟩
  · go_enter Try.func4, Try.ntmps4
    go_wp2
    go_ret
    exact ⟨rfl, Below.refl _ _⟩
end Go.Proofs.Ytkgliadgedamiaa
