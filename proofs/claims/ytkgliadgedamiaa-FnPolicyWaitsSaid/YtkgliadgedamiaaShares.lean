/-
  Contracts of the functions on shares, drains and power rules that a policy's validity reaches.
-/
import Derived.Test.YtkgliadgedamiaaDraw
namespace Go.Proofs.Ytkgliadgedamiaa
open Go.RowKit
set_option maxRecDepth 100000

def shCells (l : List (Int × Int)) : List Value := l.flatMap fun s => [.int .i64 s.1, .int .i64 s.2]
theorem shCells_length (l : List (Int × Int)) : (shCells l).length = l.length * 2 := by
  induction l with
  | nil => rfl
  | cons a l ih => simp [shCells] at ih ⊢; omega
theorem shCells_get (l : List (Int × Int)) (k : Nat) (hk : k < l.length) : (shCells l)[k * 2]? = some (.int .i64 l[k].1) ∧ (shCells l)[k * 2 + 1]? = some (.int .i64 l[k].2) := by
  induction l generalizing k with
  | nil => simp at hk
  | cons a l ih =>
    cases k with
    | zero => exact ⟨rfl, rfl⟩
    | succ k =>
      have := ih k (by simpa using hk)
      have e : (k + 1) * 2 = k * 2 + 2 := by omega
      rw [e]
      exact ⟨this.1, this.2⟩
def shareOk (s : Int × Int) : Bool := inB s.1 1 9 && inB s.2 0 s.1
def sharesOk (l : List (Int × Int)) : Bool := l.all shareOk && inB l.length 1 4

set_option maxHeartbeats 400000 in
theorem i_SharesOk (A : Option Addr) (c : Nat) (l : List (Int × Int)) (B : Nat) (w : World) (hB : B ≤ w.heap.size) (hr : Reads w B 2 A l.length (shCells l)) (hl : l.length ≤ 1000000000000) :
    Calls Try.prog 114 #[.slice A l.length c] w fun e w' => e = .returned (.bool (sharesOk l)) ∧ Below w.heap.size w w' := by
  have HR := Lib.hid hr; clear hr
  go_enter Try.func114, Try.ntmps114
  go_wp2
  go_loopw [7] (fun i wr => ∃ k : Nat, k ≤ l.length ∧ i = .int .i64 (k : Int) ∧ Hid ((l.take k).all shareOk = true) ∧ Below w.heap.size w wr) (fun i _ => l.length - (intOf i).toNat)
  case atStart => exact ⟨0, by omega, rfl, rfl, Below.refl _ _⟩
  case round =>
    obtain ⟨k, hk, rfl, hall, hbel⟩ := hrel
    by_cases hlt : k < l.length
    · have HR2 := (HR.out.keep fun p hp => hbel.cell (by omega))
      obtain ⟨ab, ao, u, v, rfl, hb, hu, hv, hcu, hcv⟩ := HR2.at2 hlt
      rw [(shCells_get l k hlt).1] at hu
      rw [(shCells_get l k hlt).2] at hv
      injection hu with hu; subst hu
      injection hv with hv; subst hv
      have hbz := hbel.size
      clear HR2
      by_cases h1 : inB l[k].1 1 9 = true
      · by_cases h2 : inB l[k].2 0 l[k].1 = true
        · go_wp2_with (go_at_call 99; refine (i_between _ _ _ _).mono ?_; rintro e w' ⟨rfl, rfl⟩)
          have hs := all_next (by exact hall.out) hlt (by simp [shareOk, h1, h2])
          go_roundw
          case rel => exact ⟨k + 1, by omega, by go_num, hs, hbel.alloc hbz _⟩
          case measure => simp [intOf]; omega
        · have h2' : inB l[k].2 0 l[k].1 = false := by simpa using h2
          have hs := all_stop hlt (show shareOk l[k] = false by simp [shareOk, h2'])
          go_wp2_with (go_at_call 99; refine (i_between _ _ _ _).mono ?_; rintro e w' ⟨rfl, rfl⟩)
          go_ret
          exact ⟨by rw [sharesOk, hs]; rfl, hbel.alloc hbz _⟩
      · have h1' : inB l[k].1 1 9 = false := by simpa using h1
        have hs := all_stop hlt (show shareOk l[k] = false by simp [shareOk, h1'])
        go_wp2_with (go_at_call 99; refine (i_between _ _ _ _).mono ?_; rintro e w' ⟨rfl, rfl⟩)
        go_ret
        exact ⟨by rw [sharesOk, hs]; rfl, hbel.alloc hbz _⟩
    · obtain rfl : k = l.length := by omega
      have hs : l.all shareOk = true := by simpa using hall.out
      have HS := Lib.hid hs; clear hs
      go_wp2_with (go_at_call 99; refine (i_between _ _ _ _).mono ?_; rintro e w' ⟨rfl, rfl⟩)
      go_ret
      exact ⟨by rw [sharesOk, HS.out]; rfl, hbel⟩

theorem Try.info139 : (Try.prog.info? 139).map (fun i => (i.zero, i.size, i.bytes)) = some (some (.agg #[.int .i64 0, .int .i64 0]), 2, 16) := by kernel_rfl
def dup (x : Int) : Int × Int := (x, x)
def NewShares (l : List Int) (w : World) (e : Ending) (w' : World) : Prop := ∃ v, e = .returned (.tuple #[v, .bool (sharesOk (l.map dup))]) ∧ Below w.heap.size w w' ∧
  (sharesOk (l.map dup) = true → w'.ownsRow w.heap.size 139 2 v l.length (shCells (l.map dup)))
theorem shCells_snoc (l : List (Int × Int)) (a : Int × Int) : shCells (l ++ [a]) = shCells l ++ [.int .i64 a.1, .int .i64 a.2] := by simp [shCells]

set_option maxHeartbeats 400000 in
theorem i_SharesNew (A : Option Addr) (c : Nat) (l : List Int) (w : World) (hr : Ints w w.heap.size A l) (hl : l.length ≤ 1000000000) :
    Calls Try.prog 98 #[.slice A l.length c] w (NewShares l w) := by
  obtain ⟨i0, hi, hz0, hz1, hz2⟩ := info_parts Try.info139
  have HR := Lib.hid hr; clear hr
  go_enter Try.func98, Try.ntmps98
  go_wp2
  go_loopw [4, 10] (fun v i wr => ∃ k : Nat, k ≤ l.length ∧ i = .int .i64 (k : Int) ∧ Hid (wr.ownsRow w.heap.size 139 2 v k (shCells ((l.map dup).take k))) ∧ Below w.heap.size w wr) (fun _ i _ => l.length - (intOf i).toNat)
  case atStart => exact ⟨0, by omega, rfl, World.ownsRow_made _ _ _ (Nat.le_refl _) (by unfold maxLen; omega) rfl, (Below.refl _ _).alloc (Nat.le_refl _) _⟩
  case round =>
    obtain ⟨k, hk, rfl, hown, hbel⟩ := hrel
    have hbz := hbel.size
    by_cases hlt : k < l.length
    · obtain ⟨ab, ao, rfl, hb, hcu⟩ := Ints.at_ (HR.out.below hbel (Nat.le_refl _)) hlt
      have hms : k + 1 ≤ maxLen := by unfold maxLen; omega
      have HN := Lib.hid (World.news_of_block (w := wr.alloc (.cells #[.int .i64 l[k], .int .i64 l[k]] 139)) (cs := #[.int .i64 l[k], .int .i64 l[k]]) (t := 139) (fr := (0, 0)) (heap_alloc_new wr _))
      go_wp2_with (at_builtin; refine wpList_append_own _ rfl _ _ 119 rfl w.heap.size 139 i0 (.agg #[.int .i64 0, .int .i64 0]) 2 16 Try.underlying119 hi hz0 hz1 hz2 rfl (by decide) _ _ _ rfl (hown.out.alloc _) ⟨wr.heap.size, 0, none⟩ 1 1 [.int .i64 l[k], .int .i64 l[k]] rfl rfl HN.out (by simp [Value.oneCell']) hms (by omega) (by simp; omega) ?_; intro v1 w1 hown1 hg1 _)
      have hb1 := own_step hbel hbz hown.out hg1
      have HO1 := Lib.hid hown1; clear hown1 hcu
      have HT : (l.map dup).take (k + 1) = (l.map dup).take k ++ [dup l[k]] := by
        rw [List.take_succ_eq_append_getElem (by simpa using hlt)]; simp
      have HT := Lib.hid HT
      go_wp2
      go_roundw
      case rel => exact ⟨k + 1, by omega, by go_num, by rw [HT.out, shCells_snoc]; exact HO1.out, hb1⟩
      case measure => simp [intOf]; omega
    · obtain rfl : k = l.length := by omega
      have HO : Hid (wr.ownsRow w.heap.size 139 2 u4 l.length (shCells (l.map dup))) := by
        have := hown.out
        rw [List.take_of_length_le (by simp)] at this
        exact this
      clear hown
      have hv : ∃ A' c', u4 = .slice A' l.length c' := own_form HO.out
      obtain ⟨A', c', rfl⟩ := hv
      have HB := Lib.hid hbel
      have hs2 : (l.map dup).length = l.length := by simp
      have HS2 := Lib.hid hs2; clear hs2
      have SC : ∀ W, Below wr.heap.size wr W → Calls Try.prog 114 #[.slice A' l.length c'] W fun e w' => e = .returned (.bool (sharesOk (l.map dup))) ∧ Below W.heap.size W w' := fun W hW => by
        have := i_SharesOk A' c' (l.map dup) wr.heap.size W hW.size (by rw [HS2.out]; exact (Reads.of_own HO.out).below hW) (by rw [HS2.out]; omega)
        rwa [HS2.out] at this
      have SC := Lib.hid SC
      cases hb : sharesOk (l.map dup)
      · rw [hb] at SC
        go_wp2_with (go_at_call 114; refine (SC.out _ (Below.refl _ _)).mono ?_; rintro e w1 ⟨rfl, hb1⟩)
        go_ret2
        exact ⟨_, by rw [hb]; rfl, hbel.trans (hb1.mono hbz), fun h => by rw [hb] at h; cases h⟩
      · rw [hb] at SC
        go_wp2_with (go_at_call 114; refine (SC.out _ (Below.refl _ _)).mono ?_; rintro e w1 ⟨rfl, hb1⟩)
        go_ret2
        exact ⟨_, by rw [hb]; rfl, hbel.trans (hb1.mono hbz), fun _ => own_below HO.out hb1 (Nat.le_refl _)⟩

/-- Whether a drain's bounds are valid; whether a power rule is. -/
def drainOk (low high : Int) : Bool := decide (0 ≤ low ∧ low < high ∧ high ≤ 12)
def ruleOk (down sleep : Int) : Bool := decide ((1 ≤ down ∧ down ≤ 10000) ∧ down < sleep ∧ sleep ≤ 20000)

set_option maxHeartbeats 400000 in
theorem i_DrainOk (b : Bool) (low high : Int) (w : World) :
    Calls Try.prog 100 #[.agg #[.bool b, .int .i64 low, .int .i64 high]] w fun e w' => e = .returned (.bool (drainOk low high)) ∧ Below w.heap.size w w' := by
  by_cases h1 : 0 ≤ low
  · by_cases h2 : low < high
    · go_enter Try.func100, Try.ntmps100
      go_wp2
      go_ret
      exact ⟨by simp [drainOk, h1, h2], (Below.refl _ _).alloc (Nat.le_refl _) _⟩
    · go_enter Try.func100, Try.ntmps100
      go_wp2
      go_ret
      exact ⟨by simp [drainOk]; omega, (Below.refl _ _).alloc (Nat.le_refl _) _⟩
  · go_enter Try.func100, Try.ntmps100
    go_wp2
    go_ret
    exact ⟨by simp [drainOk]; omega, (Below.refl _ _).alloc (Nat.le_refl _) _⟩

set_option maxHeartbeats 400000 in
theorem i_PowerRuleOk (down sleep : Int) (w : World) :
    Calls Try.prog 101 #[.agg #[.int .i64 down, .int .i64 sleep]] w fun e w' => e = .returned (.bool (ruleOk down sleep)) ∧ Below w.heap.size w w' := by
  by_cases h1 : 1 ≤ down ∧ down ≤ 10000
  · have hb := inB_mk h1.1 h1.2
    by_cases h2 : down < sleep
    · go_enter Try.func101, Try.ntmps101
      go_wp2_with (go_at_call 99; refine (i_between _ _ _ _).mono ?_; rintro e w' ⟨rfl, rfl⟩)
      go_ret
      exact ⟨by simp [ruleOk, h1, h2], (Below.refl _ _).alloc (Nat.le_refl _) _⟩
    · go_enter Try.func101, Try.ntmps101
      go_wp2_with (go_at_call 99; refine (i_between _ _ _ _).mono ?_; rintro e w' ⟨rfl, rfl⟩)
      go_ret
      exact ⟨by simp [ruleOk]; omega, (Below.refl _ _).alloc (Nat.le_refl _) _⟩
  · have hb := inB_not h1
    go_enter Try.func101, Try.ntmps101
    go_wp2_with (go_at_call 99; refine (i_between _ _ _ _).mono ?_; rintro e w' ⟨rfl, rfl⟩)
    go_ret
    exact ⟨by simp [ruleOk]; omega, (Below.refl _ _).alloc (Nat.le_refl _) _⟩
end Go.Proofs.Ytkgliadgedamiaa
