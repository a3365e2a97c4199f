/-
  Contracts of the reference's draws (l01New, l01Byte, l01Below ..): what a draw gives, in ranges, and that the cursor's block alone has turned. Nothing here is a claim.
-/
import Derived.Test.YtnmllpfchcfonaaBase
import Derived.Test.YtnmllpfchcfonaaSmall
import Derived.Test.YtnmllpfchcfonaaRows
import Derived.WalkSpells
import Derived.WalkLawsBesides
import Derived.Handy
import Derived.Deep.QuietTactic
import Derived.BigQuiet
namespace Go.Proofs.Ytnmllpfchcfonaa
open Go.RowKit
set_option maxRecDepth 100000

/-- The cursor's block: a slice of bytes below it, a place in it, a hash. -/
def Cur (w : World) (g : Nat) : Prop := ∃ (A : Option Addr) (n c i : Nat) (h : Int) (xs : List Value),
  w.heap[g]? = some (.cells #[.slice A n c, .int .i64 (i : Int), .int .i64 h] 151 (0, 0)) ∧ i ≤ n ∧ n ≤ 9223372036854775807 ∧ Reads w g 1 A n xs ∧ ∀ u ∈ xs, ∃ z : Int, u = .int .u8 z ∧ 0 ≤ z ∧ z ≤ 255

/-- A draw: a number of which P holds; the cursor is a cursor still; nothing else that was there has turned. -/
def Drawn (g : Nat) (w : World) (P : Int → Prop) (e : Ending) (w' : World) : Prop := ∃ x : Int, e = .returned (.int .i64 x) ∧ P x ∧ Cur w' g ∧ w.grownBy w' (some g)

theorem grownBy_setCell {w : World} {g : Nat} (j : Nat) (u : Value) : w.grownBy (w.setCell ⟨g, j, none⟩ u) (some g) :=
  ⟨rfl, rfl, rfl, by simp [World.setCell], fun k _ hne => Below.heap_setCell _ _ _ _ (fun e => hne (by rw [e]))⟩
section
variable {w : World} {g n c i : Nat} {A : Option Addr} {h : Int} {xs : List Value}
  (hg : w.heap[g]? = some (.cells #[.slice A n c, .int .i64 (i : Int), .int .i64 h] 151 (0, 0))) (hn : n ≤ 9223372036854775807) (hr : Reads w g 1 A n xs)
  (hx : ∀ u ∈ xs, ∃ z : Int, u = .int .u8 z ∧ 0 ≤ z ∧ z ≤ 255)
include hg hn hr hx
theorem draw_end (h' : Int) (hin : i ≤ n) (m : Nat) :
    Cur ((w.setCell ⟨g, 2, none⟩ (.int .i64 h')).drewN m) g ∧ w.grownBy ((w.setCell ⟨g, 2, none⟩ (.int .i64 h')).drewN m) (some g) := by
  refine ⟨⟨A, n, c, i, h', xs, ?_, hin, hn, (hr.setCell (Nat.le_refl g) _).drewN m, hx⟩, grownBy_drewN (grownBy_setCell 2 _) m⟩
  have hb : Blk w g _ _ := hg
  exact ((hb.set_ 2 _).drewN m)
theorem draw_end' (h' : Int) (hin : i < n) (m : Nat) :
    Cur (((w.setCell ⟨g, 2, none⟩ (.int .i64 h')).drewN m).setCell ⟨g, 1, none⟩ (.int .i64 ((i : Int) + 1))) g ∧
      w.grownBy (((w.setCell ⟨g, 2, none⟩ (.int .i64 h')).drewN m).setCell ⟨g, 1, none⟩ (.int .i64 ((i : Int) + 1))) (some g) := by
  refine ⟨⟨A, n, c, i + 1, h', xs, ?_, hin, hn, ((hr.setCell (Nat.le_refl g) _).drewN m).setCell (Nat.le_refl g) _, hx⟩, grownBy_trans (grownBy_drewN (grownBy_setCell 2 _) m) (grownBy_setCell 1 _)⟩
  have hb : Blk w g _ _ := hg
  exact (((hb.set_ 2 _).drewN m).set_ 1 _)
end

theorem and255_bd (y : Int) : 0 ≤ bits .and .i64 y 255 ∧ bits .and .i64 y 255 ≤ 255 := by
  have e : bits .and .i64 y 255 = IntKind.i64.wrap ((BitVec.ofInt 64 y &&& BitVec.ofInt 64 255).toNat : Int) := rfl
  have h : (BitVec.ofInt 64 y &&& BitVec.ofInt 64 255).toNat ≤ 255 := by
    rw [BitVec.toNat_and]
    exact Nat.le_trans Nat.and_le_right (by decide)
  rw [e, IntKind.wrap_i64]
  omega

set_option maxHeartbeats 400000 in
theorem s_l01Byte (g : Nat) (w : World) (hc : Cur w g) :
    Calls Try.prog 121 #[.pointer (some ⟨g, 0, none⟩)] w (Drawn g w fun x => 0 ≤ x ∧ x ≤ 255) := by
  obtain ⟨A, n, c, i, h, xs, hg, hin, hn, hr, hx⟩ := hc
  have c0 : w.cell? ⟨g, 0, none⟩ = some (.slice A n c) := cell_of_row w g 0 _ _ _ hg
  have c1 : w.cell? ⟨g, 1, none⟩ = some (.int .i64 i) := cell_of_row w g 1 _ _ _ hg
  have c2 : w.cell? ⟨g, 2, none⟩ = some (.int .i64 h) := cell_of_row w g 2 _ _ _ hg
  have f2 : w.frozen? ⟨g, 2, none⟩ = false := by simp [World.frozen?, hg]
  have f1 : w.frozen? ⟨g, 1, none⟩ = false := by simp [World.frozen?, hg]
  have HG := Lib.hid hg; clear hg
  have HR := Lib.hid hr; clear hr
  have HX := Lib.hid hx; clear hx
  by_cases hlt : i < n
  · obtain ⟨ab, ao, u, rfl, hb, hu, hcell⟩ := HR.out.at_ hlt
    obtain ⟨z, rfl, hz0, hz1⟩ := HX.out u (List.mem_of_getElem? hu)
    have hne : ab ≠ g := by omega
    have hce : ∀ u, (w.setCell ⟨g, 2, none⟩ u).cell? ⟨ab, ao + i, none⟩ = some (.int .u8 z) := fun u => by
      rw [World.cell?_setCell_other _ _ _ _ (fun e => hne (by injection e with e; exact e.symm))]; exact hcell
    clear hu
    go_enter Try.func121, Try.ntmps121
    go_wp2
    go_quiet (fail)
    go_wp2
    go_quiet (fail)
    go_wp2
    go_quiet (fail)
    go_wp2
    go_ret
    exact ⟨_, rfl, and255_bd _, draw_end' HG.out hn HR.out HX.out _ hlt _⟩
  · go_enter Try.func121, Try.ntmps121
    go_wp2
    go_quiet (fail)
    go_wp2
    go_quiet (fail)
    go_wp2
    go_ret
    rw [World.drewN_drewN]
    exact ⟨_, rfl, and255_bd _, draw_end HG.out hn HR.out HX.out _ hin _⟩

theorem emod_le_self {x n : Int} (h : 0 ≤ x) (hn : 0 < n) : x % n ≤ x := by
  rcases Int.lt_or_le x n with h1 | h1
  · rw [Int.emod_eq_of_lt h h1]; omega
  · have := Int.emod_lt_of_pos x hn; omega
theorem rem_bd {x n : Int} (h : 0 ≤ x) (hx : x ≤ 4294967295) (hn : 0 < n) : 0 ≤ x % n ∧ x % n ≤ 4294967295 ∧ (n ≤ 0 → x % n = 0) ∧ (0 < n → x % n < n) :=
  ⟨Int.emod_nonneg _ (by omega), Int.le_trans (emod_le_self h hn) hx, fun h => by omega, fun _ => Int.emod_lt_of_pos _ hn⟩
theorem Drawn.mono {g : Nat} {w : World} {P Q : Int → Prop} {e : Ending} {w' : World} (h : Drawn g w P e w') (f : ∀ x, P x → Q x) : Drawn g w Q e w' := by
  obtain ⟨x, he, hp, r⟩ := h
  exact ⟨x, he, f x hp, r⟩
theorem Cur.lt {w : World} {g : Nat} (h : Cur w g) : g < w.heap.size := by
  obtain ⟨A, n, c, i, h, xs, hg, _⟩ := h
  exact (Array.getElem?_eq_some_iff.1 hg).1

set_option maxHeartbeats 400000 in
theorem s_l01Below (g : Nat) (n : Int) (hn : n ≤ 1000000000000) (w : World) (hc : Cur w g) :
    Calls Try.prog 76 #[.pointer (some ⟨g, 0, none⟩), .int .i64 n] w (Drawn g w fun x => 0 ≤ x ∧ x ≤ 4294967295 ∧ (n ≤ 0 → x = 0) ∧ (0 < n → x < n)) := by
  have HC := Lib.hid hc; clear hc
  by_cases h0 : n ≤ 0
  · go_enter Try.func76, Try.ntmps76
    go_wp2
    go_ret
    exact ⟨0, rfl, by omega, HC.out, World.grownBy.refl _ _⟩
  · by_cases h1 : n ≤ 256
    · go_enter Try.func76, Try.ntmps76
      go_wp2_with (go_at_call 121; refine (s_l01Byte _ _ HC.out).mono ?_; rintro e w1 ⟨x, rfl, ⟨hx0, hx1⟩, hc1, hg1⟩; have HC1 := Lib.hid hc1; clear hc1)
      go_ret
      exact ⟨_, rfl, rem_bd (by omega) (by omega) (by omega), HC1.out, hg1⟩
    · go_enter Try.func76, Try.ntmps76
      go_wp2_with fail
      refine (s_l01Byte _ _ HC.out).mono ?_; rintro e w1 ⟨x, rfl, ⟨hx0, hx1⟩, hc1, hg1⟩; have HC1 := Lib.hid hc1; clear hc1
      go_wp2_with fail
      refine (s_l01Byte _ _ HC1.out).mono ?_; rintro e w2 ⟨y, rfl, ⟨hy0, hy1⟩, hc2, hg2⟩; have HC2 := Lib.hid hc2; clear hc2
      go_wp2_with fail
      refine (s_l01Byte _ _ HC2.out).mono ?_; rintro e w3 ⟨z, rfl, ⟨hz0, hz1⟩, hc3, hg3⟩; have HC3 := Lib.hid hc3; clear hc3
      go_wp2_with fail
      refine (s_l01Byte _ _ HC3.out).mono ?_; rintro e w4 ⟨u, rfl, ⟨hu0, hu1⟩, hc4, hg4⟩; have HC4 := Lib.hid hc4; clear hc4
      go_wp2
      go_ret
      exact ⟨_, rfl, rem_bd (by omega) (by omega) (by omega), HC4.out, grownBy_trans (grownBy_trans (grownBy_trans hg1 hg2) hg3) hg4⟩

/-- What the law's own bytes are: a slice that reads as bytes, below block B. -/
def Bytes (w : World) (B : Nat) (A : Option Addr) (n : Nat) : Prop := ∃ xs, Reads w B 1 A n xs ∧ ∀ u ∈ xs, ∃ z : Int, u = .int .u8 z ∧ 0 ≤ z ∧ z ≤ 255
def NewCur (w : World) (e : Ending) (w' : World) : Prop := ∃ g, e = .returned (.pointer (some ⟨g, 0, none⟩)) ∧ Cur w' g ∧ w.heap.size ≤ g ∧ Below w.heap.size w w'

theorem new_cur {w : World} {A : Option Addr} {n c : Nat} {q : Int} {xs : List Value} (hn : n ≤ 1000000000000) (hr : Reads w w.heap.size 1 A n xs) (hx : ∀ u ∈ xs, ∃ z : Int, u = .int .u8 z ∧ 0 ≤ z ∧ z ≤ 255) :
    NewCur w (.returned (.pointer (some ⟨w.heap.size, 0, none⟩))) (w.alloc (.cells #[.slice A n c, .int .i64 0, .int .i64 q] 151)) :=
  ⟨w.heap.size, rfl, ⟨A, n, c, 0, q, xs, Blk.new w _ _, Nat.zero_le _, by omega, hr.alloc (Nat.le_refl _) _, hx⟩, Nat.le_refl _, (Below.refl _ _).alloc (Nat.le_refl _) _⟩
theorem Cur.keep {w w' : World} {g : Nat} (h : Cur w g) (hb : ∀ k, k ≤ g → w'.heap[k]? = w.heap[k]?) : Cur w' g := by
  obtain ⟨A, n, c, i, h, xs, hg, h1, h2, hr, hx⟩ := h
  exact ⟨A, n, c, i, h, xs, (hb g (Nat.le_refl _)).trans hg, h1, h2, hr.keep fun p hp => World.cell?_of_block (hb p.block (by omega)), hx⟩
theorem Cur.alloc {w : World} {g : Nat} (h : Cur w g) (o : Obj) : Cur (w.alloc o) g := h.keep fun k hk => Below.heap_alloc w o k (by have := h.lt; omega)
theorem Cur.setCell {w : World} {g : Nat} (h : Cur w g) {p : Addr} (hp : g < p.block) (u : Value) : Cur (w.setCell p u) g := h.keep fun k hk => Below.heap_setCell w p u k (by omega)
theorem Cur.drewN {w : World} {g : Nat} (h : Cur w g) (n : Nat) : Cur (w.drewN n) g := h.keep fun _ _ => rfl
theorem Cur.drew {w : World} {g : Nat} (h : Cur w g) : Cur w.drew g := h.keep fun _ _ => rfl
theorem Cur.below {w w' : World} {g B : Nat} (h : Cur w g) (hb : Below B w w') (hB : g < B) : Cur w' g := h.keep fun k hk => hb.block k (by omega)
theorem Cur.grown {w w' : World} {g r : Nat} (h : Cur w g) (hb : w.grownBy w' (some r)) (hr : g < r) : Cur w' g :=
  h.keep fun k hk => hb.block k (by have := h.lt; omega) (fun e => by injection e; omega)

set_option maxHeartbeats 400000 in
theorem s_l01New (A : Option Addr) (n c : Nat) (hn : n ≤ 1000000000000) (w : World) (hb : Bytes w w.heap.size A n) :
    Calls Try.prog 56 #[.slice A n c] w (NewCur w) := by
  obtain ⟨xs, hr, hx⟩ := hb
  have HR := Lib.hid hr; clear hr
  have HX := Lib.hid hx; clear hx
  go_enter Try.func56, Try.ntmps56
  go_wp2
  go_loop [3, 4] (fun h i => ∃ (k : Nat) (q : Int), k ≤ n ∧ i = .int .i64 (k : Int) ∧ h = .int .i64 q) (fun _ i => n - (intOf i).toNat)
  case atStart => exact ⟨0, _, by omega, rfl, rfl⟩
  case round =>
    obtain ⟨k, q, hk, rfl, rfl⟩ := hrel
    by_cases hlt : k < n
    · obtain ⟨ab, ao, u, rfl, hb, hu, hcell⟩ := HR.out.at_ hlt
      obtain ⟨z, rfl, hz0, hz1⟩ := HX.out u (List.mem_of_getElem? hu)
      clear hu
      by_cases h4 : k < 4000
      · go_wp2
        go_round
        case rel => exact ⟨k + 1, _, by omega, by go_num, rfl⟩
        case measure => simp [intOf]; omega
      · go_wp2
        go_ret
        exact new_cur hn HR.out HX.out
    · go_wp2
      go_ret
      exact new_cur hn HR.out HX.out

set_option maxHeartbeats 400000 in
theorem s_l01PickInt (g b : Nat) (l : List Int) (cs : Array Value) (t : TypeId) (w : World) (hc : Cur w g) (hb : Blk w b t cs) (hcs : cs.toList = l.map (Value.int .i64)) (hne : b ≠ g)
    (h0 : 0 < l.length) (h1 : l.length ≤ 256) (m c : Nat) (hm : m = l.length) :
    Calls Try.prog 107 #[.pointer (some ⟨g, 0, none⟩), .slice (some ⟨b, 0, none⟩) m c] w (Drawn g w (· ∈ l)) := by
  subst hm
  have HC := Lib.hid hc; clear hc
  have HB := Lib.hid hb; clear hb
  have HS := Lib.hid hcs; clear hcs
  go_enter Try.func107, Try.ntmps107
  go_wp2_with fail
  refine (s_l01Below g _ (by omega) _ HC.out).mono ?_
  rintro e w1 ⟨x, rfl, ⟨hx0, _, _, hx1⟩, hc1, hg1⟩
  have hxl : x < (l.length : Int) := hx1 (by omega)
  clear hx1
  obtain ⟨k, rfl⟩ := Int.eq_ofNat_of_zero_le hx0
  have hk : k < l.length := by omega
  have hcell : w1.cell? ⟨b, k, none⟩ = some (.int .i64 l[k]) := by
    have hb1 : w1.heap[b]? = some (.cells cs t (0, 0)) := (hg1.block b (Array.getElem?_eq_some_iff.1 HB.out).1 (by intro e; injection e with e; exact hne e)).trans HB.out
    rw [cell_of_row w1 b k _ _ _ hb1]
    have : cs.toList[k]? = some (.int .i64 l[k]) := by rw [HS.out]; simp [hk]
    simpa using this
  have HM := Lib.hid (List.getElem_mem hk)
  generalize l[k] = y at *
  have HC1 := Lib.hid hc1; clear hc1
  go_wp2
  go_ret
  exact ⟨y, rfl, HM.out, HC1.out, hg1⟩
end Go.Proofs.Ytnmllpfchcfonaa
