/-
  Contracts of the functions on boxes of policies (copyBox, BoxNew, BoxAsk, BoxStep). Nothing here is a claim.
-/
import Derived.Test.YtkgliadgedamiaaPolicy
import Derived.Test.YtkgliadgedamiaaState
import Derived.Deep.RegionHeld3
namespace Go.Proofs.Ytkgliadgedamiaa
open Go.RowKit
set_option maxRecDepth 100000

/-- Two rows of the call's own, and what was there before: over stores below the rows. -/
structure Two (w0 : World) (B base : Nat) (A A2 : Option Addr) (c c2 : Nat) (l l2 : List Int) (w : World) : Prop where
  one : OwnInts w base A c l
  two : OwnInts w base A2 c2 l2
  below : Below B w0 w
theorem Two.set_ {w0 w : World} {B base c c2 : Nat} {A A2 : Option Addr} {l l2 : List Int} (h : Two w0 B base A A2 c c2 l l2 w) {p : Addr} (h1 : B ≤ p.block) (h2 : p.block < base) (u : Value) : Two w0 B base A A2 c c2 l l2 (w.setCell p u) :=
  ⟨h.one.set_ h2 u, h.two.set_ h2 u, h.below.setCell h1 u⟩

/-- A copy of a box: its value, and that its weights read as they did. -/
def CopiedBox (p q : Pol) (b : Bool) (w : World) (e : Ending) (w' : World) : Prop := ∃ A c A2 c2, e = .returned (.agg #[.int .i64 p.page, .int .i64 p.cap, .int .i64 p.limit, .int .i64 p.low, .int .i64 p.high, .slice A p.weights.length c, .int .i64 p.down, .int .i64 p.sleep, .int .i64 q.page, .int .i64 q.cap, .int .i64 q.limit, .int .i64 q.low, .int .i64 q.high, .slice A2 q.weights.length c2, .int .i64 q.down, .int .i64 q.sleep, .bool b]) ∧
  OwnInts w' w.heap.size A c p.weights ∧ OwnInts w' w.heap.size A2 c2 q.weights ∧ Below w.heap.size w w'

/-- The state between the copies: the box that came in, the result's place, and that what was there before stands. -/
structure CBS (w : World) (cs zs : Array Value) (W : World) : Prop where
  bel : Below w.heap.size w W
  big : w.heap.size + 1 < W.heap.size
  box : Blk W w.heap.size 36 cs
  res : Blk W (w.heap.size + 1) 36 zs
theorem CBS.next {w W w1 : World} {cs zs : Array Value} (h : CBS w cs zs W) (hb : Below W.heap.size W w1) : CBS w cs zs w1 :=
  ⟨h.bel.trans (hb.mono h.bel.size), Nat.lt_of_lt_of_le h.big hb.size, h.box.below hb (by have := h.big; omega), h.res.below hb h.big⟩
theorem CBS.drew {w W : World} {cs zs : Array Value} (h : CBS w cs zs W) : CBS w cs zs W.drew := ⟨h.bel.drew, h.big, h.box.drew, h.res.drew⟩
theorem CBS.ints {w W : World} {cs zs : Array Value} (h : CBS w cs zs W) {A : Option Addr} {l : List Int} (hi : Ints w w.heap.size A l) : Ints W W.heap.size A l := hi.to h.bel h.bel.size

set_option maxHeartbeats 2000000 in
theorem i_copyBox (p q : Pol) (A A2 : Option Addr) (c c2 : Nat) (b : Bool) (w : World) (hr : Ints w w.heap.size A p.weights) (hl : p.weights.length ≤ 1000000000) (hr2 : Ints w w.heap.size A2 q.weights) (hl2 : q.weights.length ≤ 1000000000) :
    Calls Try.prog 71 #[.agg #[.int .i64 p.page, .int .i64 p.cap, .int .i64 p.limit, .int .i64 p.low, .int .i64 p.high, .slice A p.weights.length c, .int .i64 p.down, .int .i64 p.sleep, .int .i64 q.page, .int .i64 q.cap, .int .i64 q.limit, .int .i64 q.low, .int .i64 q.high, .slice A2 q.weights.length c2, .int .i64 q.down, .int .i64 q.sleep, .bool b]] w (CopiedBox p q b w) := by
  have HR := Lib.hid hr; clear hr
  have HR2 := Lib.hid hr2; clear hr2
  go_enter Try.func71, Try.ntmps71
  go_wp2_with fail
  obtain ⟨W, hW⟩ : ∃ W, W = (w.alloc (.cells #[.int .i64 p.page, .int .i64 p.cap, .int .i64 p.limit, .int .i64 p.low, .int .i64 p.high, .slice A p.weights.length c, .int .i64 p.down, .int .i64 p.sleep, .int .i64 q.page, .int .i64 q.cap, .int .i64 q.limit, .int .i64 q.low, .int .i64 q.high, .slice A2 q.weights.length c2, .int .i64 q.down, .int .i64 q.sleep, .bool b] 36)).alloc (.cells #[.int .i64 0, .int .i64 0, .int .i64 0, .int .i64 0, .int .i64 0, .slice none 0 0, .int .i64 0, .int .i64 0, .int .i64 0, .int .i64 0, .int .i64 0, .int .i64 0, .int .i64 0, .slice none 0 0, .int .i64 0, .int .i64 0, .bool false] 36) := ⟨_, rfl⟩
  have K0 : Blk W w.heap.size 36 #[.int .i64 p.page, .int .i64 p.cap, .int .i64 p.limit, .int .i64 p.low, .int .i64 p.high, .slice A p.weights.length c, .int .i64 p.down, .int .i64 p.sleep, .int .i64 q.page, .int .i64 q.cap, .int .i64 q.limit, .int .i64 q.low, .int .i64 q.high, .slice A2 q.weights.length c2, .int .i64 q.down, .int .i64 q.sleep, .bool b] := by rw [hW]; exact ((Blk.new w 36 #[.int .i64 p.page, .int .i64 p.cap, .int .i64 p.limit, .int .i64 p.low, .int .i64 p.high, .slice A p.weights.length c, .int .i64 p.down, .int .i64 p.sleep, .int .i64 q.page, .int .i64 q.cap, .int .i64 q.limit, .int .i64 q.low, .int .i64 q.high, .slice A2 q.weights.length c2, .int .i64 q.down, .int .i64 q.sleep, .bool b]).alloc _)
  have K1 : Blk W (w.heap.size + 1) 36 #[.int .i64 0, .int .i64 0, .int .i64 0, .int .i64 0, .int .i64 0, .slice none 0 0, .int .i64 0, .int .i64 0, .int .i64 0, .int .i64 0, .int .i64 0, .int .i64 0, .int .i64 0, .slice none 0 0, .int .i64 0, .int .i64 0, .bool false] := by rw [hW]; exact (Blk.new' (n := w.heap.size + 1) (by simp))
  have hb0 : Below w.heap.size w W := by rw [hW]; go_grown
  have hz0 : W.heap.size = w.heap.size + 1 + 1 := by rw [hW]; simp
  rw [← hW]
  clear hW
  have S := Lib.hid (CBS.mk hb0 (by omega) K0 K1)
  clear hz0 hb0 K1
  have qc0 : World.cell? W ⟨w.heap.size, 0, none⟩ = some (.int .i64 p.page) := Blk.cell K0 0
  have qf0 : World.frozen? W ⟨w.heap.size, 0, none⟩ = false := Blk.frozen K0 0
  have qc1 : World.cell? W ⟨w.heap.size, 1, none⟩ = some (.int .i64 p.cap) := Blk.cell K0 1
  have qf1 : World.frozen? W ⟨w.heap.size, 1, none⟩ = false := Blk.frozen K0 1
  have qc2 : World.cell? W ⟨w.heap.size, 2, none⟩ = some (.int .i64 p.limit) := Blk.cell K0 2
  have qf2 : World.frozen? W ⟨w.heap.size, 2, none⟩ = false := Blk.frozen K0 2
  have qc3 : World.cell? W ⟨w.heap.size, 3, none⟩ = some (.int .i64 p.low) := Blk.cell K0 3
  have qf3 : World.frozen? W ⟨w.heap.size, 3, none⟩ = false := Blk.frozen K0 3
  have qc4 : World.cell? W ⟨w.heap.size, 4, none⟩ = some (.int .i64 p.high) := Blk.cell K0 4
  have qf4 : World.frozen? W ⟨w.heap.size, 4, none⟩ = false := Blk.frozen K0 4
  have qc5 : World.cell? W ⟨w.heap.size, 5, none⟩ = some (.slice A p.weights.length c) := Blk.cell K0 5
  have qf5 : World.frozen? W ⟨w.heap.size, 5, none⟩ = false := Blk.frozen K0 5
  have qc6 : World.cell? W ⟨w.heap.size, 6, none⟩ = some (.int .i64 p.down) := Blk.cell K0 6
  have qf6 : World.frozen? W ⟨w.heap.size, 6, none⟩ = false := Blk.frozen K0 6
  have qc7 : World.cell? W ⟨w.heap.size, 7, none⟩ = some (.int .i64 p.sleep) := Blk.cell K0 7
  have qf7 : World.frozen? W ⟨w.heap.size, 7, none⟩ = false := Blk.frozen K0 7
  have qc8 : World.cell? W ⟨w.heap.size, 8, none⟩ = some (.int .i64 q.page) := Blk.cell K0 8
  have qf8 : World.frozen? W ⟨w.heap.size, 8, none⟩ = false := Blk.frozen K0 8
  have qc9 : World.cell? W ⟨w.heap.size, 9, none⟩ = some (.int .i64 q.cap) := Blk.cell K0 9
  have qf9 : World.frozen? W ⟨w.heap.size, 9, none⟩ = false := Blk.frozen K0 9
  have qc10 : World.cell? W ⟨w.heap.size, 10, none⟩ = some (.int .i64 q.limit) := Blk.cell K0 10
  have qf10 : World.frozen? W ⟨w.heap.size, 10, none⟩ = false := Blk.frozen K0 10
  have qc11 : World.cell? W ⟨w.heap.size, 11, none⟩ = some (.int .i64 q.low) := Blk.cell K0 11
  have qf11 : World.frozen? W ⟨w.heap.size, 11, none⟩ = false := Blk.frozen K0 11
  have qc12 : World.cell? W ⟨w.heap.size, 12, none⟩ = some (.int .i64 q.high) := Blk.cell K0 12
  have qf12 : World.frozen? W ⟨w.heap.size, 12, none⟩ = false := Blk.frozen K0 12
  have qc13 : World.cell? W ⟨w.heap.size, 13, none⟩ = some (.slice A2 q.weights.length c2) := Blk.cell K0 13
  have qf13 : World.frozen? W ⟨w.heap.size, 13, none⟩ = false := Blk.frozen K0 13
  have qc14 : World.cell? W ⟨w.heap.size, 14, none⟩ = some (.int .i64 q.down) := Blk.cell K0 14
  have qf14 : World.frozen? W ⟨w.heap.size, 14, none⟩ = false := Blk.frozen K0 14
  have qc15 : World.cell? W ⟨w.heap.size, 15, none⟩ = some (.int .i64 q.sleep) := Blk.cell K0 15
  have qf15 : World.frozen? W ⟨w.heap.size, 15, none⟩ = false := Blk.frozen K0 15
  have qc16 : World.cell? W ⟨w.heap.size, 16, none⟩ = some (.bool b) := Blk.cell K0 16
  have qf16 : World.frozen? W ⟨w.heap.size, 16, none⟩ = false := Blk.frozen K0 16
  clear K0
  go_region_held3 (fun w' => World.cell? w' ⟨w.heap.size, 0, none⟩ = some (.int .i64 p.page) ∧ World.cell? w' ⟨w.heap.size, 1, none⟩ = some (.int .i64 p.cap) ∧ World.cell? w' ⟨w.heap.size, 2, none⟩ = some (.int .i64 p.limit) ∧ World.cell? w' ⟨w.heap.size, 3, none⟩ = some (.int .i64 p.low) ∧ World.cell? w' ⟨w.heap.size, 4, none⟩ = some (.int .i64 p.high) ∧ World.cell? w' ⟨w.heap.size, 5, none⟩ = some (.slice A p.weights.length c) ∧ World.cell? w' ⟨w.heap.size, 6, none⟩ = some (.int .i64 p.down) ∧ World.cell? w' ⟨w.heap.size, 7, none⟩ = some (.int .i64 p.sleep) ∧ World.cell? w' ⟨w.heap.size, 8, none⟩ = some (.int .i64 q.page) ∧ World.cell? w' ⟨w.heap.size, 9, none⟩ = some (.int .i64 q.cap) ∧ World.cell? w' ⟨w.heap.size, 10, none⟩ = some (.int .i64 q.limit) ∧ World.cell? w' ⟨w.heap.size, 11, none⟩ = some (.int .i64 q.low) ∧ World.cell? w' ⟨w.heap.size, 12, none⟩ = some (.int .i64 q.high) ∧ World.cell? w' ⟨w.heap.size, 13, none⟩ = some (.slice A2 q.weights.length c2) ∧ World.cell? w' ⟨w.heap.size, 14, none⟩ = some (.int .i64 q.down) ∧ World.cell? w' ⟨w.heap.size, 15, none⟩ = some (.int .i64 q.sleep) ∧ World.cell? w' ⟨w.heap.size, 16, none⟩ = some (.bool b))
    (first | go_keep | exact ⟨Blk.cell S.out.box 0, Blk.cell S.out.box 1, Blk.cell S.out.box 2, Blk.cell S.out.box 3, Blk.cell S.out.box 4, Blk.cell S.out.box 5, Blk.cell S.out.box 6, Blk.cell S.out.box 7, Blk.cell S.out.box 8, Blk.cell S.out.box 9, Blk.cell S.out.box 10, Blk.cell S.out.box 11, Blk.cell S.out.box 12, Blk.cell S.out.box 13, Blk.cell S.out.box 14, Blk.cell S.out.box 15, Blk.cell S.out.box 16⟩)
    (first
      | (go_at_call 70; (with_reducible refine (i_copyPolicy p A c _ ?_ hl).mono ?_); (exact S.out.drew.ints HR.out); rintro e w1 ⟨A', c', rfl, hown, hb1⟩; have HP : Hid (OwnInts w1 (w.heap.size + 2) A' c' p.weights) := own_base hown S.out.big; have S1 := Lib.hid (S.out.drew.next hb1); clear hown hb1 S; have S := S1; clear S1)
      | (go_at_call 70; (with_reducible refine (i_copyPolicy q A2 c2 _ ?_ hl2).mono ?_); (exact S.out.ints HR2.out); rintro e w2 ⟨A'', c'', rfl, hown, hb2⟩; have HQ : Hid (OwnInts w2 (w.heap.size + 2) A'' c'' q.weights) := own_base hown S.out.big; have HP2 := Lib.hid (HP.out.below hb2); have S1 := Lib.hid (S.out.next hb2); clear hown hb2 S HP; have S := S1; clear S1; have K := S.out.res
         have rc0 : World.cell? w2 ⟨w.heap.size + 1, 0, none⟩ = some (.int .i64 0) := Blk.cell K 0
         have rf0 : World.frozen? w2 ⟨w.heap.size + 1, 0, none⟩ = false := Blk.frozen K 0
         have rc1 : World.cell? w2 ⟨w.heap.size + 1, 1, none⟩ = some (.int .i64 0) := Blk.cell K 1
         have rf1 : World.frozen? w2 ⟨w.heap.size + 1, 1, none⟩ = false := Blk.frozen K 1
         have rc2 : World.cell? w2 ⟨w.heap.size + 1, 2, none⟩ = some (.int .i64 0) := Blk.cell K 2
         have rf2 : World.frozen? w2 ⟨w.heap.size + 1, 2, none⟩ = false := Blk.frozen K 2
         have rc3 : World.cell? w2 ⟨w.heap.size + 1, 3, none⟩ = some (.int .i64 0) := Blk.cell K 3
         have rf3 : World.frozen? w2 ⟨w.heap.size + 1, 3, none⟩ = false := Blk.frozen K 3
         have rc4 : World.cell? w2 ⟨w.heap.size + 1, 4, none⟩ = some (.int .i64 0) := Blk.cell K 4
         have rf4 : World.frozen? w2 ⟨w.heap.size + 1, 4, none⟩ = false := Blk.frozen K 4
         have rc5 : World.cell? w2 ⟨w.heap.size + 1, 5, none⟩ = some (.slice none 0 0) := Blk.cell K 5
         have rf5 : World.frozen? w2 ⟨w.heap.size + 1, 5, none⟩ = false := Blk.frozen K 5
         have rc6 : World.cell? w2 ⟨w.heap.size + 1, 6, none⟩ = some (.int .i64 0) := Blk.cell K 6
         have rf6 : World.frozen? w2 ⟨w.heap.size + 1, 6, none⟩ = false := Blk.frozen K 6
         have rc7 : World.cell? w2 ⟨w.heap.size + 1, 7, none⟩ = some (.int .i64 0) := Blk.cell K 7
         have rf7 : World.frozen? w2 ⟨w.heap.size + 1, 7, none⟩ = false := Blk.frozen K 7
         have rc8 : World.cell? w2 ⟨w.heap.size + 1, 8, none⟩ = some (.int .i64 0) := Blk.cell K 8
         have rf8 : World.frozen? w2 ⟨w.heap.size + 1, 8, none⟩ = false := Blk.frozen K 8
         have rc9 : World.cell? w2 ⟨w.heap.size + 1, 9, none⟩ = some (.int .i64 0) := Blk.cell K 9
         have rf9 : World.frozen? w2 ⟨w.heap.size + 1, 9, none⟩ = false := Blk.frozen K 9
         have rc10 : World.cell? w2 ⟨w.heap.size + 1, 10, none⟩ = some (.int .i64 0) := Blk.cell K 10
         have rf10 : World.frozen? w2 ⟨w.heap.size + 1, 10, none⟩ = false := Blk.frozen K 10
         have rc11 : World.cell? w2 ⟨w.heap.size + 1, 11, none⟩ = some (.int .i64 0) := Blk.cell K 11
         have rf11 : World.frozen? w2 ⟨w.heap.size + 1, 11, none⟩ = false := Blk.frozen K 11
         have rc12 : World.cell? w2 ⟨w.heap.size + 1, 12, none⟩ = some (.int .i64 0) := Blk.cell K 12
         have rf12 : World.frozen? w2 ⟨w.heap.size + 1, 12, none⟩ = false := Blk.frozen K 12
         have rc13 : World.cell? w2 ⟨w.heap.size + 1, 13, none⟩ = some (.slice none 0 0) := Blk.cell K 13
         have rf13 : World.frozen? w2 ⟨w.heap.size + 1, 13, none⟩ = false := Blk.frozen K 13
         have rc14 : World.cell? w2 ⟨w.heap.size + 1, 14, none⟩ = some (.int .i64 0) := Blk.cell K 14
         have rf14 : World.frozen? w2 ⟨w.heap.size + 1, 14, none⟩ = false := Blk.frozen K 14
         have rc15 : World.cell? w2 ⟨w.heap.size + 1, 15, none⟩ = some (.int .i64 0) := Blk.cell K 15
         have rf15 : World.frozen? w2 ⟨w.heap.size + 1, 15, none⟩ = false := Blk.frozen K 15
         have rc16 : World.cell? w2 ⟨w.heap.size + 1, 16, none⟩ = some (.bool false) := Blk.cell K 16
         have rf16 : World.frozen? w2 ⟨w.heap.size + 1, 16, none⟩ = false := Blk.frozen K 16
         clear K))
  rename_i hh
  clear hh
  have T := ((((((((((((((((((Two.mk HP2.out HQ.out S.out.bel).set_ (p := ⟨w.heap.size + 1, 0, none⟩) (by simp) (by simp) (.int .i64 p.page)).set_ (p := ⟨w.heap.size + 1, 1, none⟩) (by simp) (by simp) (.int .i64 p.cap)).set_ (p := ⟨w.heap.size + 1, 2, none⟩) (by simp) (by simp) (.int .i64 p.limit)).set_ (p := ⟨w.heap.size + 1, 3, none⟩) (by simp) (by simp) (.int .i64 p.low)).set_ (p := ⟨w.heap.size + 1, 4, none⟩) (by simp) (by simp) (.int .i64 p.high)).set_ (p := ⟨w.heap.size + 1, 5, none⟩) (by simp) (by simp) (.slice A' p.weights.length c')).set_ (p := ⟨w.heap.size + 1, 6, none⟩) (by simp) (by simp) (.int .i64 p.down)).set_ (p := ⟨w.heap.size + 1, 7, none⟩) (by simp) (by simp) (.int .i64 p.sleep)).set_ (p := ⟨w.heap.size + 1, 8, none⟩) (by simp) (by simp) (.int .i64 q.page)).set_ (p := ⟨w.heap.size + 1, 9, none⟩) (by simp) (by simp) (.int .i64 q.cap)).set_ (p := ⟨w.heap.size + 1, 10, none⟩) (by simp) (by simp) (.int .i64 q.limit)).set_ (p := ⟨w.heap.size + 1, 11, none⟩) (by simp) (by simp) (.int .i64 q.low)).set_ (p := ⟨w.heap.size + 1, 12, none⟩) (by simp) (by simp) (.int .i64 q.high)).set_ (p := ⟨w.heap.size + 1, 13, none⟩) (by simp) (by simp) (.slice A'' q.weights.length c'')).set_ (p := ⟨w.heap.size + 1, 14, none⟩) (by simp) (by simp) (.int .i64 q.down)).set_ (p := ⟨w.heap.size + 1, 15, none⟩) (by simp) (by simp) (.int .i64 q.sleep)).set_ (p := ⟨w.heap.size + 1, 16, none⟩) (by simp) (by simp) (.bool b))
  have T := Lib.hid T
  go_wp2
  refine bodyPost_ret (v := .agg #[.int .i64 p.page, .int .i64 p.cap, .int .i64 p.limit, .int .i64 p.low, .int .i64 p.high, .slice A' p.weights.length c', .int .i64 p.down, .int .i64 p.sleep, .int .i64 q.page, .int .i64 q.cap, .int .i64 q.limit, .int .i64 q.low, .int .i64 q.high, .slice A'' q.weights.length c'', .int .i64 q.down, .int .i64 q.sleep, .bool b]) (by simp [results, Try.results71, go_sem, *]) rfl ?_
  exact ⟨A', c', A'', c'', rfl, T.out.one.base (by omega), T.out.two.base (by omega), T.out.below⟩
end Go.Proofs.Ytkgliadgedamiaa
