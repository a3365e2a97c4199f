/-
  Contract of BoxNew. Nothing here is a claim.
-/
import Derived.Test.YtkgliadgedamiaaBox
namespace Go.Proofs.Ytkgliadgedamiaa
open Go.RowKit
set_option maxRecDepth 100000

/-- A box and a yes or no: its value, its weights in rows of the call's own. -/
def GaveBox (p q : Pol) (b ok : Bool) (w : World) (e : Ending) (w' : World) : Prop := ∃ A c A2 c2, e = .returned (.tuple #[.agg #[.int .i64 p.page, .int .i64 p.cap, .int .i64 p.limit, .int .i64 p.low, .int .i64 p.high, .slice A p.weights.length c, .int .i64 p.down, .int .i64 p.sleep, .int .i64 q.page, .int .i64 q.cap, .int .i64 q.limit, .int .i64 q.low, .int .i64 q.high, .slice A2 q.weights.length c2, .int .i64 q.down, .int .i64 q.sleep, .bool b], .bool ok]) ∧
  OwnInts w' w.heap.size A c p.weights ∧ OwnInts w' w.heap.size A2 c2 q.weights ∧ Below w.heap.size w w'

set_option maxHeartbeats 2000000 in
theorem i_BoxNew (p : Pol) (A : Option Addr) (c : Nat) (w : World) (hr : Ints w w.heap.size A p.weights) (hl : p.weights.length ≤ 1000000000) (hok : polOkB p = true) :
    Calls Try.prog 20 #[.agg #[.int .i64 p.page, .int .i64 p.cap, .int .i64 p.limit, .int .i64 p.low, .int .i64 p.high, .slice A p.weights.length c, .int .i64 p.down, .int .i64 p.sleep]] w (GaveBox p p false true w) := by
  have HR := Lib.hid hr; clear hr
  have HK := Lib.hid hok; clear hok
  go_enter Try.func20, Try.ntmps20
  go_wp2_with fail
  refine (i_PolicyOk p A c _ ?_ hl).mono ?_
  · exact HR.out.to (by go_grown) (by simp; omega)
  rintro e W ⟨he, hb⟩
  rw [HK.out] at he
  subst he
  have S := Lib.hid (St.next (((St.nil w).alloc rfl).alloc (n := w.heap.size + 1) (by simp)) hb); clear hb
  have K0 := S.out.blk _ _ _ (.tail _ (.head _))
  have qc0 : World.cell? W ⟨w.heap.size, 0, none⟩ = some (.int .i64 p.page) := Blk.cell K0 0
  have qf0 : World.frozen? W ⟨w.heap.size, 0, none⟩ = false := Blk.frozen K0 0
  have qc1 : World.cell? W ⟨w.heap.size, 1, none⟩ = some (.int .i64 p.cap) := Blk.cell K0 1
  have qf1 : World.frozen? W ⟨w.heap.size, 1, none⟩ = false := Blk.frozen K0 1
  have qc2 : World.cell? W ⟨w.heap.size, 2, none⟩ = some (.int .i64 p.limit) := Blk.cell K0 2
  have qf2 : World.frozen? W ⟨w.heap.size, 2, none⟩ = false := Blk.frozen K0 2
  have qc3 : World.cell? W ⟨w.heap.size, 3, none⟩ = some (.int .i64 p.low) := Blk.cell K0 3
  have qf3 : World.frozen? W ⟨w.heap.size, 3, none⟩ = false := Blk.frozen K0 3
  have qc4 : World.cell? W ⟨w.heap.size, 4, none⟩ = some (.int .i64 p.high) := Blk.cell K0 4
  have qf4 : World.frozen? W ⟨w.heap.size, 4, none⟩ = false := Blk.frozen K0 4
  have qc5 : World.cell? W ⟨w.heap.size, 5, none⟩ = some (.slice A p.weights.length c) := Blk.cell K0 5
  have qf5 : World.frozen? W ⟨w.heap.size, 5, none⟩ = false := Blk.frozen K0 5
  have qc6 : World.cell? W ⟨w.heap.size, 6, none⟩ = some (.int .i64 p.down) := Blk.cell K0 6
  have qf6 : World.frozen? W ⟨w.heap.size, 6, none⟩ = false := Blk.frozen K0 6
  have qc7 : World.cell? W ⟨w.heap.size, 7, none⟩ = some (.int .i64 p.sleep) := Blk.cell K0 7
  have qf7 : World.frozen? W ⟨w.heap.size, 7, none⟩ = false := Blk.frozen K0 7
  clear K0
  go_wp2_with fail
  go_region_held3 (fun w' => World.cell? w' ⟨w.heap.size, 0, none⟩ = some (.int .i64 p.page) ∧ World.cell? w' ⟨w.heap.size, 1, none⟩ = some (.int .i64 p.cap) ∧ World.cell? w' ⟨w.heap.size, 2, none⟩ = some (.int .i64 p.limit) ∧ World.cell? w' ⟨w.heap.size, 3, none⟩ = some (.int .i64 p.low) ∧ World.cell? w' ⟨w.heap.size, 4, none⟩ = some (.int .i64 p.high) ∧ World.cell? w' ⟨w.heap.size, 5, none⟩ = some (.slice A p.weights.length c) ∧ World.cell? w' ⟨w.heap.size, 6, none⟩ = some (.int .i64 p.down) ∧ World.cell? w' ⟨w.heap.size, 7, none⟩ = some (.int .i64 p.sleep))
    (first | go_keep | exact ⟨Blk.cell (S.out.blk _ _ _ (.tail _ (.head _))) 0, Blk.cell (S.out.blk _ _ _ (.tail _ (.head _))) 1, Blk.cell (S.out.blk _ _ _ (.tail _ (.head _))) 2, Blk.cell (S.out.blk _ _ _ (.tail _ (.head _))) 3, Blk.cell (S.out.blk _ _ _ (.tail _ (.head _))) 4, Blk.cell (S.out.blk _ _ _ (.tail _ (.head _))) 5, Blk.cell (S.out.blk _ _ _ (.tail _ (.head _))) 6, Blk.cell (S.out.blk _ _ _ (.tail _ (.head _))) 7⟩ | exact ⟨Blk.cell (S1.out.blk _ _ _ (.tail _ (.head _))) 0, Blk.cell (S1.out.blk _ _ _ (.tail _ (.head _))) 1, Blk.cell (S1.out.blk _ _ _ (.tail _ (.head _))) 2, Blk.cell (S1.out.blk _ _ _ (.tail _ (.head _))) 3, Blk.cell (S1.out.blk _ _ _ (.tail _ (.head _))) 4, Blk.cell (S1.out.blk _ _ _ (.tail _ (.head _))) 5, Blk.cell (S1.out.blk _ _ _ (.tail _ (.head _))) 6, Blk.cell (S1.out.blk _ _ _ (.tail _ (.head _))) 7⟩)
    (first
      | (go_at_call 70; (with_reducible refine (i_copyPolicy p A c _ ?_ hl).mono ?_); (exact S.out.drew.ints HR.out); rintro e w1 ⟨A', c', rfl, hown, hb1⟩; have HP : Hid (OwnInts w1 (w.heap.size + 2) A' c' p.weights) := own_base hown (S.out.lt (.head _)); have S1 := Lib.hid (S.out.drew.next hb1); clear hown hb1 S)
      | (go_at_call 70; (with_reducible refine (i_copyPolicy p A c _ ?_ hl).mono ?_); (exact S1.out.ints HR.out); rintro e w2 ⟨A'', c'', rfl, hown, hb2⟩; have HQ : Hid (OwnInts w2 (w.heap.size + 2) A'' c'' p.weights) := own_base hown (S1.out.lt (.head _)); have HP2 := Lib.hid (HP.out.below hb2); have S := Lib.hid (S1.out.next hb2); clear hown hb2 S1 HP; have K := S.out.blk _ _ _ (.head _)
         have rc0 : World.cell? w2 ⟨w.heap.size + 1, 0, none⟩ = some (.int .i64 0) := Blk.cell K 0
         have rf0 : World.frozen? w2 ⟨w.heap.size + 1, 0, none⟩ = false := Blk.frozen K 0
         have rc1 : World.cell? w2 ⟨w.heap.size + 1, 1, none⟩ = some (.int .i64 0) := Blk.cell K 1
         have rf1 : World.frozen? w2 ⟨w.heap.size + 1, 1, none⟩ = false := Blk.frozen K 1
         have rc2 : World.cell? w2 ⟨w.heap.size + 1, 2, none⟩ = some (.int .i64 0) := Blk.cell K 2
         have rf2 : World.frozen? w2 ⟨w.heap.size + 1, 2, none⟩ = false := Blk.frozen K 2
         have rc3 : World.cell? w2 ⟨w.heap.size + 1, 3, none⟩ = some (.int .i64 0) := Blk.cell K 3
         have rf3 : World.frozen? w2 ⟨w.heap.size + 1, 3, none⟩ = false := Blk.frozen K 3
         have rc4 : World.cell? w2 ⟨w.heap.size + 1, 4, none⟩ = some (.int .i64 0) := Blk.cell K 4
         have rf4 : World.frozen? w2 ⟨w.heap.size + 1, 4, none⟩ = false := Blk.frozen K 4
         have rc5 : World.cell? w2 ⟨w.heap.size + 1, 5, none⟩ = some (.slice none 0 0) := Blk.cell K 5
         have rf5 : World.frozen? w2 ⟨w.heap.size + 1, 5, none⟩ = false := Blk.frozen K 5
         have rc6 : World.cell? w2 ⟨w.heap.size + 1, 6, none⟩ = some (.int .i64 0) := Blk.cell K 6
         have rf6 : World.frozen? w2 ⟨w.heap.size + 1, 6, none⟩ = false := Blk.frozen K 6
         have rc7 : World.cell? w2 ⟨w.heap.size + 1, 7, none⟩ = some (.int .i64 0) := Blk.cell K 7
         have rf7 : World.frozen? w2 ⟨w.heap.size + 1, 7, none⟩ = false := Blk.frozen K 7
         have rc8 : World.cell? w2 ⟨w.heap.size + 1, 8, none⟩ = some (.int .i64 0) := Blk.cell K 8
         have rf8 : World.frozen? w2 ⟨w.heap.size + 1, 8, none⟩ = false := Blk.frozen K 8
         have rc9 : World.cell? w2 ⟨w.heap.size + 1, 9, none⟩ = some (.int .i64 0) := Blk.cell K 9
         have rf9 : World.frozen? w2 ⟨w.heap.size + 1, 9, none⟩ = false := Blk.frozen K 9
         have rc10 : World.cell? w2 ⟨w.heap.size + 1, 10, none⟩ = some (.int .i64 0) := Blk.cell K 10
         have rf10 : World.frozen? w2 ⟨w.heap.size + 1, 10, none⟩ = false := Blk.frozen K 10
         have rc11 : World.cell? w2 ⟨w.heap.size + 1, 11, none⟩ = some (.int .i64 0) := Blk.cell K 11
         have rf11 : World.frozen? w2 ⟨w.heap.size + 1, 11, none⟩ = false := Blk.frozen K 11
         have rc12 : World.cell? w2 ⟨w.heap.size + 1, 12, none⟩ = some (.int .i64 0) := Blk.cell K 12
         have rf12 : World.frozen? w2 ⟨w.heap.size + 1, 12, none⟩ = false := Blk.frozen K 12
         have rc13 : World.cell? w2 ⟨w.heap.size + 1, 13, none⟩ = some (.slice none 0 0) := Blk.cell K 13
         have rf13 : World.frozen? w2 ⟨w.heap.size + 1, 13, none⟩ = false := Blk.frozen K 13
         have rc14 : World.cell? w2 ⟨w.heap.size + 1, 14, none⟩ = some (.int .i64 0) := Blk.cell K 14
         have rf14 : World.frozen? w2 ⟨w.heap.size + 1, 14, none⟩ = false := Blk.frozen K 14
         have rc15 : World.cell? w2 ⟨w.heap.size + 1, 15, none⟩ = some (.int .i64 0) := Blk.cell K 15
         have rf15 : World.frozen? w2 ⟨w.heap.size + 1, 15, none⟩ = false := Blk.frozen K 15
         have rc16 : World.cell? w2 ⟨w.heap.size + 1, 16, none⟩ = some (.bool false) := Blk.cell K 16
         have rf16 : World.frozen? w2 ⟨w.heap.size + 1, 16, none⟩ = false := Blk.frozen K 16
         clear K))
  rename_i hh
  clear hh
  have T := ((((((((((((((((((Two.mk HP2.out HQ.out S.out.bel).set_ (p := ⟨w.heap.size + 1, 0, none⟩) (by simp) (by simp) (.int .i64 p.page)).set_ (p := ⟨w.heap.size + 1, 1, none⟩) (by simp) (by simp) (.int .i64 p.cap)).set_ (p := ⟨w.heap.size + 1, 2, none⟩) (by simp) (by simp) (.int .i64 p.limit)).set_ (p := ⟨w.heap.size + 1, 3, none⟩) (by simp) (by simp) (.int .i64 p.low)).set_ (p := ⟨w.heap.size + 1, 4, none⟩) (by simp) (by simp) (.int .i64 p.high)).set_ (p := ⟨w.heap.size + 1, 5, none⟩) (by simp) (by simp) (.slice A' p.weights.length c')).set_ (p := ⟨w.heap.size + 1, 6, none⟩) (by simp) (by simp) (.int .i64 p.down)).set_ (p := ⟨w.heap.size + 1, 7, none⟩) (by simp) (by simp) (.int .i64 p.sleep)).set_ (p := ⟨w.heap.size + 1, 8, none⟩) (by simp) (by simp) (.int .i64 p.page)).set_ (p := ⟨w.heap.size + 1, 9, none⟩) (by simp) (by simp) (.int .i64 p.cap)).set_ (p := ⟨w.heap.size + 1, 10, none⟩) (by simp) (by simp) (.int .i64 p.limit)).set_ (p := ⟨w.heap.size + 1, 11, none⟩) (by simp) (by simp) (.int .i64 p.low)).set_ (p := ⟨w.heap.size + 1, 12, none⟩) (by simp) (by simp) (.int .i64 p.high)).set_ (p := ⟨w.heap.size + 1, 13, none⟩) (by simp) (by simp) (.slice A'' p.weights.length c'')).set_ (p := ⟨w.heap.size + 1, 14, none⟩) (by simp) (by simp) (.int .i64 p.down)).set_ (p := ⟨w.heap.size + 1, 15, none⟩) (by simp) (by simp) (.int .i64 p.sleep)).set_ (p := ⟨w.heap.size + 1, 16, none⟩) (by simp) (by simp) (.bool false))
  have T := Lib.hid T
  go_wp2
  refine bodyPost_ret (v := .tuple #[.agg #[.int .i64 p.page, .int .i64 p.cap, .int .i64 p.limit, .int .i64 p.low, .int .i64 p.high, .slice A' p.weights.length c', .int .i64 p.down, .int .i64 p.sleep, .int .i64 p.page, .int .i64 p.cap, .int .i64 p.limit, .int .i64 p.low, .int .i64 p.high, .slice A'' p.weights.length c'', .int .i64 p.down, .int .i64 p.sleep, .bool false], .bool true]) (by simp [results, Try.results20, go_sem, *]) rfl ?_
  exact ⟨A', c', A'', c'', rfl, T.out.one.base (by omega), T.out.two.base (by omega), T.out.below⟩

end Go.Proofs.Ytkgliadgedamiaa
