/-
  Contracts of BoxStep: where it is safe and a policy waits; elsewhere. Nothing here is a claim.
-/
import Derived.Test.YtkgliadgedamiaaBoxAsk
namespace Go.Proofs.Ytkgliadgedamiaa
open Go.RowKit
set_option maxRecDepth 100000

set_option maxHeartbeats 1000000 in
theorem i_BoxStep_early (p q : Pol) (A A2 : Option Addr) (c c2 : Nat) (b : Bool) (w : World) (hr : Ints w w.heap.size A p.weights) (hl : p.weights.length ≤ 1000000000) (hr2 : Ints w w.heap.size A2 q.weights) (hl2 : q.weights.length ≤ 1000000000) :
    Calls Try.prog 22 #[.agg #[.int .i64 p.page, .int .i64 p.cap, .int .i64 p.limit, .int .i64 p.low, .int .i64 p.high, .slice A p.weights.length c, .int .i64 p.down, .int .i64 p.sleep, .int .i64 q.page, .int .i64 q.cap, .int .i64 q.limit, .int .i64 q.low, .int .i64 q.high, .slice A2 q.weights.length c2, .int .i64 q.down, .int .i64 q.sleep, .bool b], .bool false] w (GaveBox p q b false w) := by
  have HR := Lib.hid hr; clear hr
  have HR2 := Lib.hid hr2; clear hr2
  go_enter Try.func22, Try.ntmps22
  go_wp2_with fail
  refine (i_copyBox p q A A2 c c2 b _ ?_ hl ?_ hl2).mono ?_
  · exact HR.out.to (by go_grown) (by simp; omega)
  · exact HR2.out.to (by go_grown) (by simp; omega)
  rintro e W ⟨B1, d1, B2, d2, rfl, ho1, ho2, hb⟩
  have S := Lib.hid (((StI.of (St.next (((St.nil w).alloc rfl).alloc (n := w.heap.size + 1) (by simp)) hb)).add ho1 (by simp; omega)).add ho2 (by simp; omega))
  have hz : w.heap.size + 1 < W.heap.size := S.out.st.lt (.head _)
  have hz' : w.heap.size < W.heap.size := by omega
  clear hb ho1 ho2
  have q16 : W.cell? ⟨w.heap.size, 16, none⟩ = some (.bool b) := (S.out.st.blk _ _ _ (.tail _ (.head _))).cell 16
  go_wp2_with (first
    | (refine wpList_load_blk rfl 36 (.tmp 6) rfl W.heap.size 0 rfl 36 #[.int .i64 p.page, .int .i64 p.cap, .int .i64 p.limit, .int .i64 p.low, .int .i64 p.high, .slice B1 p.weights.length d1, .int .i64 p.down, .int .i64 p.sleep, .int .i64 q.page, .int .i64 q.cap, .int .i64 q.limit, .int .i64 q.low, .int .i64 q.high, .slice B2 q.weights.length d2, .int .i64 q.down, .int .i64 q.sleep, .bool b] #[.int .i64 p.page, .int .i64 p.cap, .int .i64 p.limit, .int .i64 p.low, .int .i64 p.high, .slice B1 p.weights.length d1, .int .i64 p.down, .int .i64 p.sleep, .int .i64 q.page, .int .i64 q.cap, .int .i64 q.limit, .int .i64 q.low, .int .i64 q.high, .slice B2 q.weights.length d2, .int .i64 q.down, .int .i64 q.sleep, .bool b] (Blk.new W _ _) rfl _ Try.underlying36 rfl szBox ?_)
    | (refine wpList_store_blk rfl 36 (.tmp 4) (.tmp 16) rfl (w.heap.size + 1) 0 #[.int .i64 p.page, .int .i64 p.cap, .int .i64 p.limit, .int .i64 p.low, .int .i64 p.high, .slice B1 p.weights.length d1, .int .i64 p.down, .int .i64 p.sleep, .int .i64 q.page, .int .i64 q.cap, .int .i64 q.limit, .int .i64 q.low, .int .i64 q.high, .slice B2 q.weights.length d2, .int .i64 q.down, .int .i64 q.sleep, .bool b] rfl rfl 36 #[.int .i64 0, .int .i64 0, .int .i64 0, .int .i64 0, .int .i64 0, .slice none 0 0, .int .i64 0, .int .i64 0, .int .i64 0, .int .i64 0, .int .i64 0, .int .i64 0, .int .i64 0, .slice none 0 0, .int .i64 0, .int .i64 0, .bool false] #[.int .i64 p.page, .int .i64 p.cap, .int .i64 p.limit, .int .i64 p.low, .int .i64 p.high, .slice B1 p.weights.length d1, .int .i64 p.down, .int .i64 p.sleep, .int .i64 q.page, .int .i64 q.cap, .int .i64 q.limit, .int .i64 q.low, .int .i64 q.high, .slice B2 q.weights.length d2, .int .i64 q.down, .int .i64 q.sleep, .bool b] ((S.out.st.blk _ _ _ (.head _)).alloc _) (by simp) rfl szBox rfl ?_; intro W4 K4 g4 z4; have S4 := Lib.hid ((S.out.last.other _).upd (by simp) (by decide) K4 g4); clear K4 g4))
  refine bodyPost_ret (v := .tuple #[.agg #[.int .i64 p.page, .int .i64 p.cap, .int .i64 p.limit, .int .i64 p.low, .int .i64 p.high, .slice B1 p.weights.length d1, .int .i64 p.down, .int .i64 p.sleep, .int .i64 q.page, .int .i64 q.cap, .int .i64 q.limit, .int .i64 q.low, .int .i64 q.high, .slice B2 q.weights.length d2, .int .i64 q.down, .int .i64 q.sleep, .bool b], .bool false]) (results_cell_tmp Try.results22 _ _ (w.heap.size + 1) 36 _ _ rfl (S4.out.st.blk _ _ _ (.head _)) Try.underlying36 rfl szBox) rfl ?_
  exact ⟨B1, d1, B2, d2, rfl, S4.out.row _ _ _ (.tail _ (.head _)), S4.out.row _ _ _ (.head _), S4.out.st.bel⟩

set_option maxHeartbeats 1000000 in
theorem i_BoxStep_none (p q : Pol) (A A2 : Option Addr) (c c2 : Nat) (w : World) (hr : Ints w w.heap.size A p.weights) (hl : p.weights.length ≤ 1000000000) (hr2 : Ints w w.heap.size A2 q.weights) (hl2 : q.weights.length ≤ 1000000000) :
    Calls Try.prog 22 #[.agg #[.int .i64 p.page, .int .i64 p.cap, .int .i64 p.limit, .int .i64 p.low, .int .i64 p.high, .slice A p.weights.length c, .int .i64 p.down, .int .i64 p.sleep, .int .i64 q.page, .int .i64 q.cap, .int .i64 q.limit, .int .i64 q.low, .int .i64 q.high, .slice A2 q.weights.length c2, .int .i64 q.down, .int .i64 q.sleep, .bool false], .bool true] w (GaveBox p q false false w) := by
  have HR := Lib.hid hr; clear hr
  have HR2 := Lib.hid hr2; clear hr2
  go_enter Try.func22, Try.ntmps22
  go_wp2_with fail
  refine (i_copyBox p q A A2 c c2 false _ ?_ hl ?_ hl2).mono ?_
  · exact HR.out.to (by go_grown) (by simp; omega)
  · exact HR2.out.to (by go_grown) (by simp; omega)
  rintro e W ⟨B1, d1, B2, d2, rfl, ho1, ho2, hb⟩
  have S := Lib.hid (((StI.of (St.next (((St.nil w).alloc rfl).alloc (n := w.heap.size + 1) (by simp)) hb)).add ho1 (by simp; omega)).add ho2 (by simp; omega))
  have hz : w.heap.size + 1 < W.heap.size := S.out.st.lt (.head _)
  have hz' : w.heap.size < W.heap.size := by omega
  clear hb ho1 ho2
  have q16 : W.cell? ⟨w.heap.size, 16, none⟩ = some (.bool false) := (S.out.st.blk _ _ _ (.tail _ (.head _))).cell 16
  go_wp2_with (first
    | (refine wpList_load_blk rfl 36 (.tmp 6) rfl W.heap.size 0 rfl 36 #[.int .i64 p.page, .int .i64 p.cap, .int .i64 p.limit, .int .i64 p.low, .int .i64 p.high, .slice B1 p.weights.length d1, .int .i64 p.down, .int .i64 p.sleep, .int .i64 q.page, .int .i64 q.cap, .int .i64 q.limit, .int .i64 q.low, .int .i64 q.high, .slice B2 q.weights.length d2, .int .i64 q.down, .int .i64 q.sleep, .bool false] #[.int .i64 p.page, .int .i64 p.cap, .int .i64 p.limit, .int .i64 p.low, .int .i64 p.high, .slice B1 p.weights.length d1, .int .i64 p.down, .int .i64 p.sleep, .int .i64 q.page, .int .i64 q.cap, .int .i64 q.limit, .int .i64 q.low, .int .i64 q.high, .slice B2 q.weights.length d2, .int .i64 q.down, .int .i64 q.sleep, .bool false] (Blk.new W _ _) rfl _ Try.underlying36 rfl szBox ?_)
    | (refine wpList_store_blk rfl 36 (.tmp 4) (.tmp 16) rfl (w.heap.size + 1) 0 #[.int .i64 p.page, .int .i64 p.cap, .int .i64 p.limit, .int .i64 p.low, .int .i64 p.high, .slice B1 p.weights.length d1, .int .i64 p.down, .int .i64 p.sleep, .int .i64 q.page, .int .i64 q.cap, .int .i64 q.limit, .int .i64 q.low, .int .i64 q.high, .slice B2 q.weights.length d2, .int .i64 q.down, .int .i64 q.sleep, .bool false] rfl rfl 36 #[.int .i64 0, .int .i64 0, .int .i64 0, .int .i64 0, .int .i64 0, .slice none 0 0, .int .i64 0, .int .i64 0, .int .i64 0, .int .i64 0, .int .i64 0, .int .i64 0, .int .i64 0, .slice none 0 0, .int .i64 0, .int .i64 0, .bool false] #[.int .i64 p.page, .int .i64 p.cap, .int .i64 p.limit, .int .i64 p.low, .int .i64 p.high, .slice B1 p.weights.length d1, .int .i64 p.down, .int .i64 p.sleep, .int .i64 q.page, .int .i64 q.cap, .int .i64 q.limit, .int .i64 q.low, .int .i64 q.high, .slice B2 q.weights.length d2, .int .i64 q.down, .int .i64 q.sleep, .bool false] ((S.out.st.blk _ _ _ (.head _)).alloc _) (by simp) rfl szBox rfl ?_; intro W4 K4 g4 z4; have S4 := Lib.hid ((S.out.last.other _).upd (by simp) (by decide) K4 g4); clear K4 g4))
  refine bodyPost_ret (v := .tuple #[.agg #[.int .i64 p.page, .int .i64 p.cap, .int .i64 p.limit, .int .i64 p.low, .int .i64 p.high, .slice B1 p.weights.length d1, .int .i64 p.down, .int .i64 p.sleep, .int .i64 q.page, .int .i64 q.cap, .int .i64 q.limit, .int .i64 q.low, .int .i64 q.high, .slice B2 q.weights.length d2, .int .i64 q.down, .int .i64 q.sleep, .bool false], .bool false]) (results_cell_tmp Try.results22 _ _ (w.heap.size + 1) 36 _ _ rfl (S4.out.st.blk _ _ _ (.head _)) Try.underlying36 rfl szBox) rfl ?_
  exact ⟨B1, d1, B2, d2, rfl, S4.out.row _ _ _ (.tail _ (.head _)), S4.out.row _ _ _ (.head _), S4.out.st.bel⟩

set_option maxHeartbeats 1000000 in
theorem i_BoxStep_done (p q : Pol) (A A2 : Option Addr) (c c2 : Nat) (w : World) (hr : Ints w w.heap.size A p.weights) (hl : p.weights.length ≤ 1000000000) (hr2 : Ints w w.heap.size A2 q.weights) (hl2 : q.weights.length ≤ 1000000000) :
    Calls Try.prog 22 #[.agg #[.int .i64 p.page, .int .i64 p.cap, .int .i64 p.limit, .int .i64 p.low, .int .i64 p.high, .slice A p.weights.length c, .int .i64 p.down, .int .i64 p.sleep, .int .i64 q.page, .int .i64 q.cap, .int .i64 q.limit, .int .i64 q.low, .int .i64 q.high, .slice A2 q.weights.length c2, .int .i64 q.down, .int .i64 q.sleep, .bool true], .bool true] w (GaveBox q q false true w) := by
  have HR := Lib.hid hr; clear hr
  have HR2 := Lib.hid hr2; clear hr2
  go_enter Try.func22, Try.ntmps22
  go_wp2_with fail
  refine (i_copyBox p q A A2 c c2 true _ ?_ hl ?_ hl2).mono ?_
  · exact HR.out.to (by go_grown) (by simp; omega)
  · exact HR2.out.to (by go_grown) (by simp; omega)
  rintro e W ⟨B1, d1, B2, d2, rfl, ho1, ho2, hb⟩
  have S := Lib.hid (((StI.of (St.next (((St.nil w).alloc rfl).alloc (n := w.heap.size + 1) (by simp)) hb)).add ho1 (by simp; omega)).add ho2 (by simp; omega))
  have hz : w.heap.size + 1 < W.heap.size := S.out.st.lt (.head _)
  have hz' : w.heap.size < W.heap.size := by omega
  clear hb ho1 ho2
  have q16 : W.cell? ⟨w.heap.size, 16, none⟩ = some (.bool true) := (S.out.st.blk _ _ _ (.tail _ (.head _))).cell 16
  go_wp2_with (refine wpList_load_blk rfl 33 (.tmp 17) rfl w.heap.size 8 rfl 36 #[.int .i64 p.page, .int .i64 p.cap, .int .i64 p.limit, .int .i64 p.low, .int .i64 p.high, .slice A p.weights.length c, .int .i64 p.down, .int .i64 p.sleep, .int .i64 q.page, .int .i64 q.cap, .int .i64 q.limit, .int .i64 q.low, .int .i64 q.high, .slice A2 q.weights.length c2, .int .i64 q.down, .int .i64 q.sleep, .bool true] #[.int .i64 q.page, .int .i64 q.cap, .int .i64 q.limit, .int .i64 q.low, .int .i64 q.high, .slice A2 q.weights.length c2, .int .i64 q.down, .int .i64 q.sleep] ((S.out.st.blk _ _ _ (.tail _ (.head _))).alloc _) rfl _ Try.underlying33 rfl szPol ?_)
  (with_reducible refine (i_copyPolicy q A2 c2 _ ?_ hl2).mono ?_)
  · exact HR2.out.to (S.out.st.bel.alloc S.out.st.bel.size _) (by simp; omega)
  rintro e w2 ⟨B3, d3, rfl, ho3, hb⟩
  have S2 := Lib.hid (((S.out.alloc rfl).next hb).add ho3 (by have := S.out.st.bel.size; simp; omega)); clear S hb ho3
  have hne : W.heap.size ≠ w.heap.size + 1 := by omega
  have hne' : w.heap.size + 1 ≠ W.heap.size := by omega
  clear q16
  go_wp2_with (first
    | (refine wpList_store_blk rfl 33 (.tmp 20) (.tmp 19) rfl W.heap.size 0 #[.int .i64 q.page, .int .i64 q.cap, .int .i64 q.limit, .int .i64 q.low, .int .i64 q.high, .slice B3 q.weights.length d3, .int .i64 q.down, .int .i64 q.sleep] rfl rfl 36 #[.int .i64 p.page, .int .i64 p.cap, .int .i64 p.limit, .int .i64 p.low, .int .i64 p.high, .slice B1 p.weights.length d1, .int .i64 p.down, .int .i64 p.sleep, .int .i64 q.page, .int .i64 q.cap, .int .i64 q.limit, .int .i64 q.low, .int .i64 q.high, .slice B2 q.weights.length d2, .int .i64 q.down, .int .i64 q.sleep, .bool true] #[.int .i64 q.page, .int .i64 q.cap, .int .i64 q.limit, .int .i64 q.low, .int .i64 q.high, .slice B3 q.weights.length d3, .int .i64 q.down, .int .i64 q.sleep, .int .i64 q.page, .int .i64 q.cap, .int .i64 q.limit, .int .i64 q.low, .int .i64 q.high, .slice B2 q.weights.length d2, .int .i64 q.down, .int .i64 q.sleep, .bool true] (S2.out.st.blk _ _ _ (.head _)) (by simp) rfl szPol rfl ?_; intro W3 K3 g3 z3; have q16 : W3.cell? ⟨W.heap.size, 16, none⟩ = some (.bool true) := K3.cell 16; have f16 : W3.frozen? ⟨W.heap.size, 16, none⟩ = false := K3.frozen 16; have S3 := Lib.hid (S2.out.upd (by simp; omega) (by decide) K3 g3); clear K3 g3)
    | (refine wpList_load_blk rfl 36 (.tmp 6) rfl W.heap.size 0 rfl 36 #[.int .i64 q.page, .int .i64 q.cap, .int .i64 q.limit, .int .i64 q.low, .int .i64 q.high, .slice B3 q.weights.length d3, .int .i64 q.down, .int .i64 q.sleep, .int .i64 q.page, .int .i64 q.cap, .int .i64 q.limit, .int .i64 q.low, .int .i64 q.high, .slice B2 q.weights.length d2, .int .i64 q.down, .int .i64 q.sleep, .bool false] #[.int .i64 q.page, .int .i64 q.cap, .int .i64 q.limit, .int .i64 q.low, .int .i64 q.high, .slice B3 q.weights.length d3, .int .i64 q.down, .int .i64 q.sleep, .int .i64 q.page, .int .i64 q.cap, .int .i64 q.limit, .int .i64 q.low, .int .i64 q.high, .slice B2 q.weights.length d2, .int .i64 q.down, .int .i64 q.sleep, .bool false] ((S3.out.st.blk _ _ _ (.head _)).set_ 16 (.bool false)) rfl _ Try.underlying36 rfl szBox ?_)
    | (refine wpList_store_blk rfl 36 (.tmp 4) (.tmp 22) rfl (w.heap.size + 1) 0 #[.int .i64 q.page, .int .i64 q.cap, .int .i64 q.limit, .int .i64 q.low, .int .i64 q.high, .slice B3 q.weights.length d3, .int .i64 q.down, .int .i64 q.sleep, .int .i64 q.page, .int .i64 q.cap, .int .i64 q.limit, .int .i64 q.low, .int .i64 q.high, .slice B2 q.weights.length d2, .int .i64 q.down, .int .i64 q.sleep, .bool false] rfl rfl 36 #[.int .i64 0, .int .i64 0, .int .i64 0, .int .i64 0, .int .i64 0, .slice none 0 0, .int .i64 0, .int .i64 0, .int .i64 0, .int .i64 0, .int .i64 0, .int .i64 0, .int .i64 0, .slice none 0 0, .int .i64 0, .int .i64 0, .bool false] #[.int .i64 q.page, .int .i64 q.cap, .int .i64 q.limit, .int .i64 q.low, .int .i64 q.high, .slice B3 q.weights.length d3, .int .i64 q.down, .int .i64 q.sleep, .int .i64 q.page, .int .i64 q.cap, .int .i64 q.limit, .int .i64 q.low, .int .i64 q.high, .slice B2 q.weights.length d2, .int .i64 q.down, .int .i64 q.sleep, .bool false] ((S3.out.set_ (by simp; omega) (by decide) 16 (.bool false)).st.blk _ _ _ (.tail _ (.head _))) (by simp) rfl szBox rfl ?_; intro W4 K4 g4 z4; have S4 := Lib.hid (((S3.out.set_ (by simp; omega) (by decide) 16 (.bool false)).swap.last).upd (by simp) (by decide) K4 g4); clear K4 g4))
  refine bodyPost_ret (v := .tuple #[.agg #[.int .i64 q.page, .int .i64 q.cap, .int .i64 q.limit, .int .i64 q.low, .int .i64 q.high, .slice B3 q.weights.length d3, .int .i64 q.down, .int .i64 q.sleep, .int .i64 q.page, .int .i64 q.cap, .int .i64 q.limit, .int .i64 q.low, .int .i64 q.high, .slice B2 q.weights.length d2, .int .i64 q.down, .int .i64 q.sleep, .bool false], .bool true]) (results_cell_tmp Try.results22 _ _ (w.heap.size + 1) 36 _ _ rfl (S4.out.st.blk _ _ _ (.head _)) Try.underlying36 rfl szBox) rfl ?_
  exact ⟨B3, d3, B2, d2, rfl, S4.out.row _ _ _ (.head _), S4.out.row _ _ _ (.tail _ (.head _)), S4.out.st.bel⟩
end Go.Proofs.Ytkgliadgedamiaa
