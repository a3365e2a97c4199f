/-
  Contract of BoxAsk, of a policy that is valid. Nothing here is a claim.
-/
import Derived.Test.YtkgliadgedamiaaBox2
import Derived.Test.YtkgliadgedamiaaLaws
namespace Go.Proofs.Ytkgliadgedamiaa
open Go.RowKit
set_option maxRecDepth 100000

theorem szPol : (Try.prog.info? 33).map (·.size) = some 8 := by kernel_rfl
theorem szBox : (Try.prog.info? 36).map (·.size) = some 17 := by kernel_rfl

set_option maxHeartbeats 1000000 in
theorem i_BoxAsk (p q r : Pol) (A A2 A3 : Option Addr) (c c2 c3 : Nat) (b : Bool) (w : World) (hr : Ints w w.heap.size A p.weights) (hl : p.weights.length ≤ 1000000000) (hr2 : Ints w w.heap.size A2 q.weights) (hl2 : q.weights.length ≤ 1000000000)
    (hr3 : Ints w w.heap.size A3 r.weights) (hl3 : r.weights.length ≤ 1000000000) (hok : polOkB r = true) :
    Calls Try.prog 21 #[.agg #[.int .i64 p.page, .int .i64 p.cap, .int .i64 p.limit, .int .i64 p.low, .int .i64 p.high, .slice A p.weights.length c, .int .i64 p.down, .int .i64 p.sleep, .int .i64 q.page, .int .i64 q.cap, .int .i64 q.limit, .int .i64 q.low, .int .i64 q.high, .slice A2 q.weights.length c2, .int .i64 q.down, .int .i64 q.sleep, .bool b], .agg #[.int .i64 r.page, .int .i64 r.cap, .int .i64 r.limit, .int .i64 r.low, .int .i64 r.high, .slice A3 r.weights.length c3, .int .i64 r.down, .int .i64 r.sleep]] w (GaveBox p r true true w) := by
  have HR := Lib.hid hr; clear hr
  have HR2 := Lib.hid hr2; clear hr2
  have HR3 := Lib.hid hr3; clear hr3
  have HK := Lib.hid hok; clear hok
  go_enter Try.func21, Try.ntmps21
  go_wp2_with fail
  (with_reducible refine (i_copyBox p q A A2 c c2 b _ ?_ hl ?_ hl2).mono ?_)
  · exact HR.out.to (by go_grown) (by simp; omega)
  · exact HR2.out.to (by go_grown) (by simp; omega)
  rintro e W ⟨B1, d1, B2, d2, rfl, ho1, ho2, hb⟩
  have S := Lib.hid (((StI.of (St.next ((((St.nil w).alloc rfl).alloc (n := w.heap.size + 1) (by simp)).alloc (n := w.heap.size + 1 + 1) (by simp)) hb)).add ho1 (by simp; omega)).add ho2 (by simp; omega))
  have hz : w.heap.size + 1 + 1 < W.heap.size := S.out.st.lt (.head _)
  clear hb ho1 ho2
  go_wp2_with (refine wpList_load_blk rfl 33 (.tmp 3) rfl (w.heap.size + 1) 0 rfl 33 #[.int .i64 r.page, .int .i64 r.cap, .int .i64 r.limit, .int .i64 r.low, .int .i64 r.high, .slice A3 r.weights.length c3, .int .i64 r.down, .int .i64 r.sleep] #[.int .i64 r.page, .int .i64 r.cap, .int .i64 r.limit, .int .i64 r.low, .int .i64 r.high, .slice A3 r.weights.length c3, .int .i64 r.down, .int .i64 r.sleep] ((S.out.st.blk _ _ _ (.tail _ (.head _))).alloc _) rfl _ Try.underlying33 rfl szPol ?_)
  (with_reducible refine (i_PolicyOk r A3 c3 _ ?_ hl3).mono ?_)
  · exact HR3.out.to (S.out.st.bel.alloc S.out.st.bel.size _) (by simp; omega)
  rintro e w1 ⟨he, hb⟩
  rw [HK.out] at he
  subst he
  have S1 := Lib.hid ((S.out.alloc rfl).next hb); clear S hb
  have hz1 : W.heap.size < w1.heap.size := S1.out.st.lt (.head _)
  go_wp2_with (refine wpList_load_blk rfl 33 (.tmp 3) rfl (w.heap.size + 1) 0 rfl 33 #[.int .i64 r.page, .int .i64 r.cap, .int .i64 r.limit, .int .i64 r.low, .int .i64 r.high, .slice A3 r.weights.length c3, .int .i64 r.down, .int .i64 r.sleep] #[.int .i64 r.page, .int .i64 r.cap, .int .i64 r.limit, .int .i64 r.low, .int .i64 r.high, .slice A3 r.weights.length c3, .int .i64 r.down, .int .i64 r.sleep] (S1.out.st.blk _ _ _ (.tail _ (.tail _ (.head _)))) rfl _ Try.underlying33 rfl szPol ?_)
  (with_reducible refine (i_copyPolicy r A3 c3 _ ?_ hl3).mono ?_)
  · exact HR3.out.to S1.out.st.bel S1.out.st.bel.size
  rintro e w2 ⟨B3, d3, rfl, ho3, hb⟩
  have S2 := Lib.hid ((S1.out.next hb).add ho3 S1.out.st.bel.size); clear S1 hb ho3
  have hne : W.heap.size ≠ w.heap.size + 1 + 1 := by omega
  have hne' : w.heap.size + 1 + 1 ≠ W.heap.size := by omega
  go_wp2_with (first
    | (refine wpList_store_blk rfl 33 (.tmp 15) (.tmp 14) rfl W.heap.size 8 #[.int .i64 r.page, .int .i64 r.cap, .int .i64 r.limit, .int .i64 r.low, .int .i64 r.high, .slice B3 r.weights.length d3, .int .i64 r.down, .int .i64 r.sleep] rfl rfl 36 #[.int .i64 p.page, .int .i64 p.cap, .int .i64 p.limit, .int .i64 p.low, .int .i64 p.high, .slice B1 p.weights.length d1, .int .i64 p.down, .int .i64 p.sleep, .int .i64 q.page, .int .i64 q.cap, .int .i64 q.limit, .int .i64 q.low, .int .i64 q.high, .slice B2 q.weights.length d2, .int .i64 q.down, .int .i64 q.sleep, .bool b] #[.int .i64 p.page, .int .i64 p.cap, .int .i64 p.limit, .int .i64 p.low, .int .i64 p.high, .slice B1 p.weights.length d1, .int .i64 p.down, .int .i64 p.sleep, .int .i64 r.page, .int .i64 r.cap, .int .i64 r.limit, .int .i64 r.low, .int .i64 r.high, .slice B3 r.weights.length d3, .int .i64 r.down, .int .i64 r.sleep, .bool b] (S2.out.st.blk _ _ _ (.head _)) (by simp) rfl szPol rfl ?_; intro W3 K3 g3 z3; have q16 : W3.cell? ⟨W.heap.size, 16, none⟩ = some (.bool b) := K3.cell 16; have f16 : W3.frozen? ⟨W.heap.size, 16, none⟩ = false := K3.frozen 16; have S3 := Lib.hid (S2.out.upd (by simp; omega) (by decide) K3 g3); clear K3 g3)
    | (refine wpList_load_blk rfl 36 (.tmp 6) rfl W.heap.size 0 rfl 36 #[.int .i64 p.page, .int .i64 p.cap, .int .i64 p.limit, .int .i64 p.low, .int .i64 p.high, .slice B1 p.weights.length d1, .int .i64 p.down, .int .i64 p.sleep, .int .i64 r.page, .int .i64 r.cap, .int .i64 r.limit, .int .i64 r.low, .int .i64 r.high, .slice B3 r.weights.length d3, .int .i64 r.down, .int .i64 r.sleep, .bool true] #[.int .i64 p.page, .int .i64 p.cap, .int .i64 p.limit, .int .i64 p.low, .int .i64 p.high, .slice B1 p.weights.length d1, .int .i64 p.down, .int .i64 p.sleep, .int .i64 r.page, .int .i64 r.cap, .int .i64 r.limit, .int .i64 r.low, .int .i64 r.high, .slice B3 r.weights.length d3, .int .i64 r.down, .int .i64 r.sleep, .bool true] ((S3.out.st.blk _ _ _ (.head _)).set_ 16 (.bool true)) rfl _ Try.underlying36 rfl szBox ?_)
    | (refine wpList_store_blk rfl 36 (.tmp 4) (.tmp 17) rfl (w.heap.size + 1 + 1) 0 #[.int .i64 p.page, .int .i64 p.cap, .int .i64 p.limit, .int .i64 p.low, .int .i64 p.high, .slice B1 p.weights.length d1, .int .i64 p.down, .int .i64 p.sleep, .int .i64 r.page, .int .i64 r.cap, .int .i64 r.limit, .int .i64 r.low, .int .i64 r.high, .slice B3 r.weights.length d3, .int .i64 r.down, .int .i64 r.sleep, .bool true] rfl rfl 36 #[.int .i64 0, .int .i64 0, .int .i64 0, .int .i64 0, .int .i64 0, .slice none 0 0, .int .i64 0, .int .i64 0, .int .i64 0, .int .i64 0, .int .i64 0, .int .i64 0, .int .i64 0, .slice none 0 0, .int .i64 0, .int .i64 0, .bool false] #[.int .i64 p.page, .int .i64 p.cap, .int .i64 p.limit, .int .i64 p.low, .int .i64 p.high, .slice B1 p.weights.length d1, .int .i64 p.down, .int .i64 p.sleep, .int .i64 r.page, .int .i64 r.cap, .int .i64 r.limit, .int .i64 r.low, .int .i64 r.high, .slice B3 r.weights.length d3, .int .i64 r.down, .int .i64 r.sleep, .bool true] ((S3.out.set_ (by simp; omega) (by decide) 16 (.bool true)).st.blk _ _ _ (.tail _ (.head _))) (by simp) rfl szBox rfl ?_; intro W4 K4 g4 z4; have S4 := Lib.hid (((S3.out.set_ (by simp; omega) (by decide) 16 (.bool true)).swap.last).upd (by simp) (by decide) K4 g4); clear K4 g4))

  refine bodyPost_ret (v := .tuple #[.agg #[.int .i64 p.page, .int .i64 p.cap, .int .i64 p.limit, .int .i64 p.low, .int .i64 p.high, .slice B1 p.weights.length d1, .int .i64 p.down, .int .i64 p.sleep, .int .i64 r.page, .int .i64 r.cap, .int .i64 r.limit, .int .i64 r.low, .int .i64 r.high, .slice B3 r.weights.length d3, .int .i64 r.down, .int .i64 r.sleep, .bool true], .bool true]) (results_cell_tmp Try.results21 _ _ (w.heap.size + 1 + 1) 36 _ _ rfl (S4.out.st.blk _ _ _ (.head _)) Try.underlying36 rfl szBox) rfl ?_
  exact ⟨B1, d1, B3, d3, rfl, S4.out.row _ _ _ (.tail _ (.tail _ (.head _))), S4.out.row _ _ _ (.head _), S4.out.st.bel⟩
end Go.Proofs.Ytkgliadgedamiaa
