/-
  Contracts of the laws' own comparisons: big, sameInts, samePolicy. Nothing here is a claim.
-/
import Derived.Test.YtkgliadgedamiaaPolicyDraw
import Derived.Test.YtkgliadgedamiaaLaws
namespace Go.Proofs.Ytkgliadgedamiaa
open Go.RowKit
set_option maxRecDepth 100000

set_option maxHeartbeats 400000 in
theorem l_big (A : Option Addr) (n c : Nat) (w : World) :
    Calls Try.prog 18 #[.slice A n c] w fun e w' => e = .returned (.bool (decide (1048576 < (n : Int)))) ∧ w = w' := by
  by_cases h : 1048576 < (n : Int)
  all_goals
    go_enter Try.func18, Try.ntmps18
    go_wp2
    go_ret
    exact ⟨by simp [h], rfl⟩

set_option maxHeartbeats 400000 in
theorem l_sameInts_eq (A A2 : Option Addr) (c c2 : Nat) (l : List Int) (hl : l.length ≤ 1000000000) (w : World) (h : Ints w w.heap.size A l) (h2 : Ints w w.heap.size A2 l) :
    Calls Try.prog 38 #[.slice A l.length c, .slice A2 l.length c2] w fun e w' => e = .returned (.bool true) ∧ Below w.heap.size w w' := by
  have H := Lib.hid h; clear h
  have H2 := Lib.hid h2; clear h2
  go_enter Try.func38, Try.ntmps38
  go_wp2
  go_loopw [5] (fun i wr => ∃ k : Nat, k ≤ l.length ∧ i = .int .i64 (k : Int) ∧ Below w.heap.size w wr) (fun i _ => l.length - (intOf i).toNat)
  case atStart => exact ⟨0, by omega, rfl, Below.refl _ _⟩
  case round =>
    obtain ⟨k, hk, rfl, hbel⟩ := hrel
    by_cases hlt : k < l.length
    · obtain ⟨b1, o1, rfl, _, q1⟩ := Ints.at_ (H.out.below hbel (Nat.le_refl _)) hlt
      obtain ⟨b2, o2, rfl, _, q2⟩ := Ints.at_ (H2.out.below hbel (Nat.le_refl _)) hlt
      go_wp2
      go_quiet (fail)
      go_wp2
      go_roundw
      case rel => exact ⟨k + 1, by omega, by go_num, by first | exact hbel | exact hbel.drew | exact Below.trans hbel ⟨rfl, rfl, rfl, Nat.le_refl _, fun _ _ => rfl⟩⟩
      case measure => simp [intOf]; omega
    · go_wp2
      go_ret
      exact ⟨rfl, hbel⟩

set_option maxHeartbeats 1000000 in
theorem l_samePolicy_eq (p : Pol) (A A2 : Option Addr) (c c2 : Nat) (hl : p.weights.length ≤ 1000000000) (w : World) (h : Ints w w.heap.size A p.weights) (h2 : Ints w w.heap.size A2 p.weights) :
    Calls Try.prog 23 #[.agg #[.int .i64 p.page, .int .i64 p.cap, .int .i64 p.limit, .int .i64 p.low, .int .i64 p.high, .slice A p.weights.length c, .int .i64 p.down, .int .i64 p.sleep], .agg #[.int .i64 p.page, .int .i64 p.cap, .int .i64 p.limit, .int .i64 p.low, .int .i64 p.high, .slice A2 p.weights.length c2, .int .i64 p.down, .int .i64 p.sleep]] w fun e w' => e = .returned (.bool true) ∧ Below w.heap.size w w' := by
  obtain ⟨pg, cp, li, lo, hi, ws, dn, sl⟩ := p
  dsimp only at h h2 hl ⊢
  have H := Lib.hid h; clear h
  have H2 := Lib.hid h2; clear h2
  go_enter Try.func23, Try.ntmps23
  go_wp2_with fail
  (with_reducible refine (l_sameInts_eq A A2 c c2 ws hl _ ?_ ?_).mono ?_)
  · exact H.out.to (by go_grown) (by simp; omega)
  · exact H2.out.to (by go_grown) (by simp; omega)
  rintro e w1 ⟨rfl, hb⟩
  have hb0 : Below w.heap.size w w1 := Below.trans (by go_grown) (hb.mono (by simp; omega))
  clear hb
  go_wp2
  go_ret
  exact ⟨rfl, hb0⟩

theorem szPolS : (Try.prog.info? 33).map (·.size) = some 8 := by kernel_rfl
/-- A policy that was drawn from the law's bytes. -/
def GavePol (w : World) (e : Ending) (w' : World) : Prop := ∃ (p : Pol) (bw : Nat), e = .returned (.agg #[.int .i64 p.page, .int .i64 p.cap, .int .i64 p.limit, .int .i64 p.low, .int .i64 p.high, .slice (some ⟨bw, 0, none⟩) p.weights.length 4, .int .i64 p.down, .int .i64 p.sleep]) ∧ PolGood p ∧ Ints w' w'.heap.size (some ⟨bw, 0, none⟩) p.weights ∧ Below w.heap.size w w'

set_option maxHeartbeats 400000 in
theorem s_DrawPolicy (A : Option Addr) (n c : Nat) (hn : n ≤ 1000000000) (w : World) (hb : Bytes w w.heap.size A n) :
    Calls Try.prog 19 #[.slice A n c] w (GavePol w) := by
  have HB := Lib.hid hb; clear hb
  go_enter Try.func19, Try.ntmps19
  go_wp2_with fail
  refine (s_l01New A n c (by omega) _ ?_).mono ?_
  · obtain ⟨xs, hr, hx⟩ := HB.out
    exact ⟨xs, (hr.alloc (Nat.le_refl _) _).more (by simp), hx⟩
  rintro e w1 ⟨g, rfl, hc, hg, hb1⟩
  simp only [World.size_alloc] at hg hb1
  have S1 := Lib.hid (St.next ((St.nil w).alloc rfl) (by simpa using hb1)); clear hb1
  have HC := Lib.hid hc; clear hc
  go_wp2_with fail
  (with_reducible refine (s_l34Policy g _ HC.out).mono ?_)
  rintro e w2 ⟨p, bw, rfl, hp, hw, hbw, hc2, hg2⟩
  have hz := S1.out.bel.size
  have K : Blk w2 w.heap.size 33 #[.int .i64 0, .int .i64 0, .int .i64 0, .int .i64 0, .int .i64 0, .slice none 0 0, .int .i64 0, .int .i64 0] := (S1.out.blk _ _ _ (.head _)).grown hg2 (by intro e; injection e; omega)
  have hb2 : Below w.heap.size w w2 := below_grown S1.out.bel hg2 (by omega) hz
  have hne : bw ≠ w.heap.size := by have := S1.out.lt (.head _); omega
  have HP := Lib.hid hp
  have HW := Lib.hid hw
  have HB2 := Lib.hid hb2
  clear hp hw hc2 hg2 S1 hb2
  go_wp2_with (refine wpList_store_blk rfl 33 (.tmp 2) (.tmp 5) rfl w.heap.size 0 #[.int .i64 p.page, .int .i64 p.cap, .int .i64 p.limit, .int .i64 p.low, .int .i64 p.high, .slice (some ⟨bw, 0, none⟩) p.weights.length 4, .int .i64 p.down, .int .i64 p.sleep] rfl rfl 33 #[.int .i64 0, .int .i64 0, .int .i64 0, .int .i64 0, .int .i64 0, .slice none 0 0, .int .i64 0, .int .i64 0] #[.int .i64 p.page, .int .i64 p.cap, .int .i64 p.limit, .int .i64 p.low, .int .i64 p.high, .slice (some ⟨bw, 0, none⟩) p.weights.length 4, .int .i64 p.down, .int .i64 p.sleep] K (by simp) rfl szPolS rfl ?_; intro W3 K3 g3 z3)
  refine bodyPost_ret (v := .agg #[.int .i64 p.page, .int .i64 p.cap, .int .i64 p.limit, .int .i64 p.low, .int .i64 p.high, .slice (some ⟨bw, 0, none⟩) p.weights.length 4, .int .i64 p.down, .int .i64 p.sleep]) (results_cell1 Try.results19 _ _ w.heap.size 33 _ _ rfl K3 Try.underlying33 rfl szPolS) rfl ?_
  have hw3 : Blk W3 bw 3 (ints p.weights).toArray := HW.out.grown g3 (by intro e; injection e; omega)
  refine ⟨p, bw, rfl, HP.out, ?_, below_grown HB2.out g3 (Nat.le_refl _) HB2.out.size⟩
  have h := Reads.of_block (size := 1) (n := p.weights.length) (cap := p.weights.length) hw3 hw3.lt (by simp [ints]) (Nat.le_refl _)
  have e : List.take (p.weights.length * 1) (ints p.weights).toArray.toList = ints p.weights := by rw [Nat.mul_one]; exact List.take_of_length_le (by simp [ints])
  rw [e] at h
  exact h

/-- A state with slices of ints that read as lists. -/
structure StR (w0 : World) (bs : List (Nat × TypeId × Array Value)) (rs : List (Option Addr × List Int)) (W : World) : Prop where
  st : St w0 bs W
  rd : ∀ A l, (A, l) ∈ rs → Ints W W.heap.size A l
section
variable {w0 W w1 : World} {bs : List (Nat × TypeId × Array Value)} {rs : List (Option Addr × List Int)} {b n : Nat} {t : TypeId} {cs : Array Value}
theorem StR.of (h : St w0 bs W) : StR w0 bs [] W := ⟨h, fun _ _ hm => by cases hm⟩
theorem StR.alloc (h : StR w0 bs rs W) (hn : n = W.heap.size) : StR w0 ((n, t, cs) :: bs) rs (W.alloc (.cells cs t)) := ⟨h.st.alloc hn, fun _ _ hm => (h.rd _ _ hm).to ((Below.refl _ _).alloc (Nat.le_refl _) _) (by simp)⟩
theorem StR.other (h : StR w0 bs rs W) (o : Obj) : StR w0 bs rs (W.alloc o) := ⟨h.st.other o, fun _ _ hm => (h.rd _ _ hm).to ((Below.refl _ _).alloc (Nat.le_refl _) _) (by simp)⟩
theorem StR.next (h : StR w0 bs rs W) (hb : Below W.heap.size W w1) : StR w0 bs rs w1 := ⟨h.st.next hb, fun _ _ hm => (h.rd _ _ hm).to hb hb.size⟩
theorem StR.add {A : Option Addr} {l : List Int} (h : StR w0 bs rs W) (hi : Ints W W.heap.size A l) : StR w0 bs ((A, l) :: rs) W :=
  ⟨h.st, fun A' l' hm => by
    rcases List.mem_cons.1 hm with e | hm
    · injection e with e1 e2; subst e1 e2; exact hi
    · exact h.rd _ _ hm⟩
end
theorem Bytes.to {w w' : World} {B : Nat} {A : Option Addr} {n : Nat} (h : Bytes w B A n) (hb : Below B w w') (hB : B ≤ w'.heap.size) : Bytes w' w'.heap.size A n := by
  obtain ⟨xs, hr, hx⟩ := h
  exact ⟨xs, (hr.below hb).more hB, hx⟩
end Go.Proofs.Ytkgliadgedamiaa
