/-
  The walk of the law FnPolicyWaits: it returns true for every slice of bytes. No condition.
-/
import Derived.Test.YtkgliadgedamiaaSame
import Derived.Test.YtkgliadgedamiaaBoxStep
import Derived.Test.YtkgliadgedamiaaOpenBytes
namespace Go.Proofs.Ytkgliadgedamiaa
open Go.RowKit
set_option maxRecDepth 100000

theorem good_ok {p : Pol} (h : PolGood p) : polOkB p = true := by
  obtain ⟨hp, hc, hl, ho, hh, ⟨hw, hw2⟩, hd, hs⟩ := h
  have h1 : (p.page == 0 || p.page == 1) = true := by simpa using hp
  have h2 : inB p.cap 0 100000 = true := inB_mk (by omega) (by omega)
  have h3 : inB p.limit 3 1000 = true := inB_mk (by omega) (by omega)
  have h4 : drainOk p.low p.high = true := by simp [drainOk]; omega
  have h5 : (((p.weights.length : Int)) == 4) = true := by simp [hw]
  have h6 : sharesOk (p.weights.map dup) = true := by
    unfold sharesOk
    rw [Bool.and_eq_true]
    refine ⟨List.all_eq_true.2 fun s hs => ?_, inB_mk (by simp [hw]) (by simp [hw])⟩
    obtain ⟨x, hx, rfl⟩ := List.mem_map.1 hs
    have := hw2 x hx
    simp only [shareOk, dup, Bool.and_eq_true]
    exact ⟨inB_mk (by omega) (by omega), inB_mk (by omega) (by omega)⟩
  have h7 : ruleOk p.down p.sleep = true := by simp [ruleOk]; omega
  simp [polOkB, h1, h2, h3, h4, h5, h6, h7]

theorem Try.info85 : (Try.prog.info? 5).map (fun i => (i.zero, i.size, i.bytes)) = some (some (.int .u8 0), 1, 1) := by kernel_rfl

theorem own_one' {w : World} {base n : Nat} {e : TypeId} {v : Value} (h : n = w.heap.size) (hb : base ≤ w.heap.size) : (w.alloc (.cells #[v] e)).ownsRow base e 1 (.slice (some ⟨n, 0, none⟩) 1 1) 1 [v] := by
  subst h
  exact ⟨rfl, .inr ⟨w.heap.size, 1, #[v], rfl, hb, heap_alloc_new w _, Nat.le_refl _, by unfold maxLen; omega, rfl, rfl⟩⟩
theorem bytes_snoc {w1 : World} {B' n c : Nat} {A' : Option Addr} {xs : List Value} (hx : ∀ u ∈ xs, ∃ z : Int, u = .int .u8 z ∧ 0 ≤ z ∧ z ≤ 255)
    (ho : w1.ownsRow B' 5 1 (.slice A' (1 + n) c) (1 + n) ([.int .u8 3] ++ xs)) : Bytes w1 w1.heap.size A' (1 + n) := by
  refine ⟨_, Reads.of_own ho, fun u hu => ?_⟩
  rcases List.mem_append.1 hu with h | h
  · exact ⟨3, by simpa using h, by omega, by omega⟩
  · exact hx u h

set_option maxHeartbeats 2000000 in
theorem law_PolicyWaits_yes (A : Option Addr) (n c : Nat) (hn : n ≤ 1048576) (w : World) (hb : Bytes w w.heap.size A n) :
    Calls Try.prog 5 #[.slice A n c] w fun e w' => e = .returned (.bool true) ∧ Below w.heap.size w w' := by
  obtain ⟨i0, hi0, hz0, hz1, hz2⟩ := info_parts Try.info85
  have HB := Lib.hid hb
  obtain ⟨xs, hr, hx⟩ := hb
  have HR := Lib.hid hr; clear hr
  have HX := Lib.hid hx; clear hx
  have hdec : decide (1048576 < (n : Int)) = false := by simp; omega
  go_enter Try.func5, Try.ntmps5
  go_wp2_with fail
  (with_reducible refine (l_big _ _ _ _).mono ?_)
  rintro e w0 ⟨he, rfl⟩
  rw [hdec] at he
  subst he
  go_wp2_with fail
  (with_reducible refine (s_DrawPolicy A n c (by omega) _ HB.out).mono ?_)
  rintro e w1 ⟨p, bp, rfl, hp, hip, hb1⟩
  have HP := Lib.hid hp
  have HL : Hid (p.weights.length ≤ 1000000000) := by have := hp.2.2.2.2.2.1.1; show _ ≤ _; omega
  have S := Lib.hid ((StR.of ((St.nil w).next hb1)).add hip)
  clear hp hip hb1
  go_wp2_with (at_builtin; (refine wpList_append_any _ rfl (.tmp 19) (.tmp 20) 27 rfl w.heap.size 5 i0 (.int .u8 0) 1 1 Try.underlying27 hi0 hz0 hz1 hz2 rfl (by decide) _ 1 [.int .u8 3] rfl ?own w.heap.size A n c xs rfl ?src ?one ?c3 ?c4 ?c5 ?_))
  case own => exact own_one' (by simp) (by have := S.out.st.bel.size; simp; omega)
  case src => exact HR.out.below ((S.out.st.bel.alloc S.out.st.bel.size _).alloc (by have := S.out.st.bel.size; simp; omega) _)
  case one =>
    intro u hu
    obtain ⟨z, rfl, _⟩ := HX.out u hu
    rfl
  case c3 => unfold maxLen; omega
  case c4 => omega
  case c5 => have := S.out.st.bel.size; simp; omega
  intro v1 w2 hown hg hat
  have hb2 := below_own (B := w1.heap.size + 1) hg rfl (by simp) (by simp)
  obtain ⟨A2, c2, hv⟩ := own_form hown
  subst hv
  have HB2 := Lib.hid (bytes_snoc HX.out hown)
  have S1 := Lib.hid (StR.next ((S.out.alloc (n := w1.heap.size) rfl)) (hb2.mono (by simp) |> fun h => (Below.refl _ _).trans (by exact ⟨h.os, h.tape, h.output, Nat.le_trans (by simp) h.size, fun k hk => (h.block k hk).trans (Below.heap_alloc _ _ _ hk)⟩)))
  clear hown hg hat hb2 S
  go_wp2_with fail
  (with_reducible refine (s_DrawPolicy A2 (1 + n) c2 (by omega) _ HB2.out).mono ?_)
  rintro e w3 ⟨q, bq, rfl, hq, hiq, hb3⟩
  have HQ := Lib.hid hq
  have HL2 : Hid (q.weights.length ≤ 1000000000) := by have := hq.2.2.2.2.2.1.1; show _ ≤ _; omega
  have S3 := Lib.hid (((S1.out.next hb3).add hiq).alloc (n := w3.heap.size) (t := 33) (cs := #[.int .i64 q.page, .int .i64 q.cap, .int .i64 q.limit, .int .i64 q.low, .int .i64 q.high, .slice (some ⟨bq, 0, none⟩) q.weights.length 4, .int .i64 q.down, .int .i64 q.sleep]) rfl)
  clear hq hiq hb3 S1
  go_wp2_with (refine wpList_load_blk rfl 33 (.tmp 3) rfl w1.heap.size 0 rfl 33 #[.int .i64 p.page, .int .i64 p.cap, .int .i64 p.limit, .int .i64 p.low, .int .i64 p.high, .slice (some ⟨bp, 0, none⟩) p.weights.length 4, .int .i64 p.down, .int .i64 p.sleep] #[.int .i64 p.page, .int .i64 p.cap, .int .i64 p.limit, .int .i64 p.low, .int .i64 p.high, .slice (some ⟨bp, 0, none⟩) p.weights.length 4, .int .i64 p.down, .int .i64 p.sleep] (S3.out.st.blk _ _ _ (.tail _ (.head _))) rfl _ Try.underlying33 rfl szPol ?_)
  (with_reducible refine (i_BoxNew p (some ⟨bp, 0, none⟩) 4 _ ?_ HL.out (good_ok HP.out)).mono ?_)
  · exact S3.out.rd _ _ (.tail _ (.head _))
  rintro e w4 ⟨B1, d1, B2, d2, rfl, o1, o2, hb4⟩
  have S4 := Lib.hid ((((S3.out.next hb4).add o1.ints).add o2.ints).alloc (n := w4.heap.size) (t := 36) (cs := #[.int .i64 p.page, .int .i64 p.cap, .int .i64 p.limit, .int .i64 p.low, .int .i64 p.high, .slice B1 p.weights.length d1, .int .i64 p.down, .int .i64 p.sleep, .int .i64 p.page, .int .i64 p.cap, .int .i64 p.limit, .int .i64 p.low, .int .i64 p.high, .slice B2 p.weights.length d2, .int .i64 p.down, .int .i64 p.sleep, .bool false]) rfl)
  clear hb4 o1 o2 S3
  as_aux_lemma =>
    go_wp2_with (first
      | (refine wpList_load_blk rfl 36 (.tmp 5) rfl w4.heap.size 0 rfl 36 #[.int .i64 p.page, .int .i64 p.cap, .int .i64 p.limit, .int .i64 p.low, .int .i64 p.high, .slice B1 p.weights.length d1, .int .i64 p.down, .int .i64 p.sleep, .int .i64 p.page, .int .i64 p.cap, .int .i64 p.limit, .int .i64 p.low, .int .i64 p.high, .slice B2 p.weights.length d2, .int .i64 p.down, .int .i64 p.sleep, .bool false] #[.int .i64 p.page, .int .i64 p.cap, .int .i64 p.limit, .int .i64 p.low, .int .i64 p.high, .slice B1 p.weights.length d1, .int .i64 p.down, .int .i64 p.sleep, .int .i64 p.page, .int .i64 p.cap, .int .i64 p.limit, .int .i64 p.low, .int .i64 p.high, .slice B2 p.weights.length d2, .int .i64 p.down, .int .i64 p.sleep, .bool false] (S4.out.st.blk _ _ _ (.head _)) rfl _ Try.underlying36 rfl szBox ?_)
      | (refine wpList_load_blk rfl 33 (.tmp 4) rfl w3.heap.size 0 rfl 33 #[.int .i64 q.page, .int .i64 q.cap, .int .i64 q.limit, .int .i64 q.low, .int .i64 q.high, .slice (some ⟨bq, 0, none⟩) q.weights.length 4, .int .i64 q.down, .int .i64 q.sleep] #[.int .i64 q.page, .int .i64 q.cap, .int .i64 q.limit, .int .i64 q.low, .int .i64 q.high, .slice (some ⟨bq, 0, none⟩) q.weights.length 4, .int .i64 q.down, .int .i64 q.sleep] (S4.out.st.blk _ _ _ (.tail _ (.head _))) rfl _ Try.underlying33 rfl szPol ?_))
    (with_reducible refine (i_BoxAsk p p q B1 B2 (some ⟨bq, 0, none⟩) d1 d2 4 false _ ?_ HL.out ?_ HL.out ?_ HL2.out (good_ok HQ.out)).mono ?_)
    · exact S4.out.rd _ _ (.tail _ (.head _))
    · exact S4.out.rd _ _ (.head _)
    · exact S4.out.rd _ _ (.tail _ (.tail _ (.head _)))
    rintro e w5 ⟨C1, e1, C2, e2, rfl, o1, o2, hb5⟩
    have S5 := Lib.hid ((((S4.out.next hb5).add o1.ints).add o2.ints).alloc (n := w5.heap.size) (t := 36) (cs := #[.int .i64 p.page, .int .i64 p.cap, .int .i64 p.limit, .int .i64 p.low, .int .i64 p.high, .slice C1 p.weights.length e1, .int .i64 p.down, .int .i64 p.sleep, .int .i64 q.page, .int .i64 q.cap, .int .i64 q.limit, .int .i64 q.low, .int .i64 q.high, .slice C2 q.weights.length e2, .int .i64 q.down, .int .i64 q.sleep, .bool true]) rfl)
    clear hb5 o1 o2 S4
    as_aux_lemma =>
      go_wp2_with (refine wpList_load_blk rfl 36 (.tmp 7) rfl w5.heap.size 0 rfl 36 #[.int .i64 p.page, .int .i64 p.cap, .int .i64 p.limit, .int .i64 p.low, .int .i64 p.high, .slice C1 p.weights.length e1, .int .i64 p.down, .int .i64 p.sleep, .int .i64 q.page, .int .i64 q.cap, .int .i64 q.limit, .int .i64 q.low, .int .i64 q.high, .slice C2 q.weights.length e2, .int .i64 q.down, .int .i64 q.sleep, .bool true] #[.int .i64 p.page, .int .i64 p.cap, .int .i64 p.limit, .int .i64 p.low, .int .i64 p.high, .slice C1 p.weights.length e1, .int .i64 p.down, .int .i64 p.sleep, .int .i64 q.page, .int .i64 q.cap, .int .i64 q.limit, .int .i64 q.low, .int .i64 q.high, .slice C2 q.weights.length e2, .int .i64 q.down, .int .i64 q.sleep, .bool true] (S5.out.st.blk _ _ _ (.head _)) rfl _ Try.underlying36 rfl szBox ?_)
      (with_reducible refine (i_BoxStep_early p q C1 C2 e1 e2 true _ ?_ HL.out ?_ HL2.out).mono ?_)
      · exact S5.out.rd _ _ (.tail _ (.head _))
      · exact S5.out.rd _ _ (.head _)
      rintro e w6 ⟨D1, f1, D2, f2, rfl, o1, o2, hb6⟩
      have S6 := Lib.hid ((((S5.out.next hb6).add o1.ints).add o2.ints).alloc (n := w6.heap.size) (t := 36) (cs := #[.int .i64 p.page, .int .i64 p.cap, .int .i64 p.limit, .int .i64 p.low, .int .i64 p.high, .slice D1 p.weights.length f1, .int .i64 p.down, .int .i64 p.sleep, .int .i64 q.page, .int .i64 q.cap, .int .i64 q.limit, .int .i64 q.low, .int .i64 q.high, .slice D2 q.weights.length f2, .int .i64 q.down, .int .i64 q.sleep, .bool true]) rfl)
      clear hb6 o1 o2 S5
      go_wp2_with (refine wpList_load_blk rfl 36 (.tmp 9) rfl w6.heap.size 0 rfl 36 #[.int .i64 p.page, .int .i64 p.cap, .int .i64 p.limit, .int .i64 p.low, .int .i64 p.high, .slice D1 p.weights.length f1, .int .i64 p.down, .int .i64 p.sleep, .int .i64 q.page, .int .i64 q.cap, .int .i64 q.limit, .int .i64 q.low, .int .i64 q.high, .slice D2 q.weights.length f2, .int .i64 q.down, .int .i64 q.sleep, .bool true] #[.int .i64 p.page, .int .i64 p.cap, .int .i64 p.limit, .int .i64 p.low, .int .i64 p.high, .slice D1 p.weights.length f1, .int .i64 p.down, .int .i64 p.sleep, .int .i64 q.page, .int .i64 q.cap, .int .i64 q.limit, .int .i64 q.low, .int .i64 q.high, .slice D2 q.weights.length f2, .int .i64 q.down, .int .i64 q.sleep, .bool true] (S6.out.st.blk _ _ _ (.head _)) rfl _ Try.underlying36 rfl szBox ?_)
      (with_reducible refine (i_BoxStep_done p q D1 D2 f1 f2 _ ?_ HL.out ?_ HL2.out).mono ?_)
      · exact S6.out.rd _ _ (.tail _ (.head _))
      · exact S6.out.rd _ _ (.head _)
      rintro e w7 ⟨E1, g1, E2, g2, rfl, o1, o2, hb7⟩
      have S7 := Lib.hid ((((S6.out.next hb7).add o1.ints).add o2.ints).alloc (n := w7.heap.size) (t := 36) (cs := #[.int .i64 q.page, .int .i64 q.cap, .int .i64 q.limit, .int .i64 q.low, .int .i64 q.high, .slice E1 q.weights.length g1, .int .i64 q.down, .int .i64 q.sleep, .int .i64 q.page, .int .i64 q.cap, .int .i64 q.limit, .int .i64 q.low, .int .i64 q.high, .slice E2 q.weights.length g2, .int .i64 q.down, .int .i64 q.sleep, .bool false]) rfl)
      clear hb7 o1 o2 S6
      as_aux_lemma =>
        go_wp2_with (refine wpList_load_blk rfl 36 (.tmp 11) rfl w7.heap.size 0 rfl 36 #[.int .i64 q.page, .int .i64 q.cap, .int .i64 q.limit, .int .i64 q.low, .int .i64 q.high, .slice E1 q.weights.length g1, .int .i64 q.down, .int .i64 q.sleep, .int .i64 q.page, .int .i64 q.cap, .int .i64 q.limit, .int .i64 q.low, .int .i64 q.high, .slice E2 q.weights.length g2, .int .i64 q.down, .int .i64 q.sleep, .bool false] #[.int .i64 q.page, .int .i64 q.cap, .int .i64 q.limit, .int .i64 q.low, .int .i64 q.high, .slice E1 q.weights.length g1, .int .i64 q.down, .int .i64 q.sleep, .int .i64 q.page, .int .i64 q.cap, .int .i64 q.limit, .int .i64 q.low, .int .i64 q.high, .slice E2 q.weights.length g2, .int .i64 q.down, .int .i64 q.sleep, .bool false] (S7.out.st.blk _ _ _ (.head _)) rfl _ Try.underlying36 rfl szBox ?_)
        (with_reducible refine (i_BoxStep_none q q E1 E2 g1 g2 _ ?_ HL2.out ?_ HL2.out).mono ?_)
        · exact S7.out.rd _ _ (.tail _ (.head _))
        · exact S7.out.rd _ _ (.head _)
        rintro e w8 ⟨F1, h1, F2, h2, rfl, o1, o2, hb8⟩
        have S8 := Lib.hid (S7.out.next hb8)
        clear hb8 o1 o2 S7
        have k1 := S8.out.st.lt (.tail _ (.tail _ (.tail _ (.tail _ (.tail _ (.head _))))))
        have k3 := S8.out.st.lt (.tail _ (.tail _ (.tail _ (.tail _ (.head _)))))
        have k5 := S8.out.st.lt (.tail _ (.tail _ (.head _)))
        have k6 := S8.out.st.lt (.tail _ (.head _))
        have k7 := S8.out.st.lt (.head _)
        have K := S8.out.st.blk _ _ _ (.tail _ (.head _))
        have K2 := S8.out.st.blk _ _ _ (.tail _ (.tail _ (.tail _ (.tail _ (.tail _ (.head _))))))
        have qc0 : World.cell? w8 ⟨w6.heap.size, 0, none⟩ = some (.int .i64 p.page) := Blk.cell K 0
        have qc1 : World.cell? w8 ⟨w6.heap.size, 1, none⟩ = some (.int .i64 p.cap) := Blk.cell K 1
        have qc2 : World.cell? w8 ⟨w6.heap.size, 2, none⟩ = some (.int .i64 p.limit) := Blk.cell K 2
        have qc3 : World.cell? w8 ⟨w6.heap.size, 3, none⟩ = some (.int .i64 p.low) := Blk.cell K 3
        have qc4 : World.cell? w8 ⟨w6.heap.size, 4, none⟩ = some (.int .i64 p.high) := Blk.cell K 4
        have qc5 : World.cell? w8 ⟨w6.heap.size, 5, none⟩ = some (.slice D1 p.weights.length f1) := Blk.cell K 5
        have qc6 : World.cell? w8 ⟨w6.heap.size, 6, none⟩ = some (.int .i64 p.down) := Blk.cell K 6
        have qc7 : World.cell? w8 ⟨w6.heap.size, 7, none⟩ = some (.int .i64 p.sleep) := Blk.cell K 7
        have rc0 : World.cell? w8 ⟨w1.heap.size, 0, none⟩ = some (.int .i64 p.page) := Blk.cell K2 0
        have rc1 : World.cell? w8 ⟨w1.heap.size, 1, none⟩ = some (.int .i64 p.cap) := Blk.cell K2 1
        have rc2 : World.cell? w8 ⟨w1.heap.size, 2, none⟩ = some (.int .i64 p.limit) := Blk.cell K2 2
        have rc3 : World.cell? w8 ⟨w1.heap.size, 3, none⟩ = some (.int .i64 p.low) := Blk.cell K2 3
        have rc4 : World.cell? w8 ⟨w1.heap.size, 4, none⟩ = some (.int .i64 p.high) := Blk.cell K2 4
        have rc5 : World.cell? w8 ⟨w1.heap.size, 5, none⟩ = some (.slice (some ⟨bp, 0, none⟩) p.weights.length 4) := Blk.cell K2 5
        have rc6 : World.cell? w8 ⟨w1.heap.size, 6, none⟩ = some (.int .i64 p.down) := Blk.cell K2 6
        have rc7 : World.cell? w8 ⟨w1.heap.size, 7, none⟩ = some (.int .i64 p.sleep) := Blk.cell K2 7
        clear K K2
        go_wp2_with fail
        (with_reducible refine (l_samePolicy_eq p D1 (some ⟨bp, 0, none⟩) f1 4 HL.out _ ?_ ?_).mono ?_)
        · exact (S8.out.other _).rd _ _ (.tail _ (.tail _ (.tail _ (.head _))))
        · exact (S8.out.other _).rd _ _ (.tail _ (.tail _ (.tail _ (.tail _ (.tail _ (.tail _ (.tail _ (.tail _ (.tail _ (.head _))))))))))
        rintro e w9 ⟨rfl, hb9⟩
        have S9 := Lib.hid ((S8.out.other _).next hb9)
        clear qc0 qc1 qc2 qc3 qc4 qc5 qc6 qc7
        clear rc0 rc1 rc2 rc3 rc4 rc5 rc6 rc7
        clear hb9 S8
        have K := S9.out.st.blk _ _ _ (.head _)
        have K2 := S9.out.st.blk _ _ _ (.tail _ (.tail _ (.tail _ (.tail _ (.head _)))))
        have K3 := S9.out.st.blk _ _ _ (.tail _ (.tail _ (.head _)))
        have qc0 : World.cell? w9 ⟨w7.heap.size, 0, none⟩ = some (.int .i64 q.page) := Blk.cell K 0
        have qc1 : World.cell? w9 ⟨w7.heap.size, 1, none⟩ = some (.int .i64 q.cap) := Blk.cell K 1
        have qc2 : World.cell? w9 ⟨w7.heap.size, 2, none⟩ = some (.int .i64 q.limit) := Blk.cell K 2
        have qc3 : World.cell? w9 ⟨w7.heap.size, 3, none⟩ = some (.int .i64 q.low) := Blk.cell K 3
        have qc4 : World.cell? w9 ⟨w7.heap.size, 4, none⟩ = some (.int .i64 q.high) := Blk.cell K 4
        have qc5 : World.cell? w9 ⟨w7.heap.size, 5, none⟩ = some (.slice E1 q.weights.length g1) := Blk.cell K 5
        have qc6 : World.cell? w9 ⟨w7.heap.size, 6, none⟩ = some (.int .i64 q.down) := Blk.cell K 6
        have qc7 : World.cell? w9 ⟨w7.heap.size, 7, none⟩ = some (.int .i64 q.sleep) := Blk.cell K 7
        have rc0 : World.cell? w9 ⟨w3.heap.size, 0, none⟩ = some (.int .i64 q.page) := Blk.cell K2 0
        have rc1 : World.cell? w9 ⟨w3.heap.size, 1, none⟩ = some (.int .i64 q.cap) := Blk.cell K2 1
        have rc2 : World.cell? w9 ⟨w3.heap.size, 2, none⟩ = some (.int .i64 q.limit) := Blk.cell K2 2
        have rc3 : World.cell? w9 ⟨w3.heap.size, 3, none⟩ = some (.int .i64 q.low) := Blk.cell K2 3
        have rc4 : World.cell? w9 ⟨w3.heap.size, 4, none⟩ = some (.int .i64 q.high) := Blk.cell K2 4
        have rc5 : World.cell? w9 ⟨w3.heap.size, 5, none⟩ = some (.slice (some ⟨bq, 0, none⟩) q.weights.length 4) := Blk.cell K2 5
        have rc6 : World.cell? w9 ⟨w3.heap.size, 6, none⟩ = some (.int .i64 q.down) := Blk.cell K2 6
        have rc7 : World.cell? w9 ⟨w3.heap.size, 7, none⟩ = some (.int .i64 q.sleep) := Blk.cell K2 7
        clear K K2 K3
        go_wp2_with fail
        (with_reducible refine (l_samePolicy_eq q E1 (some ⟨bq, 0, none⟩) g1 4 HL2.out _ ?_ ?_).mono ?_)
        · exact S9.out.rd _ _ (.tail _ (.head _))
        · exact S9.out.rd _ _ (.tail _ (.tail _ (.tail _ (.tail _ (.tail _ (.tail _ (.tail _ (.tail _ (.head _)))))))))
        rintro e w10 ⟨rfl, hb10⟩
        have S10 := Lib.hid (S9.out.next hb10)
        clear qc0 qc1 qc2 qc3 qc4 qc5 qc6 qc7
        clear rc0 rc1 rc2 rc3 rc4 rc5 rc6 rc7
        clear hb10 S9
        have q1 : w10.cell? ⟨w5.heap.size, 16, none⟩ = some (.bool true) := (S10.out.st.blk _ _ _ (.tail _ (.tail _ (.head _)))).cell 16
        have q2 : w10.cell? ⟨w7.heap.size, 16, none⟩ = some (.bool false) := (S10.out.st.blk _ _ _ (.head _)).cell 16
        go_wp2
        go_ret
        exact ⟨rfl, S10.out.st.bel⟩

set_option maxHeartbeats 400000 in
theorem law_PolicyWaits (v : Value) (w : World) (r : RdBytes w v) :
    Calls Try.prog 5 #[v] w fun e w' => e = .returned (.bool true) ∧ Below w.heap.size w w' := by
  obtain ⟨A, n, c, rfl, hb⟩ := r
  by_cases hn : n ≤ 1048576
  · exact law_PolicyWaits_yes A n c hn w hb
  · have hdec : decide (1048576 < (n : Int)) = true := by simp; omega
    clear hb
    go_enter Try.func5, Try.ntmps5
    go_wp2_with fail
    (with_reducible refine (l_big _ _ _ _).mono ?_)
    rintro e w0 ⟨he, rfl⟩
    rw [hdec] at he
    subst he
    go_wp2
    go_ret
    exact ⟨rfl, Below.refl _ _⟩
end Go.Proofs.Ytkgliadgedamiaa
