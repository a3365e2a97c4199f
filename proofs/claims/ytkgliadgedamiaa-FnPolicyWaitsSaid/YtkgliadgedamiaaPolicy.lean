/-
  Contracts of the functions on policies and their boxes. The walks of the laws FnPolicyWaits and FnBadPolicy.
-/
import Derived.Test.YtkgliadgedamiaaPolicyDraw
import Derived.Test.YtkgliadgedamiaaAppend
namespace Go.Proofs.Ytkgliadgedamiaa
open Go.RowKit
set_option maxRecDepth 100000

def polOkB (p : Pol) : Bool := (p.page == 0 || p.page == 1) && inB p.cap 0 100000 && inB p.limit 3 1000 && drainOk p.low p.high && ((p.weights.length : Int) == 4) && sharesOk (p.weights.map dup) && ruleOk p.down p.sleep

set_option maxHeartbeats 1000000 in
theorem i_PolicyOk (p : Pol) (A : Option Addr) (c : Nat) (w : World) (hr : Ints w w.heap.size A p.weights) (hl : p.weights.length ≤ 1000000000) :
    Calls Try.prog 50 #[.agg #[.int .i64 p.page, .int .i64 p.cap, .int .i64 p.limit, .int .i64 p.low, .int .i64 p.high, .slice A p.weights.length c, .int .i64 p.down, .int .i64 p.sleep]] w
      fun e w' => e = .returned (.bool (polOkB p)) ∧ Below w.heap.size w w' := by
  obtain ⟨pg, cp, li, lo, hi, ws, dn, sl⟩ := p
  dsimp only at hr hl ⊢
  have HR := Lib.hid hr; clear hr
  go_enter Try.func50, Try.ntmps50
  go_wp2_with fail
  with_reducible refine (i_SharesNew A c ws _ ?_ hl).mono ?_
  · exact HR.out.to (by go_grown) (by simp)
  rintro e w1 ⟨v, rfl, hb1, hh⟩
  clear hh
  simp only [World.size_alloc] at hb1
  obtain ⟨hc, hf⟩ := bcell hb1
  have hz : w.heap.size < w1.heap.size := by have := hb1.size; simp only [World.size_alloc] at this; omega
  go_wp2_with (first
    | (go_at_call 99; refine (i_between _ _ _ _).mono ?_; rintro e w' ⟨rfl, rfl⟩)
    | (go_at_call 100; refine (i_DrainOk _ _ _ _).mono ?_; rintro e w2 ⟨rfl, hb2⟩; obtain ⟨hc2, hf2⟩ := bcell hb2; have hz2 : w.heap.size < w2.heap.size := by have := hb2.size; omega)
    | (go_at_call 101; refine (i_PowerRuleOk _ _ _).mono ?_; rintro e w3 ⟨rfl, hb3⟩))
  all_goals go_ret
  all_goals
    clear hc hf
    have hb0 : Below w.heap.size w w1 := ((Below.refl _ _).alloc (Nat.le_refl _) _).trans (hb1.mono (by omega))
    refine ⟨?_, ?_⟩
  all_goals first
    | exact hb0
    | exact hb0.trans (hb2.mono (by omega))
    | exact (hb0.trans (hb2.mono (by omega))).trans (hb3.mono (by omega))
    | (congr 2; simp [polOkB, *]; done)

theorem Try.info3 : (Try.prog.info? 3).map (fun i => (i.zero, i.size, i.bytes)) = some (some (.int .i64 0), 1, 8) := by kernel_rfl
theorem ints_one (l : List Int) : ∀ u ∈ ints l, u.oneCell' = true := by
  intro u hu
  obtain ⟨x, _, rfl⟩ := List.mem_map.1 hu
  rfl
/-- A copy of a policy: its value, its weights in a row of the call's own. -/
def CopiedPol (p : Pol) (w : World) (e : Ending) (w' : World) : Prop := ∃ A c, e = .returned (.agg #[.int .i64 p.page, .int .i64 p.cap, .int .i64 p.limit, .int .i64 p.low, .int .i64 p.high, .slice A p.weights.length c, .int .i64 p.down, .int .i64 p.sleep]) ∧
  w'.ownsRow w.heap.size 3 1 (.slice A p.weights.length c) p.weights.length (ints p.weights) ∧ Below w.heap.size w w'

set_option maxHeartbeats 1000000 in
theorem i_copyPolicy (p : Pol) (A : Option Addr) (c : Nat) (w : World) (hr : Ints w w.heap.size A p.weights) (hl : p.weights.length ≤ 1000000000) :
    Calls Try.prog 70 #[.agg #[.int .i64 p.page, .int .i64 p.cap, .int .i64 p.limit, .int .i64 p.low, .int .i64 p.high, .slice A p.weights.length c, .int .i64 p.down, .int .i64 p.sleep]] w (CopiedPol p w) := by
  obtain ⟨pg, cp, li, lo, hi, ws, dn, sl⟩ := p
  dsimp only at hr hl ⊢
  obtain ⟨i0, hi0, hz0, hz1, hz2⟩ := info_parts Try.info3
  have HR := Lib.hid hr; clear hr
  go_enter Try.func70, Try.ntmps70
  go_wp2_with (at_builtin; go_loud (refine wpList_append_any _ rfl (.tmp 3) (.tmp 5) 29 rfl (w.heap.size + 2) 3 i0 (.int .i64 0) 1 8 Try.underlying29 hi0 hz0 hz1 hz2 rfl (by decide) _ 0 [] rfl ?own w.heap.size A ws.length c (ints ws) rfl ?src (ints_one ws) ?c3 ?c4 ?c5 ?_))
  case own => exact own_made' (by simp) (by simp)
  case src => exact HR.out.below (by go_grown) (Nat.le_refl _)
  case c3 => unfold maxLen; omega
  case c4 => omega
  case c5 => simp
  intro v1 w1 hown hg hat
  have hb1 := below_own (B := w.heap.size + 2) hg rfl (by simp) (by simp)
  have hz := hb1.size
  simp only [World.size_alloc] at hz
  obtain ⟨A', c', hv⟩ := own_form hown

  subst hv

  have HO := Lib.hid hown
  clear hown hg hat
  have HB := Lib.hid hb1
  clear hb1
  have K0 := Blk.below (((Blk.new w 33 #[.int .i64 (Pol.mk pg cp li lo hi ws dn sl).page, .int .i64 (Pol.mk pg cp li lo hi ws dn sl).cap, .int .i64 (Pol.mk pg cp li lo hi ws dn sl).limit, .int .i64 (Pol.mk pg cp li lo hi ws dn sl).low, .int .i64 (Pol.mk pg cp li lo hi ws dn sl).high, .slice A ws.length c, .int .i64 (Pol.mk pg cp li lo hi ws dn sl).down, .int .i64 (Pol.mk pg cp li lo hi ws dn sl).sleep]).alloc _).alloc _) HB.out (by omega)
  have K1 := Blk.below ((Blk.new' (n := w.heap.size + 1) (by simp)).alloc _) HB.out (by omega)
  have qc0 : World.cell? w1 ⟨w.heap.size, 0, none⟩ = some (.int .i64 (Pol.mk pg cp li lo hi ws dn sl).page) := Blk.cell K0 0
  have qf0 : World.frozen? w1 ⟨w.heap.size, 0, none⟩ = false := Blk.frozen K0 0
  have qc1 : World.cell? w1 ⟨w.heap.size, 1, none⟩ = some (.int .i64 (Pol.mk pg cp li lo hi ws dn sl).cap) := Blk.cell K0 1
  have qf1 : World.frozen? w1 ⟨w.heap.size, 1, none⟩ = false := Blk.frozen K0 1
  have qc2 : World.cell? w1 ⟨w.heap.size, 2, none⟩ = some (.int .i64 (Pol.mk pg cp li lo hi ws dn sl).limit) := Blk.cell K0 2
  have qf2 : World.frozen? w1 ⟨w.heap.size, 2, none⟩ = false := Blk.frozen K0 2
  have qc3 : World.cell? w1 ⟨w.heap.size, 3, none⟩ = some (.int .i64 (Pol.mk pg cp li lo hi ws dn sl).low) := Blk.cell K0 3
  have qf3 : World.frozen? w1 ⟨w.heap.size, 3, none⟩ = false := Blk.frozen K0 3
  have qc4 : World.cell? w1 ⟨w.heap.size, 4, none⟩ = some (.int .i64 (Pol.mk pg cp li lo hi ws dn sl).high) := Blk.cell K0 4
  have qf4 : World.frozen? w1 ⟨w.heap.size, 4, none⟩ = false := Blk.frozen K0 4
  have qc5 : World.cell? w1 ⟨w.heap.size, 5, none⟩ = some (.slice A ws.length c) := Blk.cell K0 5
  have qf5 : World.frozen? w1 ⟨w.heap.size, 5, none⟩ = false := Blk.frozen K0 5
  have qc6 : World.cell? w1 ⟨w.heap.size, 6, none⟩ = some (.int .i64 (Pol.mk pg cp li lo hi ws dn sl).down) := Blk.cell K0 6
  have qf6 : World.frozen? w1 ⟨w.heap.size, 6, none⟩ = false := Blk.frozen K0 6
  have qc7 : World.cell? w1 ⟨w.heap.size, 7, none⟩ = some (.int .i64 (Pol.mk pg cp li lo hi ws dn sl).sleep) := Blk.cell K0 7
  have qf7 : World.frozen? w1 ⟨w.heap.size, 7, none⟩ = false := Blk.frozen K0 7
  have rc0 : World.cell? w1 ⟨w.heap.size + 1, 0, none⟩ = some (.int .i64 0) := Blk.cell K1 0
  have rf0 : World.frozen? w1 ⟨w.heap.size + 1, 0, none⟩ = false := Blk.frozen K1 0
  have rc1 : World.cell? w1 ⟨w.heap.size + 1, 1, none⟩ = some (.int .i64 0) := Blk.cell K1 1
  have rf1 : World.frozen? w1 ⟨w.heap.size + 1, 1, none⟩ = false := Blk.frozen K1 1
  have rc2 : World.cell? w1 ⟨w.heap.size + 1, 2, none⟩ = some (.int .i64 0) := Blk.cell K1 2
  have rf2 : World.frozen? w1 ⟨w.heap.size + 1, 2, none⟩ = false := Blk.frozen K1 2
  have rc3 : World.cell? w1 ⟨w.heap.size + 1, 3, none⟩ = some (.int .i64 0) := Blk.cell K1 3
  have rf3 : World.frozen? w1 ⟨w.heap.size + 1, 3, none⟩ = false := Blk.frozen K1 3
  have rc4 : World.cell? w1 ⟨w.heap.size + 1, 4, none⟩ = some (.int .i64 0) := Blk.cell K1 4
  have rf4 : World.frozen? w1 ⟨w.heap.size + 1, 4, none⟩ = false := Blk.frozen K1 4
  have rc5 : World.cell? w1 ⟨w.heap.size + 1, 5, none⟩ = some (.slice none 0 0) := Blk.cell K1 5
  have rf5 : World.frozen? w1 ⟨w.heap.size + 1, 5, none⟩ = false := Blk.frozen K1 5
  have rc6 : World.cell? w1 ⟨w.heap.size + 1, 6, none⟩ = some (.int .i64 0) := Blk.cell K1 6
  have rf6 : World.frozen? w1 ⟨w.heap.size + 1, 6, none⟩ = false := Blk.frozen K1 6
  have rc7 : World.cell? w1 ⟨w.heap.size + 1, 7, none⟩ = some (.int .i64 0) := Blk.cell K1 7
  have rf7 : World.frozen? w1 ⟨w.heap.size + 1, 7, none⟩ = false := Blk.frozen K1 7
  clear K0 K1
  go_wp2
  refine bodyPost_ret (v := .agg #[.int .i64 (Pol.mk pg cp li lo hi ws dn sl).page, .int .i64 (Pol.mk pg cp li lo hi ws dn sl).cap, .int .i64 (Pol.mk pg cp li lo hi ws dn sl).limit, .int .i64 (Pol.mk pg cp li lo hi ws dn sl).low, .int .i64 (Pol.mk pg cp li lo hi ws dn sl).high, .slice A' ws.length c', .int .i64 (Pol.mk pg cp li lo hi ws dn sl).down, .int .i64 (Pol.mk pg cp li lo hi ws dn sl).sleep]) (by simp [results, Try.results70, go_sem, *]) rfl ?_
  have hb0 : Below w.heap.size w w1 := (Below.trans (by go_grown) (HB.out.mono (by omega)))
  have k : Kept w.heap.size (w.heap.size + 2) 3 1 ws.length (.slice A' ws.length c') (ints ws) w w1 := ⟨HO.out, hb0⟩
  have k := (((((((((k.set_ (p := ⟨w.heap.size, 5, none⟩) (by simp) (by simp) (.slice A' ws.length c')).set_ (p := ⟨w.heap.size + 1, 0, none⟩) (by simp) (by simp) (.int .i64 pg)).set_ (p := ⟨w.heap.size + 1, 1, none⟩) (by simp) (by simp) (.int .i64 cp)).set_ (p := ⟨w.heap.size + 1, 2, none⟩) (by simp) (by simp) (.int .i64 li)).set_ (p := ⟨w.heap.size + 1, 3, none⟩) (by simp) (by simp) (.int .i64 lo)).set_ (p := ⟨w.heap.size + 1, 4, none⟩) (by simp) (by simp) (.int .i64 hi)).set_ (p := ⟨w.heap.size + 1, 5, none⟩) (by simp) (by simp) (.slice A' ws.length c')).set_ (p := ⟨w.heap.size + 1, 6, none⟩) (by simp) (by simp) (.int .i64 dn)).set_ (p := ⟨w.heap.size + 1, 7, none⟩) (by simp) (by simp) (.int .i64 sl))
  exact ⟨A', c', rfl, own_base k.own (by omega), k.below⟩
end Go.Proofs.Ytkgliadgedamiaa
