/-
  Contracts of the reference's default policy and of the draw of a policy. Nothing here is a claim.
-/
import Derived.Test.YtkgliadgedamiaaShares
import Derived.Deep.RegionHeld3
namespace Go.Proofs.Ytkgliadgedamiaa
open Go.RowKit
set_option maxRecDepth 100000

/-- A policy as plain data. -/
structure Pol where
  page : Int
  cap : Int
  limit : Int
  low : Int
  high : Int
  weights : List Int
  down : Int
  sleep : Int
def Pol.cells (p : Pol) (A : Option Addr) (c : Nat) : Array Value :=
  #[.int .i64 p.page, .int .i64 p.cap, .int .i64 p.limit, .int .i64 p.low, .int .i64 p.high, .slice A p.weights.length c, .int .i64 p.down, .int .i64 p.sleep]
attribute [local go_sem] Pol.cells
def dPol : Pol := ⟨0, 60, 8, 2, 6, [1, 1, 1, 1], 20, 400⟩

set_option maxHeartbeats 400000 in
theorem s_DefaultPolicy (w : World) :
    Calls Try.prog 48 #[] w fun e w' => e = .returned (.agg #[.int .i64 0, .int .i64 60, .int .i64 8, .int .i64 2, .int .i64 6, .slice (some ⟨w.heap.size + 1, 0, none⟩) 4 4, .int .i64 20, .int .i64 400]) ∧ Below w.heap.size w w' ∧
      Blk w' (w.heap.size + 1) 3 #[.int .i64 1, .int .i64 1, .int .i64 1, .int .i64 1] := by
  go_enter Try.func48, Try.ntmps48
  go_wp2
  refine bodyPost_ret (v := .agg #[.int .i64 0, .int .i64 60, .int .i64 8, .int .i64 2, .int .i64 6, .slice (some ⟨w.heap.size + 1, 0, none⟩) 4 4, .int .i64 20, .int .i64 400]) (by simp [results, Try.results48, go_sem]) rfl ⟨rfl, ?_, ?_⟩
  · exact ((Below.refl _ _).alloc (Nat.le_refl _) _).alloc (by simp) _
  · exact Blk.new' (by simp)

/-- The state of the draw of a policy: the cursor, the block of the policy, the block of its weights. -/
structure PS (w0 : World) (g r b bw : Nat) (cs ws : Array Value) (w : World) : Prop where
  cur : Cur w g
  res : Blk w r 33 #[.int .i64 0, .int .i64 0, .int .i64 0, .int .i64 0, .int .i64 0, .slice none 0 0, .int .i64 0, .int .i64 0]
  blk : Blk w b 33 cs
  wts : Blk w bw 3 ws
  fr : w0.grownBy w (some g)
  gr : g < r
  rb : r < b
  rw : r < bw
  bb : bw < b

section
variable {w0 w w1 : World} {g r b bw : Nat} {cs ws : Array Value}
theorem PS.draw (h : PS w0 g r b bw cs ws w) (hc : Cur w1 g) (hg : w.grownBy w1 (some g)) : PS w0 g r b bw cs ws w1 := by
  have hz := h.res
  have h1 := h.gr; have h2 := h.rb; have h3 := h.rw
  exact ⟨hc, hz.grown hg (by intro e; injection e; omega), h.blk.grown hg (by intro e; injection e; omega), h.wts.grown hg (by intro e; injection e; omega), grownBy_trans h.fr hg, h1, h2, h3, h.bb⟩
theorem PS.alloc (h : PS w0 g r b bw cs ws w) (o : Obj) : PS w0 g r b bw cs ws (w.alloc o) := by
  have hz := h.res
  exact ⟨h.cur.alloc o, hz.alloc o, h.blk.alloc o, h.wts.alloc o, grownBy_alloc h.fr o, h.gr, h.rb, h.rw, h.bb⟩
theorem PS.setW (h : PS w0 g r b bw cs ws w) (hw : w0.heap.size ≤ bw) (i : Nat) (u : Value) : PS w0 g r b bw cs (ws.setIfInBounds i u) (w.setCell ⟨bw, i, none⟩ u) := by
  have hz := h.res
  have h1 := h.gr; have h2 := h.rb; have h3 := h.rw; have h4 := h.bb
  exact ⟨h.cur.setCell (p := ⟨bw, i, none⟩) (by show g < bw; omega) u, hz.far (p := ⟨bw, i, none⟩) (by show r ≠ bw; omega) u, h.blk.far (p := ⟨bw, i, none⟩) (by show b ≠ bw; omega) u, h.wts.set_ i u, grownBy_set h.fr (.inl hw) u, h1, h2, h3, h4⟩
theorem ones_get (k : Nat) (h : k < 4) : (#[Value.int .i64 1, .int .i64 1, .int .i64 1, .int .i64 1] : Array Value)[k]? = some (.int .i64 1) := by
  match k, h with
  | 0, _ => rfl
  | 1, _ => rfl
  | 2, _ => rfl
  | 3, _ => rfl
theorem PS.drew (h : PS w0 g r b bw cs ws w) : PS w0 g r b bw cs ws w.drew := by
  have hz := h.res
  exact ⟨h.cur.drew, hz.drew, h.blk.drew, h.wts.drew, grownBy_drew h.fr, h.gr, h.rb, h.rw, h.bb⟩
theorem PS.set_ (h : PS w0 g r b bw cs ws w) (hw : w0.heap.size ≤ b) (i : Nat) (u : Value) : PS w0 g r b bw (cs.setIfInBounds i u) ws (w.setCell ⟨b, i, none⟩ u) := by
  have hz := h.res
  have h1 := h.gr; have h2 := h.rb; have h3 := h.rw; have h4 := h.bb
  refine ⟨h.cur.setCell (p := ⟨b, i, none⟩) (by show g < b; omega) u, hz.far (p := ⟨b, i, none⟩) (by show r ≠ b; omega) u, h.blk.set_ i u, h.wts.far (p := ⟨b, i, none⟩) (by show bw ≠ b; omega) u, ?_, h1, h2, h3, h4⟩
  exact grownBy_set h.fr (.inl hw) u
theorem PS.start {o : Obj} {cs : Array Value} (hc : Cur w g) (hb : Below (w.heap.size + 1) (w.alloc (.cells #[.int .i64 0, .int .i64 0, .int .i64 0, .int .i64 0, .int .i64 0, .slice none 0 0, .int .i64 0, .int .i64 0] 33)) w1)
    (hw : Blk w1 (w.heap.size + 1 + 1) 3 ws) (ho : o = .cells cs 33) : PS w g w.heap.size w1.heap.size (w.heap.size + 1 + 1) cs ws (w1.alloc o) := by
  subst ho
  have h1 := hw.lt
  have h2 := hc.lt
  refine ⟨((hc.alloc _).below hb (by omega)).alloc _, ((Blk.new w _ _).below hb (by omega)).alloc _, Blk.new _ _ _, hw.alloc _, ?_, h2, by omega, by omega, by omega⟩
  exact grownBy_alloc (grownBy_below (grownBy_alloc (World.grownBy.refl w _) _) hb (by omega)) _
end

/-- What a drawn policy is. -/
def PolGood (p : Pol) : Prop := (p.page = 0 ∨ p.page = 1) ∧ (0 ≤ p.cap ∧ p.cap ≤ 200) ∧ (3 ≤ p.limit ∧ p.limit ≤ 8) ∧ (0 ≤ p.low ∧ p.low ≤ 2) ∧ (p.low < p.high ∧ p.high ≤ p.low + 4) ∧
  (p.weights.length = 4 ∧ ∀ x ∈ p.weights, 1 ≤ x ∧ x ≤ 4) ∧ (5 ≤ p.down ∧ p.down ≤ 24) ∧ (60 ≤ p.sleep ∧ p.sleep ≤ 119)
/-- A policy that was drawn: its value, its weights in new memory. -/
def DrawnPol (g : Nat) (w : World) (e : Ending) (w' : World) : Prop := ∃ (p : Pol) (bw : Nat), e = .returned (.agg #[.int .i64 p.page, .int .i64 p.cap, .int .i64 p.limit, .int .i64 p.low, .int .i64 p.high, .slice (some ⟨bw, 0, none⟩) p.weights.length 4, .int .i64 p.down, .int .i64 p.sleep]) ∧ PolGood p ∧
  Blk w' bw 3 (ints p.weights).toArray ∧ w.heap.size ≤ bw ∧ Cur w' g ∧ w.grownBy w' (some g)

/-- What is left of the state when the result is written. -/
structure PF (w0 : World) (g r b bw : Nat) (ws : Array Value) (w : World) : Prop where
  cur : Cur w g
  wts : Blk w bw 3 ws
  fr : w0.grownBy w (some g)
theorem PF.of {w0 w : World} {g r b bw : Nat} {cs ws : Array Value} (h : PS w0 g r b bw cs ws w) : PF w0 g r b bw ws w := ⟨h.cur, h.wts, h.fr⟩
theorem PF.set_ {w0 w : World} {g r b bw : Nat} {ws : Array Value} (h : PF w0 g r b bw ws w) (p : Addr) (h1 : w0.heap.size ≤ p.block) (h2 : g < p.block) (h3 : bw ≠ p.block) (u : Value) : PF w0 g r b bw ws (w.setCell p u) :=
  ⟨h.cur.setCell h2 u, h.wts.far h3 u, grownBy_set h.fr (.inl h1) u⟩
theorem PF.end_ {w0 w : World} {g r b k : Nat} {x y z lo hi wt dn sl : Int}
    (h : PF w0 g r b (w0.heap.size + 1 + 1) ((#[Value.int .i64 1, .int .i64 1, .int .i64 1, .int .i64 1] : Array Value).setIfInBounds k (.int .i64 (1 + wt))) w)
    (hx : 0 ≤ x) (hx' : x < 2) (hy : y ∈ [(0 : Int), 10, 60, 200]) (hz : 0 ≤ z) (hz' : z < 6) (hl : 0 ≤ lo) (hl' : lo < 3) (hh : 0 ≤ hi) (hh' : hi < 4) (hk : k < 4) (hw : 0 ≤ wt) (hw' : wt < 4)
    (hd : 0 ≤ dn) (hd' : dn < 20) (hs : 0 ≤ sl) (hs' : sl < 60) :
    DrawnPol g w0 (.returned (.agg #[.int .i64 x, .int .i64 y, .int .i64 (3 + z), .int .i64 lo, .int .i64 (lo + 1 + hi), .slice (some ⟨w0.heap.size + 1 + 1, 0, none⟩) 4 4, .int .i64 (5 + dn), .int .i64 (60 + sl)])) w := by
  have hy2 : 0 ≤ y ∧ y ≤ 200 := by simp at hy; omega
  have G : ∀ l : List Int, l.length = 4 → (∀ a ∈ l, 1 ≤ a ∧ a ≤ 4) → PolGood ⟨x, y, 3 + z, lo, lo + 1 + hi, l, 5 + dn, 60 + sl⟩ := fun l hl hw =>
    ⟨by show x = 0 ∨ x = 1; omega, hy2, by show 3 ≤ 3 + z ∧ 3 + z ≤ 8; omega, by show 0 ≤ lo ∧ lo ≤ 2; omega, by show lo < lo + 1 + hi ∧ lo + 1 + hi ≤ lo + 4; omega, ⟨hl, hw⟩, by show 5 ≤ 5 + dn ∧ 5 + dn ≤ 24; omega, by show 60 ≤ 60 + sl ∧ 60 + sl ≤ 119; omega⟩
  match k, hk, h with
  | 0, _, h => exact ⟨⟨x, y, 3 + z, lo, lo + 1 + hi, [1 + wt, 1, 1, 1], 5 + dn, 60 + sl⟩, _, rfl, G _ rfl (by simp; omega), h.wts, by omega, h.cur, h.fr⟩
  | 1, _, h => exact ⟨⟨x, y, 3 + z, lo, lo + 1 + hi, [1, 1 + wt, 1, 1], 5 + dn, 60 + sl⟩, _, rfl, G _ rfl (by simp; omega), h.wts, by omega, h.cur, h.fr⟩
  | 2, _, h => exact ⟨⟨x, y, 3 + z, lo, lo + 1 + hi, [1, 1, 1 + wt, 1], 5 + dn, 60 + sl⟩, _, rfl, G _ rfl (by simp; omega), h.wts, by omega, h.cur, h.fr⟩
  | 3, _, h => exact ⟨⟨x, y, 3 + z, lo, lo + 1 + hi, [1, 1, 1, 1 + wt], 5 + dn, 60 + sl⟩, _, rfl, G _ rfl (by simp; omega), h.wts, by omega, h.cur, h.fr⟩

set_option maxHeartbeats 1000000 in
theorem s_l34Policy (g : Nat) (w : World) (hc : Cur w g) :
    Calls Try.prog 68 #[.pointer (some ⟨g, 0, none⟩)] w (DrawnPol g w) := by
  have HC := Lib.hid hc; clear hc
  go_enter Try.func68, Try.ntmps68
  go_wp2_with fail
  refine (s_DefaultPolicy _).mono ?_
  rintro e w1 ⟨rfl, hb1, hw1⟩
  simp only [World.size_alloc] at hb1 hw1
  have S := Lib.hid (PS.start (cs := #[.int .i64 0, .int .i64 60, .int .i64 8, .int .i64 2, .int .i64 6, .slice (some ⟨w.heap.size + 1 + 1, 0, none⟩) 4 4, .int .i64 20, .int .i64 400]) HC.out hb1 hw1 rfl)
  clear hb1 hw1
  obtain ⟨hgr, hrb⟩ : g < w.heap.size ∧ w.heap.size < w1.heap.size := ⟨S.out.gr, S.out.rb⟩
  go_wp2_with fail
  (with_reducible refine (s_l01Below g _ (by omega) _ S.out.cur).mono ?_)
  rintro e w2 ⟨x, rfl, hx, hc2, hg2⟩
  have hs2 : w1.heap.size < w2.heap.size := by have := hg2.size; simp at this; omega
  have S2 := Lib.hid (S.out.draw hc2 hg2); clear hc2 hg2 S
  have q : w2.cell? ⟨w1.heap.size, 0, none⟩ = some (.int .i64 0) := S2.out.blk.cell 0
  have f : w2.frozen? ⟨w1.heap.size, 0, none⟩ = false := S2.out.blk.frozen 0
  go_wp2_with fail
  clear q f
  have S := Lib.hid ((S2.out.set_ (by omega) 0 (.int .i64 x)).alloc (.cells #[.int .i64 0, .int .i64 10, .int .i64 60, .int .i64 200] 3)); clear S2
  have hL := Blk.new' (w := w2.setCell ⟨w1.heap.size, 0, none⟩ (.int .i64 x)) (n := w2.heap.size) (t := 3) (cs := #[.int .i64 0, .int .i64 10, .int .i64 60, .int .i64 200]) (by simp [World.setCell])
  (with_reducible refine (s_l01PickInt g w2.heap.size [0, 10, 60, 200] #[.int .i64 0, .int .i64 10, .int .i64 60, .int .i64 200] 3 _ S.out.cur hL rfl (by omega) (by decide) (by decide) 4 4 (by decide)).mono ?_)
  rintro e w3 ⟨y, rfl, hy, hc2, hg2⟩
  have HY := Lib.hid hy; clear hy
  have S2 := Lib.hid (S.out.draw hc2 hg2); clear hc2 hg2 S
  have q : w3.cell? ⟨w1.heap.size, 1, none⟩ = some (.int .i64 60) := S2.out.blk.cell 1
  have f : w3.frozen? ⟨w1.heap.size, 1, none⟩ = false := S2.out.blk.frozen 1
  go_wp2_with fail
  clear q f
  have S := Lib.hid (S2.out.set_ (by omega) 1 (.int .i64 y)); clear S2
  (with_reducible refine (s_l01Below g _ (by omega) _ S.out.cur).mono ?_)
  rintro e w4 ⟨z, rfl, hz, hc2, hg2⟩
  have S2 := Lib.hid (S.out.draw hc2 hg2); clear hc2 hg2 S
  have q : w4.cell? ⟨w1.heap.size, 2, none⟩ = some (.int .i64 8) := S2.out.blk.cell 2
  have f : w4.frozen? ⟨w1.heap.size, 2, none⟩ = false := S2.out.blk.frozen 2
  go_wp2_with fail
  clear q f
  have S := Lib.hid (S2.out.set_ (by omega) 2 (.int .i64 (3 + z))); clear S2
  (with_reducible refine (s_l01Below g _ (by omega) _ S.out.cur).mono ?_)
  rintro e w5 ⟨lo, rfl, hlo, hc2, hg2⟩
  have S2 := Lib.hid (S.out.draw hc2 hg2); clear hc2 hg2 S
  have q : w5.cell? ⟨w1.heap.size, 3, none⟩ = some (.int .i64 2) := S2.out.blk.cell 3
  have f : w5.frozen? ⟨w1.heap.size, 3, none⟩ = false := S2.out.blk.frozen 3
  go_wp2_with fail
  clear q f
  have S := Lib.hid (S2.out.set_ (by omega) 3 (.int .i64 lo)); clear S2
  generalize w5.setCell ⟨w1.heap.size, 3, none⟩ (.int .i64 lo) = W at *
  have hlo1 : lo < 3 := hlo.2.2.2 (by omega)
  have hlo0 := hlo.1
  clear hlo
  have q3 : W.cell? ⟨w1.heap.size, 3, none⟩ = some (.int .i64 lo) := S.out.blk.cell 3
  have e1 : IntKind.i64.wrap (lo + 1) = lo + 1 := IntWalk.i64_in _ (by omega)
  go_region_held3 (fun w' => w'.cell? ⟨w1.heap.size, 3, none⟩ = some (.int .i64 lo))
    (first | go_keep | exact S2.out.blk.cell 3 | exact (S2.out.set_ (by omega) 4 _).blk.cell 3)
    (first | (go_at_call 79; refine (s_l01Below g 4 (by omega) _ S.out.drew.cur).mono ?_; rintro e w6 ⟨hi, rfl, hhi, hc2, hg2⟩; have S2 := Lib.hid (S.out.drew.draw hc2 hg2); clear hc2 hg2 S; have q : w6.cell? ⟨w1.heap.size, 4, none⟩ = some (.int .i64 6) := S2.out.blk.cell 4; have f : w6.frozen? ⟨w1.heap.size, 4, none⟩ = false := S2.out.blk.frozen 4; have hhi1 : hi < 4 := hhi.2.2.2 (by omega); have hhi0 := hhi.1; clear hhi; have e2 : IntKind.i64.wrap (lo + 1 + hi) = lo + 1 + hi := IntWalk.i64_in _ (by clear e1; omega)))
  clear q3 q f e1 e2
  rename_i hh
  clear hh
  have S := Lib.hid (S2.out.set_ (by omega) 4 (.int .i64 (lo + 1 + hi))); clear S2
  generalize w6.setCell ⟨w1.heap.size, 4, none⟩ (.int .i64 (lo + 1 + hi)) = W6 at *
  have q5 : W6.cell? ⟨w1.heap.size, 5, none⟩ = some (.slice (some ⟨w.heap.size + 1 + 1, 0, none⟩) 4 4) := S.out.blk.cell 5
  go_wp2_with fail
  go_region_held3 (fun w' => w'.cell? ⟨w1.heap.size, 5, none⟩ = some (.slice (some ⟨w.heap.size + 1 + 1, 0, none⟩) 4 4))
    (first | go_keep | exact S2.out.blk.cell 5 | exact S3.out.blk.cell 5 | exact (S3.out.setW (by omega) _ _).blk.cell 5)
    (first
      | (go_at_call 79; refine (s_l01Below g 4 (by omega) _ S.out.drew.cur).mono ?_; rintro e w7 ⟨ix, rfl, hix, hc2, hg2⟩; have S2 := Lib.hid (S.out.drew.draw hc2 hg2); clear hc2 hg2 S; have hix1 : ix < 4 := hix.2.2.2 (by omega); have hix0 := hix.1; clear hix; obtain ⟨k, rfl⟩ := Int.eq_ofNat_of_zero_le hix0)
      | (go_at_call 79; refine (s_l01Below g 4 (by omega) _ S2.out.cur).mono ?_; rintro e w8 ⟨wt, rfl, hwt, hc2, hg2⟩; have S3 := Lib.hid (S2.out.draw hc2 hg2); clear hc2 hg2 S2; have hwt1 : wt < 4 := hwt.2.2.2 (by omega); have hwt0 := hwt.1; clear hwt; have e2 : IntKind.i64.wrap (1 + wt) = 1 + wt := IntWalk.i64_in _ (by omega); have q : w8.cell? ⟨w.heap.size + 1 + 1, k, none⟩ = some (.int .i64 1) := (S3.out.wts.cell k).trans (ones_get k (by omega)); have f : w8.frozen? ⟨w.heap.size + 1 + 1, k, none⟩ = false := S3.out.wts.frozen k))
  clear q5 q f e2
  rename_i hh
  clear hh
  have S := Lib.hid (S3.out.setW (by omega) k (.int .i64 (1 + wt))); clear S3
  generalize w8.setCell ⟨w.heap.size + 1 + 1, k, none⟩ (.int .i64 (1 + wt)) = W8 at *
  go_wp2_with fail
  (with_reducible refine (s_l01Below g _ (by omega) _ S.out.cur).mono ?_)
  rintro e w9 ⟨dn, rfl, hdn, hc2, hg2⟩
  have S2 := Lib.hid (S.out.draw hc2 hg2); clear hc2 hg2 S
  have hdn1 : dn < 20 := hdn.2.2.2 (by omega)
  have hdn0 := hdn.1
  clear hdn
  go_wp2_with fail
  (with_reducible refine (s_l01Below g _ (by omega) _ S2.out.cur).mono ?_)
  rintro e w10 ⟨sl, rfl, hsl, hc2, hg2⟩
  have S := Lib.hid (S2.out.draw hc2 hg2); clear hc2 hg2 S2
  have hsl1 : sl < 60 := hsl.2.2.2 (by omega)
  have hsl0 := hsl.1
  clear hsl
  have q0 : w10.cell? ⟨w1.heap.size, 0, none⟩ = some (.int .i64 x) := S.out.blk.cell 0
  have q1 : w10.cell? ⟨w1.heap.size, 1, none⟩ = some (.int .i64 y) := S.out.blk.cell 1
  have q2 : w10.cell? ⟨w1.heap.size, 2, none⟩ = some (.int .i64 (3 + z)) := S.out.blk.cell 2
  have q3 : w10.cell? ⟨w1.heap.size, 3, none⟩ = some (.int .i64 lo) := S.out.blk.cell 3
  have q4 : w10.cell? ⟨w1.heap.size, 4, none⟩ = some (.int .i64 (lo + 1 + hi)) := S.out.blk.cell 4
  have q5 : w10.cell? ⟨w1.heap.size, 5, none⟩ = some (.slice (some ⟨w.heap.size + 1 + 1, 0, none⟩) 4 4) := S.out.blk.cell 5
  have q6 : w10.cell? ⟨w1.heap.size, 6, none⟩ = some (.int .i64 20) := S.out.blk.cell 6
  have q7 : w10.cell? ⟨w1.heap.size, 7, none⟩ = some (.int .i64 400) := S.out.blk.cell 7
  have r0 : w10.cell? ⟨w.heap.size, 0, none⟩ = some (.int .i64 0) := S.out.res.cell 0
  have s0 : w10.frozen? ⟨w.heap.size, 0, none⟩ = false := S.out.res.frozen 0
  have r1 : w10.cell? ⟨w.heap.size, 1, none⟩ = some (.int .i64 0) := S.out.res.cell 1
  have s1 : w10.frozen? ⟨w.heap.size, 1, none⟩ = false := S.out.res.frozen 1
  have r2 : w10.cell? ⟨w.heap.size, 2, none⟩ = some (.int .i64 0) := S.out.res.cell 2
  have s2 : w10.frozen? ⟨w.heap.size, 2, none⟩ = false := S.out.res.frozen 2
  have r3 : w10.cell? ⟨w.heap.size, 3, none⟩ = some (.int .i64 0) := S.out.res.cell 3
  have s3 : w10.frozen? ⟨w.heap.size, 3, none⟩ = false := S.out.res.frozen 3
  have r4 : w10.cell? ⟨w.heap.size, 4, none⟩ = some (.int .i64 0) := S.out.res.cell 4
  have s4 : w10.frozen? ⟨w.heap.size, 4, none⟩ = false := S.out.res.frozen 4
  have r5 : w10.cell? ⟨w.heap.size, 5, none⟩ = some (.slice none 0 0) := S.out.res.cell 5
  have s5 : w10.frozen? ⟨w.heap.size, 5, none⟩ = false := S.out.res.frozen 5
  have r6 : w10.cell? ⟨w.heap.size, 6, none⟩ = some (.int .i64 0) := S.out.res.cell 6
  have s6 : w10.frozen? ⟨w.heap.size, 6, none⟩ = false := S.out.res.frozen 6
  have r7 : w10.cell? ⟨w.heap.size, 7, none⟩ = some (.int .i64 0) := S.out.res.cell 7
  have s7 : w10.frozen? ⟨w.heap.size, 7, none⟩ = false := S.out.res.frozen 7
  have f6 : w10.frozen? ⟨w1.heap.size, 6, none⟩ = false := S.out.blk.frozen 6
  have f7 : w10.frozen? ⟨w1.heap.size, 7, none⟩ = false := S.out.blk.frozen 7
  have hne : w1.heap.size ≠ w.heap.size := by omega
  have hne' : w.heap.size ≠ w1.heap.size := by omega
  have F := Lib.hid (PF.of S.out)
  have hbb := S.out.bb
  clear S
  go_wp2
  refine bodyPost_ret (v := .agg #[.int .i64 x, .int .i64 y, .int .i64 (3 + z), .int .i64 lo, .int .i64 (lo + 1 + hi), .slice (some ⟨w.heap.size + 1 + 1, 0, none⟩) 4 4, .int .i64 (5 + dn), .int .i64 (60 + sl)]) (by simp [results, Try.results68, go_sem, *]) rfl ?_
  exact PF.end_ ((((((((((F.out.set_ ⟨w1.heap.size, 6, none⟩ (by show w.heap.size ≤ w1.heap.size; omega) (by show g < w1.heap.size; omega) (by show w.heap.size + 1 + 1 ≠ w1.heap.size; omega) _).set_ ⟨w1.heap.size, 7, none⟩ (by show w.heap.size ≤ w1.heap.size; omega) (by show g < w1.heap.size; omega) (by show w.heap.size + 1 + 1 ≠ w1.heap.size; omega) _).set_ ⟨w.heap.size, 0, none⟩ (by show w.heap.size ≤ w.heap.size; omega) (by show g < w.heap.size; omega) (by show w.heap.size + 1 + 1 ≠ w.heap.size; omega) _).set_ ⟨w.heap.size, 1, none⟩ (by show w.heap.size ≤ w.heap.size; omega) (by show g < w.heap.size; omega) (by show w.heap.size + 1 + 1 ≠ w.heap.size; omega) _).set_ ⟨w.heap.size, 2, none⟩ (by show w.heap.size ≤ w.heap.size; omega) (by show g < w.heap.size; omega) (by show w.heap.size + 1 + 1 ≠ w.heap.size; omega) _).set_ ⟨w.heap.size, 3, none⟩ (by show w.heap.size ≤ w.heap.size; omega) (by show g < w.heap.size; omega) (by show w.heap.size + 1 + 1 ≠ w.heap.size; omega) _).set_ ⟨w.heap.size, 4, none⟩ (by show w.heap.size ≤ w.heap.size; omega) (by show g < w.heap.size; omega) (by show w.heap.size + 1 + 1 ≠ w.heap.size; omega) _).set_ ⟨w.heap.size, 5, none⟩ (by show w.heap.size ≤ w.heap.size; omega) (by show g < w.heap.size; omega) (by show w.heap.size + 1 + 1 ≠ w.heap.size; omega) _).set_ ⟨w.heap.size, 6, none⟩ (by show w.heap.size ≤ w.heap.size; omega) (by show g < w.heap.size; omega) (by show w.heap.size + 1 + 1 ≠ w.heap.size; omega) _).set_ ⟨w.heap.size, 7, none⟩ (by show w.heap.size ≤ w.heap.size; omega) (by show g < w.heap.size; omega) (by show w.heap.size + 1 + 1 ≠ w.heap.size; omega) _) hx.1 (hx.2.2.2 (by omega)) HY.out hz.1 (hz.2.2.2 (by omega)) hlo0 hlo1 hhi0 hhi1 (by omega) hwt0 hwt1 hdn0 hdn1 hsl0 hsl1

end Go.Proofs.Ytkgliadgedamiaa
