/-
  slices.Repeat of one number, a few times. Nothing here is a claim.
-/
import Derived.Test.YtckjagaogcbedaaGreatVZ
import Derived.Test.YtckjagaogcbedaaGreatRows
import Derived.Laws.CopyOwn
import Derived.Deep.RegionLaw
import Derived.Handy
import Derived.Deep.OwnRows
namespace Go.Proofs.YtckjagaogcbedaaGreat
open Go.RowKit
set_option linter.unusedVariables false
set_option linter.unusedSimpArgs false
set_option maxRecDepth 100000

theorem le16 {k : Nat} (h : k <= 16) : k = 0 \/ k = 1 \/ k = 2 \/ k = 3 \/ k = 4 \/ k = 5 \/ k = 6 \/ k = 7 \/ k = 8 \/ k = 9 \/ k = 10 \/ k = 11 \/ k = 12 \/ k = 13 \/ k = 14 \/ k = 15 \/ k = 16 := by omega
theorem i_Mul64 (k : Nat) (h : k <= 16) (w : World) : Calls Tryz.prog 106 #[.int .u64 1, .int .u64 (k : Int)] w fun e w' => e = .returned (.tuple #[.int .u64 0, .int .u64 (k : Int)]) /\ w = w' := by
  go_enter Tryz.func106, Tryz.ntmps106
  go_wp2
  go_ret2
  refine ⟨?_, rfl⟩
  rcases le16 h with rfl | rfl | rfl | rfl | rfl | rfl | rfl | rfl | rfl | rfl | rfl | rfl | rfl | rfl | rfl | rfl | rfl <;> kernel_rfl
theorem i_Mul (k : Nat) (h : k <= 16) (w : World) : Calls Tryz.prog 90 #[.int .u64 1, .int .u64 (k : Int)] w fun e w' => e = .returned (.tuple #[.int .u64 0, .int .u64 (k : Int)]) /\ w = w' := by
  go_enter Tryz.func90, Tryz.ntmps90
  go_wp2_with (go_at_call 106; refine (i_Mul64 k h _).mono ?_; rintro e w' ⟨rfl, rfl⟩)
  go_ret2
  exact ⟨rfl, rfl⟩
def repRow (v : Int) (j k : Nat) : List Value := List.replicate j (.int .i64 v) ++ List.replicate (k - j) (.int .i64 0)
theorem repRow_len (v : Int) {j k : Nat} (h : j <= k) : (repRow v j k).length = k := by simp [repRow]; omega
theorem repRow_splice (v : Int) {j m k : Nat} (h : j + m <= k) : Go.splice (repRow v j k) j (List.replicate m (.int .i64 v)) = repRow v (j + m) k := by
  have e1 : (repRow v j k).take j = List.replicate j (.int .i64 v) := by simp [repRow]
  have e2 : (repRow v j k).drop (j + m) = List.replicate (k - (j + m)) (.int .i64 0) := by
    unfold repRow
    rw [List.drop_append, List.length_replicate, List.drop_replicate, List.drop_replicate, show j - (j + m) = 0 by omega, List.replicate_zero, List.nil_append]
    congr 1
    omega
  unfold Go.splice
  rw [List.length_replicate, e1, e2]
  simp only [repRow]
  rw [<- List.replicate_append_replicate, List.append_assoc]
theorem repRow_get (v : Int) {j k i : Nat} (h : i < j) : (repRow v j k)[i]? = some (.int .i64 v) := by
  unfold repRow
  rw [List.getElem?_append_left (by simpa using h)]
  simp [h]
theorem Tryz.infoI : (Tryz.prog.info? 3).map (fun i => (i.zero, i.size, i.bytes)) = some (some (.int .i64 0), 1, 8) := by kernel_rfl
theorem szInt : (Tryz.prog.info? 3).map (·.size) = some 1 := by kernel_rfl
theorem made_rep (v : Int) (k : Nat) : (madeCells #[.int .i64 0] k) = (repRow v 0 k).toArray := by
  apply Array.ext'
  rw [toList_madeCells_one]
  rfl
set_option maxHeartbeats 1000000 in
theorem i_Repeat (v : Int) (A : Addr) (c k : Nat) (h1 : 1 <= k) (h : k <= 16) (w : World) (hA : w.cell? A = some (.int .i64 v)) (hb : A.block < w.heap.size) :
    Calls Tryz.prog 63 #[.slice (some A) 1 c, .int .i64 (k : Int)] w fun e w' => e = .returned (.slice (some ⟨w.heap.size, 0, none⟩) k k) /\ Below w.heap.size w w' /\ w'.heap[w.heap.size]? = some (.cells (repRow v k k).toArray 3 (0, 0)) := by
  have hk0 : IntKind.u64.wrap (k : Int) = (k : Int) := by rw [IntKind.wrap_u64]; omega
  have hk1 : IntKind.i64.wrap (k : Int) = (k : Int) := by rw [IntKind.wrap_i64]; omega
  have hk2 : ¬ ((k : Int) > 9223372036854775807) := by omega
  obtain ⟨i0, hi0, hz0, hz1, hz2⟩ := info_parts Tryz.infoI
  have hmk := fun W => run_make_row (P := Tryz.prog) 34 3 i0 (.int .i64 0) Tryz.underlying34 hi0 hz0 hz1 rfl .i64 .i64 k (by rw [hz2]; omega) (by omega) W
  have hcell : ∀ (j : Nat) u, [Value.int .i64 v][j]? = some u -> (w.alloc (.cells (madeCells #[.int .i64 0] k) 3)).cell? (A.add j) = some u := by
    intro j u hu
    rcases j with _ | j
    · simp at hu
      subst hu
      have e : A.add 0 = A := by unfold Addr.add; split <;> simp_all
      rw [e]
      exact (World.cell?_alloc_old _ _ _ (Nat.ne_of_lt hb)).trans hA
    · simp at hu
  have hmade : (w.alloc (.cells (madeCells #[.int .i64 0] k) 3)).heap[w.heap.size]? = some (.cells (repRow v 0 k).toArray 3 (0, 0)) := by
    rw [made_rep v]
    exact heap_alloc_new _ _
  have hfit : 0 + [Value.int .i64 v].length <= (repRow v 0 k).length := by rw [repRow_len v (Nat.zero_le _)]; exact h1
  have hone : ∀ u ∈ [Value.int .i64 v], u.oneCell' = true := by simp [Value.oneCell']
  have hmin : [Value.int .i64 v].length = Nat.min 1 k := (Nat.min_eq_left h1).symm
  have hbel := (Below.refl w.heap.size w).alloc (Nat.le_refl _) (.cells (madeCells #[.int .i64 0] k) 3)
  go_enter Tryz.func63, Tryz.ntmps63
  go_wp2_with (first | (go_at_call 90; refine (i_Mul k h _).mono ?_; rintro e w' ⟨rfl, rfl⟩) | (refine wpList_copy_splice rfl (.tmp 31) (.tmp 32) 34 34 rfl 3 Tryz.underlying34 szInt (some ⟨w.heap.size, 0, none⟩) (some A) k k 1 c rfl rfl w.heap.size 0 (repRow v 0 k) 3 hmade [.int .i64 v] hmin (fun _ => ⟨rfl, A, rfl, hcell⟩) hfit hone w.heap.size w hbel (Nat.le_refl _) ?_; intro w1 hg1 hb1))
  go_loopw [8] (fun i wr => ∃ j : Nat, 1 <= j /\ j <= k /\ i = .int .i64 (j : Int) /\ Hid (wr.heap[w.heap.size]? = some (.cells (repRow v j k).toArray 3 (0, 0))) /\ Below w.heap.size w wr) (fun i _ => k - (intOf i).toNat)
  case atStart => exact ⟨1, by omega, h1, rfl, by
    have := hg1.out
    rw [show [Value.int .i64 v] = List.replicate 1 (.int .i64 v) from rfl, repRow_splice v (by omega)] at this
    exact this, hb1⟩
  case round =>
    obtain ⟨j, hj1, hjk, rfl, hrow, hbel2⟩ := hrel
    by_cases hlt : j < k
    · have hne : ¬ k = j := by omega
      have hm : ∃ m, m = Nat.min j (k - j) := ⟨_, rfl⟩
      obtain ⟨m, hm⟩ := hm
      have hm' : m <= j /\ m <= k - j /\ 1 <= m := by rw [hm]; exact ⟨Nat.min_le_left .., Nat.min_le_right .., Nat.le_min.2 ⟨hj1, by omega⟩⟩
      have s1 : Hid ((List.replicate m (Value.int .i64 v)).length = Nat.min j (k - j)) := by
        show _ = _
        rw [List.length_replicate, hm]
      have s2 : Hid (∀ u ∈ List.replicate m (Value.int .i64 v), u.oneCell' = true) := fun u hu => by
        rw [(List.mem_replicate.1 hu).2]
        rfl
      have s3 : Hid (∀ (i : Nat) u, (List.replicate m (Value.int .i64 v))[i]? = some u -> wr.drew.cell? ((⟨w.heap.size, 0, none⟩ : Addr).add i) = some u) := fun i u hu => by
        obtain ⟨hi, rfl⟩ := List.getElem?_eq_some_iff.1 hu
        rw [List.length_replicate] at hi
        have e : (⟨w.heap.size, 0, none⟩ : Addr).add i = ⟨w.heap.size, i, none⟩ := by unfold Addr.add; split <;> simp_all
        rw [e]
        show wr.cell? _ = _
        rw [cell_of_row _ _ _ _ _ _ hrow.out]
        simp only [List.getElem_replicate]
        rw [List.getElem?_toArray]
        exact repRow_get v (by omega)
      have s4 : Hid (j + (List.replicate m (Value.int .i64 v)).length <= (repRow v j k).length) := by
        show _ <= _
        rw [List.length_replicate, repRow_len v hjk]
        omega
      have s5 : Hid (wr.drew.heap[w.heap.size]? = some (.cells (repRow v j k).toArray 3 (0, 0))) := hrow.out
      have s6 : Hid (Below w.heap.size w wr.drew) := hbel2.drew
      go_wp2_with fail
      go_region_law (refine step_copy_splice rfl (.tmp 41) (.tmp 44) 34 34 rfl 3 Tryz.underlying34 szInt (some ⟨w.heap.size, j, none⟩) (some ⟨w.heap.size, 0, none⟩) (k - j) (k - j) j k (by simp [Act.eval, Act.put, hne]) (by simp [Act.eval, Act.put]) w.heap.size j (repRow v j k) 3 s5.out (List.replicate m (.int .i64 v)) s1.out (fun _ => ⟨rfl, _, rfl, s3.out⟩) s4.out s2.out w.heap.size w s6.out (Nat.le_refl _) ?_; intro w4 hg4 hb4)
      have hwr : IntKind.i64.wrap ((j : Int) + ((j.min (k - j) : Nat) : Int)) = ((j + m : Nat) : Int) := by rw [<- hm, IntKind.wrap_i64]; omega
      simp [Act.put, Act.eval, goInt, hwr]
      go_roundw
      case rel =>
        refine ⟨_, _, _, _, _, _, _, _, _, _, _, _, _, _, ⟨j + m, ?_, ?_, ?_, ?_, hb4⟩, rfl⟩
        · omega
        · omega
        · go_num
        · have := hg4.out
          rw [repRow_splice v (by omega)] at this
          exact this
      case measure => simp [intOf]; omega
    · obtain rfl : j = k := by omega
      go_wp2
      go_ret
      exact ⟨rfl, hbel2, hrow.out⟩
def x_Repeat (l : List Int) (k : Int) : Option (List Int) := match l with
  | [v] => bif decide (1 <= k) && decide (k <= 16) then some (List.replicate k.toNat v) else none
  | _ => none
theorem x_Repeat_inv {l : List Int} {k : Int} {y : List Int} (h : x_Repeat l k = some y) : ∃ (v : Int) (n : Nat), l = [v] /\ k = (n : Int) /\ 1 <= n /\ n <= 16 /\ y = List.replicate n v := by
  unfold x_Repeat at h
  split at h
  · rename_i v
    cases hb : decide (1 <= k) && decide (k <= 16) with
    | false => rw [hb] at h; cases h
    | true =>
      rw [hb, cond_true] at h
      injection h with h
      rw [Bool.and_eq_true, decide_eq_true_eq, decide_eq_true_eq] at hb
      exact ⟨v, k.toNat, rfl, by omega, by omega, by omega, h.symm⟩
  · cases h
theorem one_of {w : World} {B : Nat} {v : Int} {u : Value} (h : RV w B (fun _ => none) [] (.sl .int 0 false [v]) u) : ∃ b o c, u = .slice (some ⟨b, o, none⟩) 1 c /\ b < w.heap.size /\ w.cell? ⟨b, o, none⟩ = some (.int .i64 v) := by
  generalize hy : V.sl .int 0 false [v] = y at h
  cases h with
  | int => cases hy
  | bool => cases hy
  | str => cases hy
  | nil => cases hy
  | slNil q t o' =>
    injection hy with e1 e2 e3 e4
    subst e1
    exact absurd (eq_of_heq e4) (by simp)
  | slEmp q t o' A c ho =>
    injection hy with e1 e2 e3 e4
    subst e1
    exact absurd (eq_of_heq e4) (by simp)
  | slNon q t o' A c ho =>
    injection hy with e1 e2 e3 e4
    subst e1
    exact absurd (eq_of_heq e4) (by simp)
  | fro q t o' qn' l' b off cap uu ho hl hb h1 hcap hc hr =>
    injection hy with e1 e2 e3 e4
    subst e1
    obtain rfl := eq_of_heq e4
    have h2 := hc 0 (Nat.zero_lt_succ _) 0 (.int .i64 v) rfl
    have h3 := hr 0 (Nat.zero_lt_succ _) 0 (.int .i64 v) rfl
    simp only [csz, Nat.zero_mul, Nat.add_zero] at h2
    exact ⟨b, off, cap, rfl, hb, by rw [h2, h3.int_inv]⟩
  | own q t o' qn' l' b cap cs uu hl hh hs' hn hm hc hr =>
    cases hl
theorem PA.one1 {w : World} {x : V} {u : Value} (h : PA w (false, [x]) u) : RV w w.heap.size (fun _ => none) [] x u := by
  obtain ⟨us, e, hs, hv⟩ := h.pv
  have e : us = #[u] := e
  subst e
  obtain ⟨v, h1, h2⟩ := hv 0 x rfl
  simp at h1
  subst h1
  exact h2
def c_x_Repeat : Ctr := ctrT [(false, (.sl .int)), (false, .int)] [(false, (.sl .int), 2)] (fun x => x_Repeat x.1 x.2.1)
theorem ok_x_Repeat : enters Tryz.prog 63 /\ CtrOK Tryz.prog 63 c_x_Repeat := by
  refine ⟨⟨_, Tryz.func63, by kernel_rfl, by kernel_rfl⟩, fun X args k r hr => ?_⟩
  simp only [c_x_Repeat, ctrT] at hr
  split at hr
  · rename_i x hx
    split at hr
    · rename_i y hy
      refine ⟨_, hr, fun X' k' => by simp only [c_x_Repeat, ctrT, hx, hy], fun nm w vals hargs hQ => ?_⟩
      obtain ⟨l, kk, un⟩ := x
      obtain ⟨v, n, rfl, rfl, h1, h16, rfl⟩ := x_Repeat_inv (show x_Repeat l kk = some y from hy)
      obtain ⟨k1, k2⟩ := inRd_ok _ args _ hx
      have ha : ∀ (j : Nat) p, (inMk [(false, (.sl .int)), (false, .int)] ([v], (n : Int), un))[j]? = some p -> ∃ u, vals[j]? = some u /\ PA w p u := fun j p hp => by
        obtain ⟨q, hq, hq1, hq2⟩ := k2 j p hp
        obtain ⟨u, hu, hpv⟩ := hargs.2 j q hq
        refine ⟨u, hu, ?_⟩
        obtain ⟨b, ys⟩ := p
        obtain ⟨b', xs⟩ := q
        simp only at hq1
        subst hq1
        exact hpv.wks hq2
      obtain ⟨u0, hu0, hp0⟩ := ha 0 _ rfl
      obtain ⟨u1, hu1, hp1⟩ := ha 1 _ rfl
      obtain ⟨b, o, c, rfl, hb, hcell⟩ := one_of (PA.one1 hp0)
      obtain rfl := (PA.one1 hp1).int_inv
      have hvals : vals = #[.slice (some ⟨b, o, none⟩) 1 c, .int .i64 (n : Int)] := by
        have hs : vals.size = 2 := by rw [hargs.1, <- k1]; rfl
        apply Array.ext (by simpa using hs)
        intro i h1 h2
        have : i = 0 \/ i = 1 := by simp at h2; omega
        rcases this with rfl | rfl
        · rw [Array.getElem?_eq_getElem h1] at hu0
          injection hu0
        · rw [Array.getElem?_eq_getElem h1] at hu1
          injection hu1
      subst hvals
      refine (i_Repeat v ⟨b, o, none⟩ c n h1 h16 w hcell hb).mono fun e w' hpost => ?_
      obtain ⟨rfl, hbl, hh⟩ := hpost
      have hlt := (Array.getElem?_eq_some_iff.1 hh).1
      refine ⟨_, fun b => if b = w.heap.size then some [nm 0] else none, rfl, hbl, (fun b k hb => ?_), ?_⟩
      · by_cases hbw : b = w.heap.size
        · simp only [hbw, if_true] at hb
          injection hb with hb
          subst hb
          subst hbw
          exact ⟨Nat.le_refl _, hlt, by simp⟩
        · simp [hbw] at hb
      · refine ⟨⟨rfl, #[_], rfl, rfl, fun j x hx => ?_⟩, trivial⟩
        rcases j with _ | j
        · have hx : some (V.sl .int 2 false (List.replicate n v)) = some x := hx
          injection hx with hx
          subst hx
          refine ⟨_, rfl, ?_⟩
          have h := RV.own (w := w') (B := w.heap.size) (lab := fun b => if b = w.heap.size then some [nm 0] else none) [nm 0] .int 0 false (List.replicate n v) w.heap.size n (repRow v n n).toArray (fun _ _ => .int .i64 v) (if_pos rfl) hh (by simp [repRow_len v (Nat.le_refl n), csz]) (Nat.le_of_eq List.length_replicate) ⟨by unfold maxLen; omega, fun h => by cases h⟩ (fun i hi j x hx => ?_) (fun i hi j x hx => ?_)
          · change RV _ _ _ _ _ (.slice _ (List.replicate n v : List Int).length n) at h
            rw [List.length_replicate] at h
            exact h
          · have hi : i < n := Nat.lt_of_lt_of_eq hi List.length_replicate
            obtain rfl : j = 0 := by
              have := (List.getElem?_eq_some_iff.1 hx).1
              rw [enc_length] at this
              simp only [csz] at this
              omega
            simp only [csz, Nat.mul_one, Nat.add_zero]
            rw [List.getElem?_toArray]
            exact repRow_get v hi
          · have hj : j = 0 := by
              have := (List.getElem?_eq_some_iff.1 hx).1
              rw [enc_length] at this
              simp only [csz] at this
              omega
            subst hj
            have hx : some (V.int .i64 ((List.replicate n v : List Int)[i]'hi)) = some x := hx
            have hv : (List.replicate n v : List Int)[i]'hi = v := List.getElem_replicate ..
            injection hx with hx
            subst hx
            have key : ∀ (q : List Nat) (z : Int), z = v -> RV w' w.heap.size (fun b => if b = w.heap.size then some [nm 0] else none) q (V.int .i64 z) (.int .i64 v) := by
              rintro q z rfl
              exact .int _ _ _
            exact key _ _ hv
        · have h9 : j + 1 < 1 := (List.getElem?_eq_some_iff.1 hx).1
          omega
    · cases hr
  · cases hr
end Go.Proofs.YtckjagaogcbedaaGreat
