/-
  Plain laws of the reference's draws. Nothing here is a claim.
-/
import Derived.Test.YtkgliadgedamiaaG2
import Derived.Test.YtkgliadgedamiaaPl
namespace Go.Proofs.Ytkgliadgedamiaa
open Go.RowKit
set_option linter.unusedVariables false
set_option maxRecDepth 100000

/-- A loop that goes through n turns: S gives the state at each. -/
theorem iter_run {α β : Type} {step : α → Option (α ⊕ β)} (S : Nat → α) {z : β} : ∀ (n i fuel : Nat), (∀ k, i ≤ k → k < i + n → step (S k) = some (.inl (S (k + 1)))) → step (S (i + n)) = some (.inr z) → n < fuel → iter step fuel (S i) = some z
  | 0, i, fuel, _, hz, hf => by
    match fuel, hf with
    | f + 1, _ => unfold iter; rw [Nat.add_zero] at hz; rw [hz]
  | n + 1, i, fuel, hs, hz, hf => by
    match fuel, hf with
    | f + 1, hf =>
      unfold iter
      rw [hs i (Nat.le_refl _) (by omega)]
      exact iter_run S n (i + 1) f (fun k h1 h2 => hs k (by omega) (by omega)) (by rw [show i + 1 + n = i + (n + 1) by omega]; exact hz) (by omega)
theorem wrap_succ {i : Nat} (h : i < 4611686018427387904) : IntKind.i64.wrap ((i : Int) + 1) = ((i + 1 : Nat) : Int) := by
  rw [w64 (by omega) (by omega)]; simp
theorem and255 (y : Int) : 0 ≤ bits .and .i64 y 255 ∧ bits .and .i64 y 255 ≤ 255 := by
  have e : bits .and .i64 y 255 = IntKind.i64.wrap ((BitVec.ofInt 64 y &&& BitVec.ofInt 64 255).toNat : Int) := rfl
  have h : (BitVec.ofInt 64 y &&& BitVec.ofInt 64 255).toNat ≤ 255 := by
    rw [BitVec.toNat_and]
    exact Nat.le_trans Nat.and_le_right (by decide)
  rw [e, IntKind.wrap_i64]
  omega
/-- A cursor over some bytes. -/
structure Cok (b : List Int) (c : DCur) : Prop where
  eq : c.b = b
  lo : 0 ≤ c.i
  hi : c.i ≤ b.length
  len : b.length ≤ 1073741823
theorem Cok.eta {b : List Int} {c : DCur} (h : Cok b c) : (⟨b, c.i, c.h⟩ : DCur) = c := by
  obtain ⟨b', i, h'⟩ := c
  have := h.eq
  simp only at this
  subst this
  rfl
/-- A draw gives a value of P, and the cursor goes on. -/
def Dr {α : Type} (b : List Int) (f : Option (α × (DCur × Unit))) (P : α → Prop) : Prop := ∃ x c, f = some (x, (c, ())) ∧ Cok b c ∧ P x
theorem Dr.mono {α : Type} {b : List Int} {f : Option (α × (DCur × Unit))} {P Q : α → Prop} (h : Dr b f P) (hq : ∀ x, P x → Q x) : Dr b f Q := by
  obtain ⟨x, c, h1, h2, h3⟩ := h
  exact ⟨x, c, h1, h2, hq x h3⟩
theorem Dr.bind {α β : Type} {b : List Int} {f : Option (α × (DCur × Unit))} {g : α × (DCur × Unit) → Option (β × (DCur × Unit))} {P : α → Prop} {Q : β → Prop} (h : Dr b f P) (hg : ∀ x c, P x → Cok b c → Dr b (g (x, (c, ()))) Q) : Dr b (f.bind g) Q := by
  obtain ⟨x, c, h1, h2, h3⟩ := h
  rw [h1]
  exact hg x c h3 h2
theorem Dr.pure {α : Type} {b : List Int} {x : α} {c : DCur} {P : α → Prop} (hc : Cok b c) (hp : P x) : Dr b (some (x, (c, ()))) P := ⟨x, c, rfl, hc, hp⟩
/-- The same where the cursor is thrown away. -/
theorem Dr.last {α β : Type} {b : List Int} {f : Option (α × (DCur × Unit))} {g : α × (DCur × Unit) → Option β} {P : α → Prop} {Q : Option β → Prop} (h : Dr b f P) (hg : ∀ x c, P x → Cok b c → Q (g (x, (c, ())))) : Q (f.bind g) := by
  obtain ⟨x, c, h1, h2, h3⟩ := h
  rw [h1]
  exact hg x c h3 h2
theorem p_new (l : List Int) (h : l.length ≤ 1073741823) : ∃ y, fs_l01New l = some y := by
  unfold fs_l01New
  obtain ⟨z, h1, h2⟩ := iter_ind (step := Lfs_l01New_0)
    (fun x => ∃ (i : Nat) (y : Int), x = (((), y, (i : Int), ()), (l, ())) ∧ i ≤ l.length)
    (fun x => l.length - x.1.2.2.1.toNat) (fun z => ∃ y, (Sum.elim (fun z3 : ((Unit × Int × Unit) × ((List Int) × Unit)) => some z3.1.2.1) (fun z => nomatch z)) z = some y) (by
      rintro x ⟨i, y, rfl, hi⟩
      unfold Lfs_l01New_0
      dsimp only
      by_cases h' : i < l.length
      · have c1 : decide ((i : Int) < (l.length : Int)) = true := by simpa using h'
        have c2 : 0 ≤ (i : Int) ∧ (i : Int).toNat < l.length := ⟨by omega, by simpa using h'⟩
        rw [c1, cond_true]
        cases h4 : decide ((i : Int) < 4000) with
        | true =>
          rw [cond_true, dif_pos c2]
          left
          refine ⟨_, rfl, ⟨i + 1, _, by rw [wrap_succ (by omega)], by omega⟩, ?_⟩
          dsimp only
          rw [wrap_succ (by omega)]
          omega
        | false =>
          rw [cond_false]
          right
          exact ⟨_, rfl, _, rfl⟩
      · have c1 : decide ((i : Int) < (l.length : Int)) = false := by simpa using h'
        rw [c1, cond_false]
        right
        exact ⟨_, rfl, _, rfl⟩)
    big (((), (IntKind.i64.wrap ((97301 : Int) + (l.length : Int))), ((0 : Nat) : Int), ()), (l, ())) ⟨0, _, rfl, by omega⟩ (by dsimp only; unfold big; omega)
  have h1 : iter Lfs_l01New_0 big (((), (IntKind.i64.wrap ((97301 : Int) + (l.length : Int))), (0 : Int), ()), (l, ())) = some z := h1
  rw [h1]
  exact h2
theorem new_cok (l : List Int) (y : Int) (h : l.length ≤ 1073741823) : Cok l ⟨l, 0, y⟩ := ⟨rfl, Int.le_refl _, by simp, h⟩
theorem p_byte {b : List Int} {c : DCur} (hc : Cok b c) : Dr b (fs_l01Byte c) fun x => 0 ≤ x ∧ x ≤ 255 := by
  have hb := hc.eq
  have h1 := hc.lo
  have h2 := hc.hi
  have h3 := hc.len
  unfold fs_l01Byte
  by_cases h : c.i < (c.b.length : Int)
  · have c1 : decide (c.i < (c.b.length : Int)) = true := by simpa using h
    rw [c1, cond_true, dif_pos ⟨h1, by omega⟩]
    refine Dr.pure ⟨hb, ?_, ?_, h3⟩ (and255 _)
    · show 0 ≤ IntKind.i64.wrap (c.i + 1)
      rw [hb] at h
      rw [w64 (by omega) (by omega)]; omega
    · show IntKind.i64.wrap (c.i + 1) ≤ _
      rw [hb] at h
      rw [w64 (by omega) (by omega)]; omega
  · have c1 : decide (c.i < (c.b.length : Int)) = false := by simpa using h
    rw [c1, cond_false]
    exact Dr.pure ⟨hb, h1, h2, h3⟩ (and255 _)
theorem tmod_bd {x n : Int} (h : 0 ≤ x) (hn : 0 < n) : 0 ≤ x.tmod n ∧ x.tmod n < n := by
  rw [Int.tmod_eq_emod_of_nonneg h]
  exact ⟨Int.emod_nonneg _ (by omega), Int.emod_lt_of_pos _ hn⟩
theorem p_below {b : List Int} {c : DCur} (hc : Cok b c) (n : Int) : Dr b (fs_l01Below c n) fun x => 0 ≤ x ∧ (n ≤ 0 → x = 0) ∧ (0 < n → x < n) := by
  unfold fs_l01Below
  by_cases h0 : n ≤ 0
  · have c1 : decide (n ≤ 0) = true := by simpa using h0
    rw [c1, cond_true]
    exact Dr.pure hc ⟨Int.le_refl _, fun _ => rfl, fun h => by omega⟩
  · have c1 : decide (n ≤ 0) = false := by simpa using h0
    have hn : ¬ n = 0 := by omega
    rw [c1, cond_false]
    by_cases h1 : n ≤ 256
    · have c2 : decide (n ≤ 256) = true := by simpa using h1
      rw [c2, cond_true]
      refine (p_byte hc).bind fun x c' hx hc' => ?_
      rw [if_neg hn]
      dsimp only
      rw [hc.eq, hc'.eta]
      have := tmod_bd hx.1 (show 0 < n by omega)
      exact Dr.pure hc' ⟨this.1, fun h => by omega, fun _ => this.2⟩
    · have c2 : decide (n ≤ 256) = false := by simpa using h1
      rw [c2, cond_false, hc.eq]
      refine (p_byte hc).bind fun x1 k1 hx1 hk1 => ?_
      dsimp only
      rw [hk1.eta]
      refine (p_byte hk1).bind fun x2 k2 hx2 hk2 => ?_
      dsimp only
      rw [hk2.eta]
      refine (p_byte hk2).bind fun x3 k3 hx3 hk3 => ?_
      dsimp only
      rw [hk3.eta]
      refine (p_byte hk3).bind fun x4 k4 hx4 hk4 => ?_
      rw [if_neg hn]
      dsimp only
      rw [hk4.eta]
      rw [w64 (n := x1 * 16777216) (by omega) (by omega), w64 (n := x2 * 65536) (by omega) (by omega), w64 (n := x1 * 16777216 + x2 * 65536) (by omega) (by omega), w64 (n := x3 * 256) (by omega) (by omega), w64 (n := x1 * 16777216 + x2 * 65536 + x3 * 256) (by omega) (by omega), w64 (n := x1 * 16777216 + x2 * 65536 + x3 * 256 + x4) (by omega) (by omega)]
      have := tmod_bd (x := x1 * 16777216 + x2 * 65536 + x3 * 256 + x4) (by omega) (show 0 < n by omega)
      exact Dr.pure hk4 ⟨this.1, fun h => by omega, fun _ => this.2⟩
theorem p_places (l : List Int) (h : l.length ≤ 1073741823) : ∃ y, fs_DrawPlaces l = some y ∧ y.length = 12 ∧ ∀ x ∈ y, 0 ≤ x ∧ x < 10000 := by
  unfold fs_DrawPlaces
  obtain ⟨h0, e0⟩ := p_new l h
  rw [e0]
  obtain ⟨z, h1, h2⟩ := iter_ind (step := Lfs_DrawPlaces_0)
    (fun x => ∃ (i : Nat) (c : DCur) (y : List Int), x = (((), (), (i : Int), ()), ((l, c.i, c.h, ()), y, ())) ∧ i ≤ 12 ∧ Cok l c ∧ y.length = i ∧ ∀ x ∈ y, 0 ≤ x ∧ x < 10000)
    (fun x => 12 - x.1.2.2.1.toNat) (fun z => ∃ y, (Sum.elim (fun z3 : ((Unit × Unit) × ((List Int) × Unit)) => some z3.2.1) (fun z => nomatch z)) z = some y ∧ y.length = 12 ∧ ∀ x ∈ y, 0 ≤ x ∧ x < 10000) (by
      rintro x ⟨i, c, y, rfl, hi, hc, hy, hx⟩
      unfold Lfs_DrawPlaces_0
      dsimp only
      by_cases h' : i < 12
      · have c1 : decide ((i : Int) < (12 : Int)) = true := decide_eq_true (by omega)
        rw [c1, cond_true, hc.eta]
        left
        obtain ⟨x, c', e1, hc', hx0, _, hx1⟩ := p_below hc 10000
        rw [e1]
        have ho : okLen (y.length + ([x] : List Int).length) = true := by
          unfold okLen; simp; omega
        refine ⟨(((), (), IntKind.i64.wrap ((i : Int) + 1), ()), ((l, c'.i, c'.h, ()), (y ++ [x]), ())), ?_, ⟨i + 1, c', y ++ [x], by rw [wrap_succ (by omega)], by omega, hc', by simp [hy], fun u hu => ?_⟩, ?_⟩
        · show (bif okLen (y.length + ([x] : List Int).length) then _ else none) = _
          rw [ho]; rfl
        · rcases List.mem_append.1 hu with hu | hu
          · exact hx u hu
          · rw [List.mem_singleton.1 hu]; exact ⟨hx0, hx1 (by omega)⟩
        · dsimp only
          rw [wrap_succ (by omega)]
          omega
      · have c1 : decide ((i : Int) < (12 : Int)) = false := decide_eq_false (by omega)
        rw [c1, cond_false]
        right
        exact ⟨_, rfl, y, rfl, by omega, hx⟩)
    big (((), (), ((0 : Nat) : Int), ()), ((l, 0, h0, ()), ([] : List Int), ())) ⟨0, ⟨l, 0, h0⟩, [], rfl, by omega, new_cok l h0 h, rfl, by simp⟩ (by dsimp only; unfold big; omega)
  have h1 : iter Lfs_DrawPlaces_0 big (((), (), (0 : Int), ()), ((l, (0 : Int), h0, ()), ([] : List Int), ())) = some z := h1
  rw [bindS, h1]
  exact h2
/-- A geometry that is drawn. -/
structure Gok (g : DGeometry) : Prop where
  groups : 1 ≤ g.groups ∧ g.groups ≤ 2
  banks : 1 ≤ g.banks ∧ g.banks ≤ 4
  rows : 2 ≤ g.rows ∧ g.rows ≤ 8
  cols : 1 ≤ g.cols ∧ g.cols ≤ 4
theorem p_geo {b : List Int} {c : DCur} (hc : Cok b c) : Dr b (fs_l03Geo c) Gok := by
  unfold fs_l03Geo
  rw [hc.eq]
  refine (p_below hc 2).bind fun x1 k1 hx1 hk1 => ?_
  dsimp only
  rw [hk1.eta]
  refine (p_below hk1 4).bind fun x2 k2 hx2 hk2 => ?_
  dsimp only
  rw [hk2.eta]
  refine (p_below hk2 7).bind fun x3 k3 hx3 hk3 => ?_
  dsimp only
  rw [hk3.eta]
  refine (p_below hk3 4).bind fun x4 k4 hx4 hk4 => ?_
  dsimp only
  rw [hk4.eta]
  have a1 := hx1.2.2 (by omega)
  have a2 := hx2.2.2 (by omega)
  have a3 := hx3.2.2 (by omega)
  have a4 := hx4.2.2 (by omega)
  rw [w64 (by omega) (by omega), w64 (by omega) (by omega), w64 (by omega) (by omega), w64 (by omega) (by omega)]
  exact Dr.pure hk4 ⟨⟨by dsimp only; omega, by dsimp only; omega⟩, ⟨by dsimp only; omega, by dsimp only; omega⟩, ⟨by dsimp only; omega, by dsimp only; omega⟩, ⟨by dsimp only; omega, by dsimp only; omega⟩⟩
theorem p_DrawGeometry (l : List Int) (h : l.length ≤ 1073741823) : ∃ g, fs_DrawGeometry l = some g ∧ Gok g := by
  unfold fs_DrawGeometry
  obtain ⟨h0, e0⟩ := p_new l h
  rw [e0]
  obtain ⟨x, c, e1, _, hx⟩ := p_geo (new_cok l h0 h)
  exact ⟨x, by show (fs_l03Geo _).bind _ = _; rw [e1]; rfl, hx⟩
end Go.Proofs.Ytkgliadgedamiaa
