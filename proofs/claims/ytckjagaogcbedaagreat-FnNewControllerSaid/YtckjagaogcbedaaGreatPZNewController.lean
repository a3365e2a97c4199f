/-
  Plain laws. Nothing here is a claim.
-/
import Derived.Test.YtckjagaogcbedaaGreatVZ
import Derived.Test.YtckjagaogcbedaaGreatOpenV
import Derived.Test.YtckjagaogcbedaaGreatG1
import Derived.Test.YtckjagaogcbedaaGreatG2
import Derived.Test.YtckjagaogcbedaaGreatG3
namespace Go.Proofs.YtckjagaogcbedaaGreat
open Go.RowKit
set_option linter.unusedVariables false
set_option linter.unusedSimpArgs false
set_option maxRecDepth 100000

theorem w64 {n : Int} (h1 : -9223372036854775808 <= n) (h2 : n < 9223372036854775808) : IntKind.i64.wrap n = n := by
  rw [IntKind.wrap_i64]; omega
theorem iter_ind {α β : Type} {step : α -> Option (α ⊕ β)} (I : α -> Prop) (m : α -> Nat) (Q : β -> Prop)
    (h : ∀ x, I x -> (∃ y, step x = some (.inl y) /\ I y /\ m y < m x) \/ ∃ z, step x = some (.inr z) /\ Q z) :
    ∀ (n : Nat) (x : α), I x -> m x < n -> ∃ z, iter step n x = some z /\ Q z
  | 0, x, _, hm => by omega
  | n + 1, x, hx, hm => by
    unfold iter
    rcases h x hx with ⟨y, h1, h2, h3⟩ | ⟨z, h1, h2⟩
    · rw [h1]
      exact iter_ind I m Q h n y h2 (by omega)
    · rw [h1]
      exact ⟨z, rfl, h2⟩
theorem bindS {α β : Type} (x : α) (f : α -> Option β) : (some x).bind f = f x := rfl
/-- A loop that stops early where a test of an element fails. -/
theorem iter_all {α β T : Type} {step : α -> Option (α ⊕ β)} (l : List T) (q : T -> Bool) (S : Nat -> α) (zf z : β) (fuel : Nat) (hs : ∀ k (h : k < l.length), step (S k) = some (bif q l[k] then .inl (S (k + 1)) else .inr zf)) (hz : step (S l.length) = some (.inr z)) (hf : l.length < fuel) :
    iter step fuel (S 0) = some (bif l.all q then z else zf) := by
  have key : ∀ (n i fuel : Nat), i + n = l.length -> n < fuel -> iter step fuel (S i) = some (bif (l.drop i).all q then z else zf) := by
    intro n
    induction n with
    | zero =>
      intro i fuel hi hf
      match fuel, hf with
      | f + 1, _ =>
        have : i = l.length := by omega
        subst this
        unfold iter
        rw [hz]
        simp
    | succ n ih =>
      intro i fuel hi hf
      match fuel, hf with
      | f + 1, hf =>
        have hlt : i < l.length := by omega
        unfold iter
        rw [hs i hlt, List.drop_eq_getElem_cons hlt, List.all_cons]
        cases q l[i] with
        | true => simp only [cond_true, Bool.true_and]; exact ih (i + 1) f (by omega) (by omega)
        | false => rfl
  exact key l.length 0 fuel (by omega) hf
/-- A loop that goes on to the end. -/
theorem iter_to {α β : Type} {step : α -> Option (α ⊕ β)} (n : Nat) (S : Nat -> α) (z : β) (fuel : Nat) (hs : ∀ k, k < n -> step (S k) = some (.inl (S (k + 1)))) (hz : step (S n) = some (.inr z)) (hf : n < fuel) : iter step fuel (S 0) = some z := by
  have key : ∀ (m i fuel : Nat), i + m = n -> m < fuel -> iter step fuel (S i) = some z := by
    intro m
    induction m with
    | zero =>
      intro i fuel hi hf
      match fuel, hf with
      | f + 1, _ =>
        have : i = n := by omega
        subst this
        unfold iter
        rw [hz]
    | succ m ih =>
      intro i fuel hi hf
      match fuel, hf with
      | f + 1, hf =>
        unfold iter
        rw [hs i (by omega)]
        exact ih (i + 1) f (by omega) (by omega)
  exact key n 0 fuel (by omega) hf
theorem neI {x y : Int} (h : ¬ x = y) : (x != y) = true := by simp [h]
theorem okLen_t {n : Nat} (h : n < 1073741824) : okLen n = true := decide_eq_true h
theorem wrapS {i : Nat} (h : i < 4611686018427387904) : IntKind.i64.wrap ((i : Int) + 1) = ((i + 1 : Nat) : Int) := by
  rw [w64 (by omega) (by omega)]; simp
theorem bigLt {n : Nat} (h : n < 1073741824) : n < big := by unfold big; omega
def inR (x a b : Int) : Bool := decide (a <= x) && decide (x <= b)
theorem inR_iff {x a b : Int} : inR x a b = true ↔ a <= x /\ x <= b := by simp [inR]
theorem m_between (x a b : Int) : fi_between x a b = some (inR x a b) := by
  unfold fi_between inR
  by_cases h : a <= x <;> simp [h]
theorem m_in (x a b : Int) : fs_l01In x a b = some (inR x a b) := m_between x a b
def geoOk (g : DGeometry) : Bool := inR g.groups 1 2 && inR g.banks 1 4 && inR g.rows 2 16 && inR g.cols 1 8
theorem m_GeometryOk (g : DGeometry) : fi_GeometryOk g = some (geoOk g) := by
  unfold fi_GeometryOk geoOk
  simp only [m_between, bindS]
  cases inR g.groups 1 2 <;> cases inR g.banks 1 4 <;> cases inR g.rows 2 16 <;> rfl
theorem m_sGeometryOk (g : DGeometry) : fs_GeometryOk g = some (geoOk g) := by
  unfold fs_GeometryOk geoOk
  simp only [m_in, bindS]
  cases inR g.groups 1 2 <;> cases inR g.banks 1 4 <;> cases inR g.rows 2 16 <;> rfl
theorem geo_b {g : DGeometry} (h : geoOk g = true) : 1 <= g.groups /\ g.groups <= 2 /\ 1 <= g.banks /\ g.banks <= 4 /\ 2 <= g.rows /\ g.rows <= 16 /\ 1 <= g.cols /\ g.cols <= 8 := by
  simp only [geoOk, inR, Bool.and_eq_true, decide_eq_true_eq] at h
  omega
def banksN (g : DGeometry) : Int := bif geoOk g then g.groups * g.banks else 0
theorem banksN_b (g : DGeometry) : 0 <= banksN g /\ banksN g <= 8 := by
  unfold banksN
  cases h : geoOk g with
  | false => simp
  | true =>
    obtain ⟨h1, h2, h3, h4, _⟩ := geo_b h
    simp only [cond_true]
    rcases (by omega : g.groups = 1 \/ g.groups = 2) with e | e <;> rw [e] <;> omega
theorem banksN_pos {g : DGeometry} (h : geoOk g = true) : 1 <= banksN g := by
  obtain ⟨h1, h2, h3, h4, _⟩ := geo_b h
  simp only [banksN, h, cond_true]
  rcases (by omega : g.groups = 1 \/ g.groups = 2) with e | e <;> rw [e] <;> omega
theorem m_BankCount (g : DGeometry) : fi_BankCount g = some (banksN g) := by
  have hb := banksN_b g
  unfold fi_BankCount
  rw [m_GeometryOk, bindS]
  unfold banksN at hb ⊢
  cases h : geoOk g with
  | false => rfl
  | true =>
    rw [h] at hb
    simp only [cond_true] at hb
    simp only [Bool.not_true, cond_false, cond_true]
    rw [w64 (by omega) (by omega)]
theorem m_sBankCount (g : DGeometry) : fs_BankCount g = some (banksN g) := by
  have hb := banksN_b g
  unfold fs_BankCount
  rw [m_sGeometryOk, bindS]
  unfold banksN at hb ⊢
  cases h : geoOk g with
  | false => rfl
  | true =>
    rw [h] at hb
    simp only [cond_true] at hb
    simp only [Bool.not_true, cond_false, cond_true]
    rw [w64 (by omega) (by omega)]
/-- Rows of all banks; lines. -/
def rowsN (g : DGeometry) : Int := bif geoOk g then banksN g * g.rows else 0
def linesN (g : DGeometry) : Int := bif geoOk g then banksN g * g.rows * g.cols else 0
theorem mul_b {a b A B : Int} (h1 : 0 <= a) (h2 : a <= A) (h3 : 0 <= b) (h4 : b <= B) : 0 <= a * b /\ a * b <= A * B :=
  ⟨Int.mul_nonneg h1 h3, Int.le_trans (Int.mul_le_mul_of_nonneg_right h2 h3) (Int.mul_le_mul_of_nonneg_left h4 (by omega))⟩
theorem rowsN_b (g : DGeometry) : 0 <= rowsN g /\ rowsN g <= 128 := by
  unfold rowsN
  cases h : geoOk g with
  | false => simp
  | true =>
    obtain ⟨_, _, _, _, h5, h6, _⟩ := geo_b h
    have := banksN_b g
    exact mul_b this.1 this.2 (by omega) h6
theorem linesN_b (g : DGeometry) : 0 <= linesN g /\ linesN g <= 1024 := by
  have hr := rowsN_b g
  unfold linesN rowsN at *
  cases h : geoOk g with
  | false => simp
  | true =>
    rw [h] at hr
    obtain ⟨_, _, _, _, h5, h6, h7, h8⟩ := geo_b h
    exact mul_b hr.1 hr.2 (by omega) h8
theorem m_LineCount (g : DGeometry) : fi_LineCount g = some (linesN g) := by
  have h1 := linesN_b g
  have h2 := rowsN_b g
  unfold fi_LineCount
  rw [m_BankCount, bindS]
  unfold linesN rowsN at *
  cases h : geoOk g with
  | false => simp only [banksN, h, cond_false, Int.zero_mul]; rw [show IntKind.i64.wrap 0 = 0 from rfl, Int.zero_mul]; rfl
  | true =>
    rw [h] at h1 h2
    simp only [cond_true] at h1 h2
    simp only [cond_true]
    rw [w64 (n := banksN g * g.rows) (by omega) (by omega), w64 (by omega) (by omega)]
theorem m_sLineCount (g : DGeometry) : fs_LineCount g = some (linesN g) := by
  have h1 := linesN_b g
  have h2 := rowsN_b g
  unfold fs_LineCount
  rw [m_sGeometryOk, bindS, m_sBankCount, bindS]
  unfold linesN rowsN at *
  cases h : geoOk g with
  | false => rfl
  | true =>
    rw [h] at h1 h2
    simp only [cond_true] at h1 h2
    simp only [Bool.not_true, cond_true, cond_false]
    rw [w64 (n := banksN g * g.rows) (by omega) (by omega), w64 (by omega) (by omega)]
def addrOk (g : DGeometry) (a : DAddr) : Bool := geoOk g && inR a.bank 0 (banksN g - 1) && inR a.row 0 (g.rows - 1) && inR a.col 0 (g.cols - 1)
theorem m_AddrOk (g : DGeometry) (a : DAddr) : fi_AddrOk g a = some (addrOk g a) := by
  unfold fi_AddrOk addrOk
  simp only [m_GeometryOk, m_BankCount, m_between, bindS]
  have hb := banksN_b g
  cases h : geoOk g with
  | false => rfl
  | true =>
    obtain ⟨_, _, _, _, h5, h6, h7, h8⟩ := geo_b h
    rw [w64 (n := banksN g - 1) (by omega) (by omega), w64 (n := g.rows - 1) (by omega) (by omega), w64 (n := g.cols - 1) (by omega) (by omega)]
    cases inR a.bank 0 (banksN g - 1) <;> cases inR a.row 0 (g.rows - 1) <;> rfl
/-- A loop that goes through n turns: S gives the state at each. -/
theorem iter_run {α β : Type} {step : α -> Option (α ⊕ β)} (S : Nat -> α) {z : β} : ∀ (n i fuel : Nat), (∀ k, i <= k -> k < i + n -> step (S k) = some (.inl (S (k + 1)))) -> step (S (i + n)) = some (.inr z) -> n < fuel -> iter step fuel (S i) = some z
  | 0, i, fuel, _, hz, hf => by
    match fuel, hf with
    | f + 1, _ => unfold iter; rw [Nat.add_zero] at hz; rw [hz]
  | n + 1, i, fuel, hs, hz, hf => by
    match fuel, hf with
    | f + 1, hf =>
      unfold iter
      rw [hs i (Nat.le_refl _) (by omega)]
      exact iter_run S n (i + 1) f (fun k h1 h2 => hs k (by omega) (by omega)) (by rw [show i + 1 + n = i + (n + 1) by omega]; exact hz) (by omega)
theorem wrap_succ {i : Nat} (h : i < 4611686018427387904) : IntKind.i64.wrap ((i : Int) + 1) = ((i + 1 : Nat) : Int) := by
  rw [w64 (by omega) (by omega)]; simp
theorem and255 (y : Int) : 0 <= bits .and .i64 y 255 /\ bits .and .i64 y 255 <= 255 := by
  have e : bits .and .i64 y 255 = IntKind.i64.wrap ((BitVec.ofInt 64 y &&& BitVec.ofInt 64 255).toNat : Int) := rfl
  have h : (BitVec.ofInt 64 y &&& BitVec.ofInt 64 255).toNat <= 255 := by
    rw [BitVec.toNat_and]
    exact Nat.le_trans Nat.and_le_right (by decide)
  rw [e, IntKind.wrap_i64]
  omega
/-- A cursor over some bytes. -/
structure Cok (b : List Int) (c : DCur) : Prop where
  eq : c.b = b
  lo : 0 <= c.i
  hi : c.i <= b.length
  len : b.length <= 1073741823
theorem Cok.eta {b : List Int} {c : DCur} (h : Cok b c) : (⟨b, c.i, c.h⟩ : DCur) = c := by
  obtain ⟨b', i, h'⟩ := c
  have := h.eq
  simp only at this
  subst this
  rfl
/-- A draw gives a value of P, and the cursor goes on. -/
def Dr {α : Type} (b : List Int) (f : Option (α × (DCur × Unit))) (P : α -> Prop) : Prop := ∃ x c, f = some (x, (c, ())) /\ Cok b c /\ P x
theorem Dr.bind {α β : Type} {b : List Int} {f : Option (α × (DCur × Unit))} {g : α × (DCur × Unit) -> Option (β × (DCur × Unit))} {P : α -> Prop} {Q : β -> Prop} (h : Dr b f P) (hg : ∀ x c, P x -> Cok b c -> Dr b (g (x, (c, ()))) Q) : Dr b (f.bind g) Q := by
  obtain ⟨x, c, h1, h2, h3⟩ := h
  rw [h1]
  exact hg x c h3 h2
theorem Dr.pure {α : Type} {b : List Int} {x : α} {c : DCur} {P : α -> Prop} (hc : Cok b c) (hp : P x) : Dr b (some (x, (c, ()))) P := ⟨x, c, rfl, hc, hp⟩
/-- The same where the cursor is thrown away. -/
theorem Dr.last {α β : Type} {b : List Int} {f : Option (α × (DCur × Unit))} {g : α × (DCur × Unit) -> Option β} {P : α -> Prop} {Q : Option β -> Prop} (h : Dr b f P) (hg : ∀ x c, P x -> Cok b c -> Q (g (x, (c, ())))) : Q (f.bind g) := by
  obtain ⟨x, c, h1, h2, h3⟩ := h
  rw [h1]
  exact hg x c h3 h2
theorem p_new (l : List Int) (h : l.length <= 1073741823) : ∃ y, fs_l01New l = some y := by
  unfold fs_l01New
  obtain ⟨z, h1, h2⟩ := iter_ind (step := Lfs_l01New_0)
    (fun x => ∃ (i : Nat) (y : Int), x = (((), y, (i : Int), ()), (l, ())) /\ i <= l.length)
    (fun x => l.length - x.1.2.2.1.toNat) (fun z => ∃ y, (Sum.elim (fun z3 : ((Unit × Int × Unit) × ((List Int) × Unit)) => some z3.1.2.1) (fun z => nomatch z)) z = some y) (by
      rintro x ⟨i, y, rfl, hi⟩
      unfold Lfs_l01New_0
      dsimp only
      by_cases h' : i < l.length
      · have c1 : decide ((i : Int) < (l.length : Int)) = true := by simpa using h'
        have c2 : 0 <= (i : Int) /\ (i : Int).toNat < l.length := ⟨by omega, by simpa using h'⟩
        rw [c1, cond_true]
        cases h4 : decide ((i : Int) < 4000) with
        | true =>
          rw [cond_true, dif_pos c2]
          left
          refine ⟨_, rfl, ⟨i + 1, _, by rw [wrap_succ (by omega)], by omega⟩, ?_⟩
          dsimp only
          rw [wrap_succ (by omega)]
          omega
        | false =>
          rw [cond_false]
          right
          exact ⟨_, rfl, _, rfl⟩
      · have c1 : decide ((i : Int) < (l.length : Int)) = false := by simpa using h'
        rw [c1, cond_false]
        right
        exact ⟨_, rfl, _, rfl⟩)
    big (((), (IntKind.i64.wrap ((97301 : Int) + (l.length : Int))), ((0 : Nat) : Int), ()), (l, ())) ⟨0, _, rfl, by omega⟩ (by dsimp only; unfold big; omega)
  have h1 : iter Lfs_l01New_0 big (((), (IntKind.i64.wrap ((97301 : Int) + (l.length : Int))), (0 : Int), ()), (l, ())) = some z := h1
  rw [h1]
  exact h2
theorem new_cok (l : List Int) (y : Int) (h : l.length <= 1073741823) : Cok l ⟨l, 0, y⟩ := ⟨rfl, Int.le_refl _, by simp, h⟩
theorem p_byte {b : List Int} {c : DCur} (hc : Cok b c) : Dr b (fs_l01Byte c) fun x => 0 <= x /\ x <= 255 := by
  have hb := hc.eq
  have h1 := hc.lo
  have h2 := hc.hi
  have h3 := hc.len
  unfold fs_l01Byte
  by_cases h : c.i < (c.b.length : Int)
  · have c1 : decide (c.i < (c.b.length : Int)) = true := by simpa using h
    rw [c1, cond_true, dif_pos ⟨h1, by omega⟩]
    refine Dr.pure ⟨hb, ?_, ?_, h3⟩ (and255 _)
    · show 0 <= IntKind.i64.wrap (c.i + 1)
      rw [hb] at h
      rw [w64 (by omega) (by omega)]; omega
    · show IntKind.i64.wrap (c.i + 1) <= _
      rw [hb] at h
      rw [w64 (by omega) (by omega)]; omega
  · have c1 : decide (c.i < (c.b.length : Int)) = false := by simpa using h
    rw [c1, cond_false]
    exact Dr.pure ⟨hb, h1, h2, h3⟩ (and255 _)
theorem tmod_bd {x n : Int} (h : 0 <= x) (hn : 0 < n) : 0 <= x.tmod n /\ x.tmod n < n := by
  rw [Int.tmod_eq_emod_of_nonneg h]
  exact ⟨Int.emod_nonneg _ (by omega), Int.emod_lt_of_pos _ hn⟩
theorem p_below {b : List Int} {c : DCur} (hc : Cok b c) (n : Int) : Dr b (fs_l01Below c n) fun x => 0 <= x /\ (n <= 0 -> x = 0) /\ (0 < n -> x < n) := by
  unfold fs_l01Below
  by_cases h0 : n <= 0
  · have c1 : decide (n <= 0) = true := by simpa using h0
    rw [c1, cond_true]
    exact Dr.pure hc ⟨Int.le_refl _, fun _ => rfl, fun h => by omega⟩
  · have c1 : decide (n <= 0) = false := by simpa using h0
    have hn : ¬ n = 0 := by omega
    rw [c1, cond_false]
    by_cases h1 : n <= 256
    · have c2 : decide (n <= 256) = true := by simpa using h1
      rw [c2, cond_true]
      refine (p_byte hc).bind fun x c' hx hc' => ?_
      rw [if_neg hn]
      dsimp only
      rw [hc.eq, hc'.eta]
      have := tmod_bd hx.1 (show 0 < n by omega)
      exact Dr.pure hc' ⟨this.1, fun h => by omega, fun _ => this.2⟩
    · have c2 : decide (n <= 256) = false := by simpa using h1
      rw [c2, cond_false, hc.eq]
      refine (p_byte hc).bind fun x1 k1 hx1 hk1 => ?_
      dsimp only
      rw [hk1.eta]
      refine (p_byte hk1).bind fun x2 k2 hx2 hk2 => ?_
      dsimp only
      rw [hk2.eta]
      refine (p_byte hk2).bind fun x3 k3 hx3 hk3 => ?_
      dsimp only
      rw [hk3.eta]
      refine (p_byte hk3).bind fun x4 k4 hx4 hk4 => ?_
      rw [if_neg hn]
      dsimp only
      rw [hk4.eta]
      rw [w64 (n := x1 * 16777216) (by omega) (by omega), w64 (n := x2 * 65536) (by omega) (by omega), w64 (n := x1 * 16777216 + x2 * 65536) (by omega) (by omega), w64 (n := x3 * 256) (by omega) (by omega), w64 (n := x1 * 16777216 + x2 * 65536 + x3 * 256) (by omega) (by omega), w64 (n := x1 * 16777216 + x2 * 65536 + x3 * 256 + x4) (by omega) (by omega)]
      have := tmod_bd (x := x1 * 16777216 + x2 * 65536 + x3 * 256 + x4) (by omega) (show 0 < n by omega)
      exact Dr.pure hk4 ⟨this.1, fun h => by omega, fun _ => this.2⟩
theorem p_places (l : List Int) (h : l.length <= 1073741823) : ∃ y, fs_DrawPlaces l = some y /\ y.length = 12 /\ ∀ x ∈ y, 0 <= x /\ x < 10000 := by
  unfold fs_DrawPlaces
  obtain ⟨h0, e0⟩ := p_new l h
  rw [e0]
  obtain ⟨z, h1, h2⟩ := iter_ind (step := Lfs_DrawPlaces_0)
    (fun x => ∃ (i : Nat) (c : DCur) (y : List Int), x = (((), (), (i : Int), ()), ((l, c.i, c.h, ()), y, ())) /\ i <= 12 /\ Cok l c /\ y.length = i /\ ∀ x ∈ y, 0 <= x /\ x < 10000)
    (fun x => 12 - x.1.2.2.1.toNat) (fun z => ∃ y, (Sum.elim (fun z3 : ((Unit × Unit) × ((List Int) × Unit)) => some z3.2.1) (fun z => nomatch z)) z = some y /\ y.length = 12 /\ ∀ x ∈ y, 0 <= x /\ x < 10000) (by
      rintro x ⟨i, c, y, rfl, hi, hc, hy, hx⟩
      unfold Lfs_DrawPlaces_0
      dsimp only
      by_cases h' : i < 12
      · have c1 : decide ((i : Int) < (12 : Int)) = true := decide_eq_true (by omega)
        rw [c1, cond_true, hc.eta]
        left
        obtain ⟨x, c', e1, hc', hx0, _, hx1⟩ := p_below hc 10000
        rw [e1]
        have ho : okLen (y.length + ([x] : List Int).length) = true := by
          unfold okLen; simp; omega
        refine ⟨(((), (), IntKind.i64.wrap ((i : Int) + 1), ()), ((l, c'.i, c'.h, ()), (y ++ [x]), ())), ?_, ⟨i + 1, c', y ++ [x], by rw [wrap_succ (by omega)], by omega, hc', by simp [hy], fun u hu => ?_⟩, ?_⟩
        · show (bif okLen (y.length + ([x] : List Int).length) then _ else none) = _
          rw [ho]; rfl
        · rcases List.mem_append.1 hu with hu | hu
          · exact hx u hu
          · rw [List.mem_singleton.1 hu]; exact ⟨hx0, hx1 (by omega)⟩
        · dsimp only
          rw [wrap_succ (by omega)]
          omega
      · have c1 : decide ((i : Int) < (12 : Int)) = false := decide_eq_false (by omega)
        rw [c1, cond_false]
        right
        exact ⟨_, rfl, y, rfl, by omega, hx⟩)
    big (((), (), ((0 : Nat) : Int), ()), ((l, 0, h0, ()), ([] : List Int), ())) ⟨0, ⟨l, 0, h0⟩, [], rfl, by omega, new_cok l h0 h, rfl, by simp⟩ (by dsimp only; unfold big; omega)
  have h1 : iter Lfs_DrawPlaces_0 big (((), (), (0 : Int), ()), ((l, (0 : Int), h0, ()), ([] : List Int), ())) = some z := h1
  rw [bindS, h1]
  exact h2
/-- The places of the open banks. -/
def opens : Nat -> List DBank -> List Int
  | _, [] => []
  | i, b :: bs => bif b.open_ then (i : Int) :: opens (i + 1) bs else opens (i + 1) bs
theorem opens_append (i : Nat) (a b : List DBank) : opens i (a ++ b) = opens i a ++ opens (i + a.length) b := by
  induction a generalizing i with
  | nil => simp [opens]
  | cons x a ih =>
    simp only [List.cons_append, opens, List.length_cons]
    rw [ih, show i + 1 + a.length = i + (a.length + 1) by omega]
    cases x.open_ <;> rfl
theorem opens_len (i : Nat) (l : List DBank) : (opens i l).length <= l.length := by
  induction l generalizing i with
  | nil => simp [opens]
  | cons x a ih =>
    have := ih (i + 1)
    simp only [opens]
    cases x.open_ <;> simp <;> omega
theorem take_succ_get {α : Type} {l : List α} {i : Nat} (h : i < l.length) : l.take (i + 1) = l.take i ++ [l[i]] := by
  rw [List.take_succ_eq_append_getElem h]
theorem p_OpenBanks (r : DRank) (h : r.banks.length < 1073741823) : fi_OpenBanks r = some (opens 0 r.banks) := by
  unfold fi_OpenBanks
  have e := iter_run (step := Lfi_OpenBanks_0) (fun i => (((), r.banks, (r.banks.length : Int), (i : Int), ()), (opens 0 (r.banks.take i), ()))) (z := .inl (((), ()), (opens 0 r.banks, ()))) r.banks.length 0 big (fun k _ hk => ?_) ?_ (by unfold big; omega)
  · have e : iter Lfi_OpenBanks_0 big (((), r.banks, (r.banks.length : Int), (0 : Int), ()), (([] : List Int), ())) = _ := e
    rw [e]; rfl
  · have hk : k < r.banks.length := by omega
    unfold Lfi_OpenBanks_0
    dsimp only
    have c1 : decide ((k : Int) < (r.banks.length : Int)) = true := decide_eq_true (by omega)
    have c2 : 0 <= (k : Int) /\ (k : Int).toNat < r.banks.length := ⟨by omega, by simpa using hk⟩
    have hl := opens_len 0 (r.banks.take k)
    rw [List.length_take] at hl
    have c3 : okLen ((opens 0 (r.banks.take k)).length + ([(k : Int)] : List Int).length) = true := by
      unfold okLen; refine decide_eq_true ?_; simp; omega
    rw [c1, cond_true, dif_pos c2, wrap_succ (by omega), take_succ_get hk, opens_append]
    simp only [Int.toNat_natCast, opens, List.length_take, Nat.zero_add, Nat.min_eq_left (Nat.le_of_lt hk)]
    cases r.banks[k].open_ with
    | true => rw [cond_true, c3]; rfl
    | false => rw [cond_false, cond_false, List.append_nil]
  · rw [Nat.zero_add]
    unfold Lfi_OpenBanks_0
    dsimp only
    have c1 : decide ((r.banks.length : Int) < (r.banks.length : Int)) = false := decide_eq_false (by omega)
    rw [c1, cond_false, List.take_length]
def symB (s : Int) : Bool := inR s 0 15
def symsOk (l : List Int) (n : Int) : Bool := l.all symB && decide ((l.length : Int) = n)
theorem m_SymbolsOk (l : List Int) (n : Int) (hl : l.length < 1073741824) : fi_SymbolsOk l n = some (symsOk l n) := by
  unfold fi_SymbolsOk symsOk
  have e := iter_all (step := Lfi_SymbolsOk_0) l symB (fun i => ((l, n, l, (l.length : Int), (i : Int), ()), ())) (.inl ((false, ()), ())) (.inr (.inl ((l, n, ()), ()))) big (fun k h => by
    unfold Lfi_SymbolsOk_0 fi_isElement
    simp (disch := omega) [h, wrapS, m_between, symB]
    cases inR l[k] 0 15 <;> rfl) (by unfold Lfi_SymbolsOk_0; simp) (bigLt hl)
  rw [Int.natCast_zero] at e
  rw [e]
  cases l.all symB <;> simp
  rfl
def cellB (c : DCell) : Bool := symsOk c.symbols 11
def ageB (p : Int × Int) : Bool := inR p.1 0 100000 && inR p.2 0 100000
def arrOk (g : DGeometry) (a : DArray) : Bool := geoOk g && (decide ((a.cells.length : Int) = linesN g) && (decide ((a.age.length : Int) = rowsN g) && (decide ((a.hits.length : Int) = rowsN g) && (a.cells.all cellB && (a.age.zip a.hits).all ageB))))
theorem m_ArrayOk (g : DGeometry) (a : DArray) (h4 : ∀ c ∈ a.cells, c.symbols.length < 1073741824) : fi_ArrayOk g a = some (arrOk g a) := by
  unfold fi_ArrayOk arrOk
  rw [m_BankCount, bindS, m_GeometryOk, bindS, m_LineCount]
  cases hg : geoOk g with
  | false => rfl
  | true =>
    have b1 := linesN_b g
    have b2 := rowsN_b g
    have er : banksN g * g.rows = rowsN g := by simp [rowsN, hg]
    simp only [Bool.not_true, cond_false, bindS, Bool.true_and, er]
    rw [w64 (by omega) (by omega)]
    by_cases e1 : (a.cells.length : Int) = linesN g
    · by_cases e2 : (a.age.length : Int) = rowsN g
      · by_cases e3 : (a.hits.length : Int) = rowsN g
        · have hl : a.age.length = a.hits.length := by omega
          have l1 := iter_all (step := Lfi_ArrayOk_0) a.cells cellB (fun i => (((), a.cells, (a.cells.length : Int), (i : Int), ()), ((a.cells, a.age, a.hits, ()), ()))) (.inl ((false, ()), ())) (.inr (.inl (((), ()), ((a.cells, a.age, a.hits, ()), ())))) big (fun k h => by
            unfold Lfi_ArrayOk_0
            simp (disch := omega) [h, wrapS, m_SymbolsOk _ 11 (h4 _ (List.getElem_mem h)), cellB]
            cases symsOk a.cells[k].symbols 11 <;> rfl) (by unfold Lfi_ArrayOk_0; simp) (bigLt (by omega))
          have l2 := iter_all (step := Lfi_ArrayOk_2) (a.age.zip a.hits) ageB (fun i => (((), (a.age.length : Int), (i : Int), ()), ((a.cells, a.age, a.hits, ()), ()))) (.inl ((false, ()), ())) (.inr (.inl ((), ()))) big (fun k h => by
            have h' : k < a.age.length := by simp at h; omega
            have h'' : k < a.hits.length := by omega
            unfold Lfi_ArrayOk_2
            simp (disch := omega) [h', h'', wrapS, m_between, ageB]
            cases inR a.age[k] 0 100000 <;> cases inR a.hits[k] 0 100000 <;> rfl) (by unfold Lfi_ArrayOk_2; simp [hl]) (bigLt (by simp; omega))
          rw [Int.natCast_zero] at l1 l2
          simp only [e1, e2, e3, bne_self_eq_false, cond_false, decide_true, Bool.true_and]
          rw [<- e1, l1]
          cases h1 : a.cells.all cellB with
          | false => simp
          | true =>
            simp only [cond_true, Option.bind_some, Sum.elim_inr, Sum.elim_inl]
            rw [l2]
            cases (a.age.zip a.hits).all ageB <;> simp
        · simp [e1, e2, neI e3, e3]
      · simp [e1, neI e2, e2]
    · simp [neI e1, e1]
theorem p_pick {b : List Int} {c : DCur} (hc : Cok b c) (l : List Int) (hl : 0 < l.length) : Dr b (fs_l01PickInt c l) fun x => x ∈ l := by
  unfold fs_l01PickInt
  rw [hc.eq]
  refine (p_below hc _).bind fun x1 k1 hx1 hk1 => ?_
  have a1 := hx1.2.2 (by omega)
  rw [dif_pos ⟨hx1.1, by dsimp only; omega⟩]
  dsimp only
  rw [hk1.eta]
  exact Dr.pure hk1 (List.getElem_mem _)
theorem p_once {b : List Int} {c : DCur} (hc : Cok b c) (n : Int) : Dr b (fs_l01Once c n) fun _ => True := by
  unfold fs_l01Once
  rw [hc.eq]
  refine (p_below hc _).bind fun x1 k1 hx1 hk1 => ?_
  dsimp only
  rw [hk1.eta]
  exact Dr.pure hk1 trivial
theorem eta_g (g : DGeometry) : (⟨g.groups, g.banks, g.rows, g.cols⟩ : DGeometry) = g := rfl
def goneB (l : DLimits) (a : DArray) (i : Nat) : Bool := decide (a.age.getD i 0 > l.age) || decide (a.hits.getD i 0 > l.hits)
def timL (t : DTiming) : List Int := [t.rcd, t.rp, t.ras, t.rrds, t.rrdl, t.faw, t.ccds, t.ccdl, t.rtp, t.wr, t.wtrs, t.wtrl, t.rtw, t.rfc, t.cke, t.xp, t.xs]
def timB (x : Int) : Bool := inR x 1 64
def timOk (t : DTiming) : Bool := (timL t).all timB && (decide (t.rcd <= t.ras) && (decide (t.rrds <= t.rrdl) && (decide (t.ccds <= t.ccdl) && decide (t.wtrs <= t.wtrl))))
theorem m_TimingOk (t : DTiming) : fi_TimingOk t = some (timOk t) := by
  unfold fi_TimingOk timOk
  change (iter Lfi_TimingOk_0 big (((), (), ((timL t).length : Int), (0 : Int), ()), (t, timL t, ()))).bind _ = _
  have h17 : (timL t).length = 17 := rfl
  generalize timL t = l at *
  have e := iter_all (step := Lfi_TimingOk_0) l timB (fun i => (((), (), (l.length : Int), (i : Int), ()), (t, l, ()))) (.inl ((false, ()), ())) (.inr (.inl (((), ()), (t, ())))) big (fun k h => by
    unfold Lfi_TimingOk_0
    simp (disch := omega) [h, wrapS, m_between, timB]
    cases inR l[k] 1 64 <;> rfl) (by unfold Lfi_TimingOk_0; simp) (bigLt (by omega))
  rw [Int.natCast_zero] at e
  rw [e]
  cases l.all timB <;> simp
  cases decide (t.rcd <= t.ras) <;> cases decide (t.rrds <= t.rrdl) <;> cases decide (t.ccds <= t.ccdl) <;> rfl
theorem t_IntervalNeed (t : DTiming) : ∃ y, fi_IntervalNeed t = some y := by
  unfold fi_IntervalNeed
  rw [m_TimingOk, bindS]
  cases timOk t <;> exact ⟨_, rfl⟩
/-- The rows of all banks as they lie at first. -/
def spareRow (R i : Nat) : Int := ((i % R : Nat) : Int)
def spareMap (n R : Nat) : List Int := (List.range n).map (spareRow R)
theorem spareMap_len (n R : Nat) : (spareMap n R).length = n := by simp [spareMap]
def spareB (g : DGeometry) (n : Int) : Bool := geoOk g && (inR n 0 2 && decide (2 <= g.rows - n))
def spareNew (g : DGeometry) (n : Int) : DSpare × Bool := bif spareB g n then (⟨n, spareMap ((banksN g).toNat * (g.rows - n).toNat) (g.rows - n).toNat⟩, true) else (⟨0, []⟩, false)
theorem spareB_b {g : DGeometry} {n : Int} (h : spareB g n = true) : geoOk g = true /\ 0 <= n /\ n <= 2 /\ 2 <= g.rows - n /\ g.rows <= 16 := by
  simp only [spareB, Bool.and_eq_true, inR_iff, decide_eq_true_eq] at h
  obtain ⟨h1, ⟨h2, h3⟩, h4⟩ := h
  have := geo_b h1
  exact ⟨h1, h2, h3, h4, by omega⟩
theorem spareMap_add (b R : Nat) (hR : 0 < R) (j : Nat) (hj : j <= R) : spareMap (b * R + j) R = spareMap (b * R) R ++ (List.range j).map (fun i : Nat => (i : Int)) := by
  unfold spareMap
  rw [List.range_add, List.map_append, List.map_map]
  congr 1
  refine List.map_congr_left fun i hi => ?_
  have hi : i < j := List.mem_range.1 hi
  simp only [Function.comp, spareRow]
  rw [Nat.mul_comm, Nat.mul_add_mod, Nat.mod_eq_of_lt (by omega)]
theorem m_SpareNew (g : DGeometry) (n : Int) : fi_SpareNew g n = some (spareNew g n) := by
  unfold fi_SpareNew spareNew
  rw [m_GeometryOk, bindS]
  cases hg : geoOk g with
  | false => simp [spareB, hg]
  | true =>
    simp only [Bool.not_true, cond_false, m_between, bindS]
    cases hn : inR n 0 2 with
    | false => simp [spareB, hn]
    | true =>
      have hn' := inR_iff.1 hn
      have gb := geo_b hg
      simp only [Bool.not_true, cond_false]
      rw [w64 (by omega) (by omega)]
      by_cases hr : g.rows - n < 2
      · have : decide (2 <= g.rows - n) = false := decide_eq_false (by omega)
        rw [decide_eq_true hr, cond_true]
        simp [spareB, this]
      · have hs : spareB g n = true := by simp [spareB, hg, hn]; omega
        rw [decide_eq_false hr, cond_false, hs, cond_true]
        have b1 := banksN_b g
        obtain ⟨bn, hb⟩ := Int.eq_ofNat_of_zero_le b1.1
        obtain ⟨R, hR⟩ := Int.eq_ofNat_of_zero_le (show 0 <= g.rows - n by omega)
        have hw : IntKind.i64.wrap (g.rows - n) = (R : Int) := by rw [hR]; exact w64 (by omega) (by omega)
        have inner : ∀ b : Nat, b < bn -> iter Lfi_SpareNew_2 big ((n, (), (), (), (b : Int), (0 : Int), ()), ((g.groups, g.banks, g.rows, g.cols, ()), ((0 : Int), (), ()), (n, (), ()), ([] : List Int), spareMap (b * R) R, ())) = some (.inl ((n, (), (), (), (b : Int), ()), ((g.groups, g.banks, g.rows, g.cols, ()), ((0 : Int), (), ()), (n, (), ()), ([] : List Int), spareMap ((b + 1) * R) R, ()))) := by
          intro b hbn
          have hm : b * R <= 8 * 16 := Nat.mul_le_mul (by omega) (by omega)
          have e := iter_to (step := Lfi_SpareNew_2) R (fun j => ((n, (), (), (), (b : Int), (j : Int), ()), ((g.groups, g.banks, g.rows, g.cols, ()), ((0 : Int), (), ()), (n, (), ()), ([] : List Int), spareMap (b * R) R ++ (List.range j).map (fun i : Nat => (i : Int)), ())))
            (.inl ((n, (), (), (), (b : Int), ()), ((g.groups, g.banks, g.rows, g.cols, ()), ((0 : Int), (), ()), (n, (), ()), ([] : List Int), spareMap (b * R) R ++ (List.range R).map (fun i : Nat => (i : Int)), ()))) big (fun k h => by
            unfold Lfi_SpareNew_2
            have ho : okLen ((spareMap (b * R) R ++ (List.range k).map (fun i : Nat => (i : Int))).length + 1) = true := okLen_t (by simp [spareMap_len]; omega)
            dsimp only
            rw [hw, decide_eq_true (by omega), cond_true]
            simp only [List.length_cons, List.length_nil, Nat.zero_add]
            rw [ho, cond_true, wrapS (by omega), List.range_succ, List.map_append, List.append_assoc]
            rfl) (by
            unfold Lfi_SpareNew_2
            dsimp only
            rw [hw, decide_eq_false (by omega), cond_false]) (bigLt (by omega))
          rw [Int.natCast_zero, List.range_zero, List.map_nil, List.append_nil] at e
          rw [e, <- spareMap_add b R (by omega) R (Nat.le_refl _), Nat.succ_mul]
        have e := iter_to (step := Lfi_SpareNew_0) bn (fun i => ((n, (), (), (), (i : Int), ()), ((g.groups, g.banks, g.rows, g.cols, ()), ((0 : Int), (), ()), (n, (), ()), ([] : List Int), spareMap (i * R) R, ())))
          (.inl (((), (), ()), (((0 : Int), (), ()), (n, (), ()), ([] : List Int), spareMap (bn * R) R, ()))) big (fun k h => by
          unfold Lfi_SpareNew_0
          dsimp only
          rw [eta_g, m_BankCount, bindS, hb, decide_eq_true (by omega), cond_true]
          refine (congrArg (fun o => Option.bind o _) (inner k h)).trans ?_
          rw [bindS]
          simp only [Sum.elim_inl]
          rw [wrapS (by omega)]) (by
          unfold Lfi_SpareNew_0
          dsimp only
          rw [eta_g, m_BankCount, bindS, hb, decide_eq_false (by omega), cond_false]) (bigLt (by omega))
        rw [Int.natCast_zero, Nat.zero_mul] at e
        refine (congrArg (fun o => Option.bind o _) e).trans ?_
        rw [hb, hR]
        rfl
def needN (t : DTiming) : Int := (fi_IntervalNeed t).getD 0
theorem m_IntervalNeed (t : DTiming) : fi_IntervalNeed t = some (needN t) := by
  obtain ⟨y, e⟩ := t_IntervalNeed t
  unfold needN
  rw [e]
  rfl
theorem m_MappingOk (m : DMapping) : fi_MappingOk m = some (inR m.order 0 2) := by
  unfold fi_MappingOk
  rw [m_between]
  rfl
def cfgOk (c : DConfig) : Bool := geoOk c.geometry && (timOk c.timing && (inR c.mapping.order 0 2 && (spareB c.geometry c.spares && (inR c.interval (needN c.timing) 10000 && (inR c.track 1 16 && (inR c.limits.age (IntKind.i64.wrap ((6 : Int) * c.interval)) 100000 && inR c.limits.hits 0 100000))))))
theorem spareNew_snd (g : DGeometry) (n : Int) : (spareNew g n).2 = spareB g n := by
  unfold spareNew
  cases spareB g n <;> rfl
theorem m_ConfigOk (c : DConfig) : fi_ConfigOk c = some (cfgOk c) := by
  unfold fi_ConfigOk cfgOk
  simp only [m_SpareNew, m_GeometryOk, m_TimingOk, m_MappingOk, m_IntervalNeed, m_between, bindS, spareNew_snd]
  cases geoOk c.geometry <;> cases timOk c.timing <;> cases inR c.mapping.order 0 2 <;> cases spareB c.geometry c.spares <;> cases inR c.interval (needN c.timing) 10000 <;> cases inR c.track 1 16 <;> cases inR c.limits.age (IntKind.i64.wrap ((6 : Int) * c.interval)) 100000 <;> rfl
theorem cfg_b {c : DConfig} (h : cfgOk c = true) : geoOk c.geometry = true /\ timOk c.timing = true /\ spareB c.geometry c.spares = true /\ inR c.track 1 16 = true := by
  simp only [cfgOk, Bool.and_eq_true] at h
  exact ⟨h.1, h.2.1, h.2.2.2.1, h.2.2.2.2.2.1⟩
theorem tim_b {t : DTiming} (h : timOk t = true) : (1 <= t.ras /\ t.ras <= 64) /\ 1 <= t.rp /\ t.rp <= 64 := by
  simp only [timOk, Bool.and_eq_true, List.all_eq_true] at h
  have h1 := h.1 t.ras (by simp [timL])
  have h2 := h.1 t.rp (by simp [timL])
  simp only [timB, inR_iff] at h1 h2
  exact ⟨h1, h2⟩
def shareB (s : DShare) : Bool := inR s.weight 1 9 && inR s.credit 0 s.weight
def sharesOk (l : List DShare) : Bool := l.all shareB && inR (l.length : Int) 1 4
theorem m_SharesOk (l : List DShare) (hl : l.length < 1073741824) : fi_SharesOk l = some (sharesOk l) := by
  unfold fi_SharesOk sharesOk
  have e := iter_all (step := Lfi_SharesOk_0) l shareB (fun i => ((l, l, (l.length : Int), (i : Int), ()), ())) (.inl ((false, ()), ())) (.inr (.inl ((l, ()), ()))) big (fun k h => by
    unfold Lfi_SharesOk_0
    simp (disch := omega) [h, wrapS, m_between, shareB]
    cases inR l[k].weight 1 9 <;> cases inR l[k].credit 0 l[k].weight <;> rfl) (by unfold Lfi_SharesOk_0; simp) (bigLt hl)
  rw [Int.natCast_zero] at e
  rw [e]
  cases l.all shareB <;> simp [m_between]
def shareOf (w : Int) : DShare := ⟨w, w⟩
def sharesNew (l : List Int) : List DShare × Bool := bif sharesOk (l.map shareOf) then (l.map shareOf, true) else ([], false)
theorem take_map_succ {l : List Int} {k : Nat} (h : k < l.length) : (l.take (k + 1)).map shareOf = (l.take k).map shareOf ++ [⟨l[k], l[k]⟩] := by
  rw [List.take_succ_eq_append_getElem h, List.map_append]
  rfl
theorem m_SharesNew (l : List Int) (hl : l.length < 1073741823) : fi_SharesNew l = some (sharesNew l) := by
  unfold fi_SharesNew sharesNew
  have e := iter_to (step := Lfi_SharesNew_0) l.length (fun i => (((), l, (l.length : Int), (i : Int), ()), ((l.take i).map shareOf, ()))) (.inl (((), ()), (l.map shareOf, ()))) big (fun k h => by
    unfold Lfi_SharesNew_0
    have ho : okLen (((l.take k).map shareOf).length + 1) = true := okLen_t (by simp; omega)
    dsimp only
    rw [decide_eq_true (by omega), cond_true, dif_pos ⟨by omega, by omega⟩]
    simp only [List.length_cons, List.length_nil, Nat.zero_add, Int.toNat_natCast]
    rw [ho, cond_true, wrapS (by omega), take_map_succ h]) (by
    unfold Lfi_SharesNew_0
    dsimp only
    rw [decide_eq_false (by omega), cond_false, List.take_length]) (bigLt (by omega))
  rw [Int.natCast_zero, List.take_zero, List.map_nil] at e
  refine (congrArg (fun o => Option.bind o _) e).trans ?_
  rw [bindS]
  simp only [Sum.elim_inl]
  rw [m_SharesOk _ (by simp; omega), bindS]
  cases sharesOk (l.map shareOf) <;> rfl
theorem sharesNew_snd (l : List Int) : (sharesNew l).2 = sharesOk (l.map shareOf) := by
  unfold sharesNew
  cases sharesOk (l.map shareOf) <;> rfl
def drainOk (d : DDrain) : Bool := decide (d.low >= 0) && (decide (d.low < d.high) && decide (d.high <= 12))
theorem m_DrainOk (d : DDrain) : fi_DrainOk d = some (drainOk d) := by
  unfold fi_DrainOk drainOk
  cases decide (d.low >= 0) <;> cases decide (d.low < d.high) <;> rfl
def ruleOk (r : DPowerRule) : Bool := inR r.down 1 10000 && (decide (r.sleep > r.down) && decide (r.sleep <= 20000))
theorem m_PowerRuleOk (r : DPowerRule) : fi_PowerRuleOk r = some (ruleOk r) := by
  unfold fi_PowerRuleOk ruleOk
  rw [m_between, bindS]
  cases inR r.down 1 10000 <;> cases decide (r.sleep > r.down) <;> rfl
def polOk (p : DPolicy) : Bool := inR p.page 0 1 && (inR p.cap 0 100000 && (inR p.limit 3 1000 && (drainOk ⟨false, p.low, p.high⟩ && ((p.weights.length : Int) == 4 && (sharesOk (p.weights.map shareOf) && ruleOk p.rule)))))
theorem inR01 (x : Int) : inR x 0 1 = (x == 0 || x == 1) := by
  rw [Bool.eq_iff_iff]
  simp [inR]
  omega
theorem m_PolicyOk (p : DPolicy) (hl : p.weights.length < 1073741823) : fi_PolicyOk p = some (polOk p) := by
  unfold fi_PolicyOk polOk
  simp only [m_SharesNew _ hl, bindS, m_between, m_DrainOk, m_PowerRuleOk, sharesNew_snd, inR01]
  cases (p.page == 0) <;> cases (p.page == 1) <;> cases inR p.cap 0 100000 <;> cases inR p.limit 3 1000 <;> cases drainOk ⟨false, p.low, p.high⟩ <;> cases ((p.weights.length : Int) == 4) <;> cases sharesOk (p.weights.map shareOf) <;> rfl
theorem t_GuardBound (x : Int) : ∃ y, fi_GuardBound x = some y := by
  unfold fi_GuardBound
  rw [m_between, bindS]
  cases inR x 3 1000 <;> exact ⟨_, rfl⟩
theorem t_PolicyFits (c : DConfig) (p : DPolicy) (hl : p.weights.length < 1073741823) : ∃ b, fi_PolicyFits c p = some b /\ (b = true -> cfgOk c = true) := by
  unfold fi_PolicyFits
  obtain ⟨y, e⟩ := t_GuardBound p.limit
  simp only [m_ConfigOk, m_PolicyOk _ hl, e, bindS]
  cases hc : cfgOk c with
  | false => exact ⟨false, rfl, fun h => by cases h⟩
  | true =>
    have ht := tim_b (cfg_b hc).2.1
    have hn : ¬ IntKind.i64.wrap (c.timing.ras + c.timing.rp) = 0 := by
      rw [w64 (by omega) (by omega)]
      omega
    cases polOk p with
    | false => exact ⟨false, rfl, fun _ => rfl⟩
    | true =>
      simp only [if_neg hn, Bool.not_true, cond_false, cond_true]
      cases decide (IntKind.i64.wrap (y + 2) <= c.limits.hits) <;> exact ⟨_, rfl, fun _ => by first | rfl | trivial⟩
theorem opens_nil (i : Nat) (l : List DBank) : ((opens i l).length == 0) = l.all fun b => !b.open_ := by
  induction l generalizing i with
  | nil => rfl
  | cons x a ih =>
    simp only [opens, List.all_cons]
    cases x.open_ with
    | true => simp
    | false => simpa using ih (i + 1)
def bankB (g : DGeometry) (b : DBank) : Bool := inR b.row 0 (g.rows - 1) && (b.open_ || b.row == 0)
def rankOk (g : DGeometry) (r : DRank) : Bool := geoOk g && (((r.banks.length : Int) == banksN g) && (inR r.power 0 2 && (r.banks.all (bankB g) && (r.power != 2 || r.banks.all fun b => !b.open_))))
theorem m_RankOk (g : DGeometry) (r : DRank) : fi_RankOk g r = some (rankOk g r) := by
  unfold fi_RankOk rankOk
  rw [m_GeometryOk, bindS, m_BankCount]
  cases hg : geoOk g with
  | false => rfl
  | true =>
    simp only [Bool.not_true, cond_false, bindS, Bool.true_and]
    by_cases e1 : (r.banks.length : Int) = banksN g
    · have b1 := banksN_b g
      have gb := geo_b hg
      simp only [e1, bne_self_eq_false, cond_false, beq_self_eq_true, Bool.true_and, m_between, bindS]
      cases hp : inR r.power 0 2 with
      | false => rfl
      | true =>
        have e := iter_all (step := Lfi_RankOk_0) r.banks (bankB g) (fun i => (((), (), r.banks, (r.banks.length : Int), (i : Int), ()), ((g.groups, g.banks, g.rows, g.cols, ()), (r.banks, r.power, ()), ()))) (.inl ((false, ()), ())) (.inr (.inl (((), ()), ((r.banks, r.power, ()), ())))) big (fun k h => by
          unfold Lfi_RankOk_0
          dsimp only
          rw [decide_eq_true (by omega), cond_true, dif_pos ⟨by omega, by omega⟩]
          simp only [Int.toNat_natCast, m_between, bindS]
          rw [w64 (n := g.rows - 1) (by omega) (by omega), wrapS (by omega)]
          unfold bankB
          cases inR r.banks[k].row 0 (g.rows - 1) with
          | false => rfl
          | true =>
            cases r.banks[k].open_ with
            | true => rfl
            | false =>
              simp only [bne]
              cases r.banks[k].row == 0 <;> rfl) (by
          unfold Lfi_RankOk_0
          dsimp only
          rw [decide_eq_false (by omega), cond_false]) (bigLt (by omega))
        rw [Int.natCast_zero, e1] at e
        simp only [Bool.not_true, cond_false, Bool.true_and]
        refine (congrArg (fun o => Option.bind o _) e).trans ?_
        rw [bindS]
        cases r.banks.all (bankB g) with
        | false => rfl
        | true =>
          simp only [cond_true, Sum.elim_inr, Sum.elim_inl, Bool.true_and]
          cases hq : r.power != 2 with
          | true => rfl
          | false =>
            simp only [cond_false, Bool.false_or]
            have : (⟨r.banks, r.power⟩ : DRank) = r := rfl
            rw [p_OpenBanks ⟨r.banks, r.power⟩ (by show r.banks.length < _; omega), bindS, <- opens_nil 0 r.banks]
            congr 1
            simp only
            rw [Bool.eq_iff_iff]
            simp
    · have e2 : ((r.banks.length : Int) == banksN g) = false := by simp [e1]
      rw [neI e1, e2]
      rfl
def debtB (d : Int) : Bool := inR d (-2) 5
def refOk (r : DRefresh) : Bool := r.debt.all debtB && (inR (r.debt.length : Int) 1 8 && inR r.wait 1 10000)
theorem m_RefreshOk (r : DRefresh) (hl : r.debt.length < 1073741824) : fi_RefreshOk r = some (refOk r) := by
  unfold fi_RefreshOk refOk
  have e := iter_all (step := Lfi_RefreshOk_0) r.debt debtB (fun i => (((), r.debt, (r.debt.length : Int), (i : Int), ()), ((r.debt, r.wait, r.hot, ()), ()))) (.inl ((false, ()), ())) (.inr (.inl (((), ()), ((r.debt, r.wait, r.hot, ()), ())))) big (fun k h => by
    unfold Lfi_RefreshOk_0
    simp (disch := omega) [h, wrapS, m_between, debtB]
    cases inR r.debt[k] (-2) 5 <;> rfl) (by unfold Lfi_RefreshOk_0; simp) (bigLt hl)
  rw [Int.natCast_zero] at e
  rw [e]
  cases r.debt.all debtB <;> simp [m_between]
  cases inR (r.debt.length : Int) 1 8 <;> rfl
/-- The place of the first element that passes, or -1. -/
def firstI {T : Type} (p : T -> Bool) (l : List T) : Int := match l.findIdx? p with
  | some i => (i : Int)
  | none => -1
theorem iter_first {α β T : Type} {step : α -> Option (α ⊕ β)} (l : List T) (p : T -> Bool) (S : Nat -> α) (zf : Nat -> β) (z : β) (fuel : Nat) (hs : ∀ k (h : k < l.length), step (S k) = some (bif p l[k] then .inr (zf k) else .inl (S (k + 1)))) (hz : step (S l.length) = some (.inr z)) (hf : l.length < fuel) :
    iter step fuel (S 0) = some (match l.findIdx? p with | some i => zf i | none => z) := by
  have key : ∀ (n i fuel : Nat), i + n = l.length -> n < fuel -> (∀ j (h : j < l.length), j < i -> p l[j] = false) -> iter step fuel (S i) = some (match l.findIdx? p with | some i => zf i | none => z) := by
    intro n
    induction n with
    | zero =>
      intro i fuel hi hf hn
      match fuel, hf with
      | f + 1, _ =>
        have : i = l.length := by omega
        subst this
        have e : l.findIdx? p = none := by
          rw [List.findIdx?_eq_none_iff]
          intro x hx
          obtain ⟨j, hj, rfl⟩ := List.mem_iff_getElem.1 hx
          exact hn j hj hj
        unfold iter
        rw [hz, e]
    | succ n ih =>
      intro i fuel hi hf hn
      match fuel, hf with
      | f + 1, hf =>
        have hlt : i < l.length := by omega
        unfold iter
        rw [hs i hlt]
        cases hp : p l[i] with
        | true =>
          have e : l.findIdx? p = some i := by
            rw [List.findIdx?_eq_some_iff_getElem]
            refine ⟨hlt, hp, fun j hj => ?_⟩
            rw [hn j (by omega) hj]
            simp
          rw [e]
          rfl
        | false =>
          simp only [cond_false]
          refine ih (i + 1) f (by omega) (by omega) fun j hj hji => ?_
          by_cases e : j = i
          · subst e; exact hp
          · exact hn j hj (by omega)
  exact key l.length 0 fuel (by omega) hf fun j _ h => by omega
theorem first_self {T : Type} {p : T -> Bool} {l : List T} {i : Nat} (h : i < l.length) (hp : p l[i] = true) : (firstI p l != (i : Int)) = (l.take i).any p := by
  unfold firstI
  cases ha : (l.take i).any p with
  | false =>
    have e : l.findIdx? p = some i := by
      rw [List.findIdx?_eq_some_iff_getElem]
      refine ⟨h, hp, fun j hj => ?_⟩
      have := List.any_eq_false.1 ha l[j] (List.mem_iff_getElem.2 ⟨j, by simp; omega, by simp⟩)
      exact this
    rw [e]
    simp
  | true =>
    obtain ⟨x, hx, hpx⟩ := List.any_eq_true.1 ha
    obtain ⟨j, hj, rfl⟩ := List.mem_iff_getElem.1 hx
    rw [List.length_take] at hj
    cases hf : l.findIdx? p with
    | none => simp
    | some k =>
      obtain ⟨k1, k2, k3⟩ := List.findIdx?_eq_some_iff_getElem.1 hf
      have : k ≠ i := by
        rintro rfl
        have := k3 j (by omega)
        rw [List.getElem_take] at hpx
        exact this hpx
      simp only
      simp
      omega
def wrdB (x : Int) : Bool := inR x 0 4294967295
def reqOk (n : Int) (r : DReq) : Bool := inR r.id 1 100000 && (inR r.tenant 0 3 && (decide (r.line >= 0) && (decide (r.line < n) && (wrdB r.data && ((r.write || r.data == 0) && inR r.at_ 0 1000000)))))
theorem m_RequestOk (n : Int) (r : DReq) : fi_RequestOk n r = some (reqOk n r) := by
  unfold fi_RequestOk reqOk fi_IsWord wrdB
  simp only [m_between, bindS]
  cases inR r.id 1 100000 <;> cases inR r.tenant 0 3 <;> cases decide (r.line >= 0) <;> cases decide (r.line < n) <;> cases inR r.data 0 4294967295 <;> cases r.write <;> cases r.data == 0 <;> rfl
def befB (x y : DReq) : Bool := decide (x.at_ < y.at_) || (x.at_ == y.at_ && decide (x.id < y.id))
theorem m_before (x y : DReq) : fi_arrivesBefore x y = some (befB x y) := by
  unfold fi_arrivesBefore befB
  cases decide (x.at_ < y.at_) <;> cases x.at_ == y.at_ <;> rfl
/-- Whether place i of a queue is right. -/
def queB (n : Int) (q : List DReq) (i : Nat) : Bool := match q[i]? with
  | some r => reqOk n r && ((i == 0 || (match q[i - 1]? with | some x => befB x r | none => false)) && !((q.take i).any fun x => x.id == r.id))
  | none => false
theorem queB_0 {n : Int} {q : List DReq} (h : 0 < q.length) : queB n q 0 = reqOk n q[0] := by
  unfold queB
  rw [List.getElem?_eq_getElem h]
  simp
theorem queB_s {n : Int} {q : List DReq} {i : Nat} (h : i + 1 < q.length) : queB n q (i + 1) = (reqOk n q[i + 1] && (befB q[i] q[i + 1] && !((q.take (i + 1)).any fun x => x.id == q[i + 1].id))) := by
  unfold queB
  rw [List.getElem?_eq_getElem h]
  simp only [Nat.add_sub_cancel]
  rw [List.getElem?_eq_getElem (by omega)]
  simp
def queOk (n : Int) (q : List DReq) : Bool := (List.range q.length).all (queB n q) && decide ((q.length : Int) <= 12)
theorem m_iQueIn (n : Int) (q : List DReq) {i : Nat} (h : i < q.length) (hl : q.length < 1073741824) :
    iter Lfi_QueueOk_2 big ((n, q, (), q, (q.length : Int), (i : Int), ((q.take i).drop 0), (((q.take i).drop 0).length : Int), (0 : Int), ()), ((q[i].id, q[i].tenant, q[i].line, q[i].write, q[i].data, q[i].at_, ()), ())) = some (bif (q.take i).any (fun x => x.id == q[i].id) then .inl ((false, ()), ()) else .inr (.inl ((n, q, q, (q.length : Int), (i : Int), ()), ()))) := by
  rw [List.drop_zero]
  have hlen : (q.take i).length = i := by rw [List.length_take]; omega
  generalize hr : q[i] = r
  generalize ht : q.take i = t at *
  have e := iter_all (step := Lfi_QueueOk_2) t (fun x => !(x.id == r.id)) (fun j => ((n, q, (), q, (q.length : Int), (i : Int), t, (t.length : Int), (j : Int), ()), ((r.id, r.tenant, r.line, r.write, r.data, r.at_, ()), ()))) (.inl ((false, ()), ())) (.inr (.inl ((n, q, q, (q.length : Int), (i : Int), ()), ()))) big (fun k h => by
    unfold Lfi_QueueOk_2
    dsimp only
    rw [decide_eq_true (by omega), cond_true, dif_pos ⟨by omega, by omega⟩]
    simp only [Int.toNat_natCast]
    rw [wrapS (by omega)]
    cases t[k].id == r.id <;> rfl) (by
    unfold Lfi_QueueOk_2
    dsimp only
    rw [decide_eq_false (by omega), cond_false]) (bigLt (by omega))
  rw [Int.natCast_zero] at e
  rw [e]
  have : t.all (fun x => !(x.id == r.id)) = !t.any fun x => x.id == r.id := by rw [List.any_eq_not_all_not, Bool.not_not]
  rw [this]
  cases t.any fun x => x.id == r.id <;> rfl
theorem m_QueueOk (n : Int) (q : List DReq) (hl : q.length < 1073741824) : fi_QueueOk n q = some (queOk n q) := by
  unfold fi_QueueOk queOk
  have e := iter_all (step := Lfi_QueueOk_0) (List.range q.length) (queB n q) (fun i => ((n, q, q, (q.length : Int), (i : Int), ()), ())) (.inl ((false, ()), ())) (.inr (.inl ((q, ()), ()))) big (fun k h => by
      rw [List.length_range] at h
      rw [List.getElem_range]
      unfold Lfi_QueueOk_0
      dsimp only
      rw [decide_eq_true (by omega), cond_true, dif_pos ⟨by omega, by omega⟩]
      simp only [Int.toNat_natCast, m_RequestOk, bindS]
      have hq := m_iQueIn n q h hl
      cases k with
      | zero =>
        rw [queB_0 h]
        cases reqOk n q[0] with
        | false => rfl
        | true =>
          simp only [Bool.not_true, cond_false, cond_true]
          rw [decide_eq_false (by omega), cond_false, if_pos ⟨by omega, by omega, by omega⟩]
          refine (congrArg (fun o => Option.bind o _) hq).trans ?_
          simp
          rfl
      | succ k =>
        rw [queB_s h]
        cases reqOk n q[k + 1] with
        | false => rfl
        | true =>
          simp only [Bool.not_true, cond_false, Bool.true_and]
          have hw : IntKind.i64.wrap (((k + 1 : Nat) : Int) - 1) = (k : Int) := by rw [w64 (by omega) (by omega)]; omega
          simp only [hw, Int.toNat_natCast]
          rw [decide_eq_true (by omega), cond_true, dif_pos ⟨by omega, by omega⟩, m_before, bindS]
          cases befB q[k] q[k + 1] with
          | false => rfl
          | true =>
            simp only [Bool.not_true, cond_false, Bool.true_and]
            rw [if_pos ⟨by omega, by omega, by omega⟩]
            refine (congrArg (fun o => Option.bind o _) hq).trans ?_
            rw [bindS]
            cases (q.take (k + 1)).any fun x => x.id == q[k + 1].id with
            | true => rfl
            | false =>
              simp only [cond_false, Sum.elim_inr, Sum.elim_inl]
              rw [wrapS (by omega)]
              rfl) (by
      rw [List.length_range]
      unfold Lfi_QueueOk_0
      dsimp only
      rw [decide_eq_false (by omega), cond_false]) (by rw [List.length_range]; exact bigLt (by omega))
  rw [Int.natCast_zero] at e
  refine (congrArg (fun o => Option.bind o _) e).trans ?_
  rw [bindS]
  cases (List.range q.length).all (queB n q) <;> rfl
def powOk (p : DPower) : Bool := inR p.state 0 2 && (inR p.since 0 1000000 && inR p.idle 0 1000000)
theorem m_PowerOk (p : DPower) : fi_PowerOk p = some (powOk p) := by
  unfold fi_PowerOk powOk
  simp only [m_between, bindS]
  cases inR p.state 0 2 <;> cases inR p.since 0 1000000 <;> rfl
def eeOk (e : DErrorEntry) : Bool := inR e.line 0 1023 && ((e.code == 1 || e.code == 2) && inR e.times 1 999)
def likeE (e x : DErrorEntry) : Bool := x.line == e.line && x.code == e.code
def errB (l : List DErrorEntry) (i : Nat) : Bool := match l[i]? with
  | some e => eeOk e && !((l.take i).any (likeE e))
  | none => false
theorem errB_eq {l : List DErrorEntry} {i : Nat} (h : i < l.length) : errB l i = (eeOk l[i] && !((l.take i).any (likeE l[i]))) := by
  unfold errB
  rw [List.getElem?_eq_getElem h]
def errsOk (l : List DErrorEntry) : Bool := (List.range l.length).all (errB l) && decide ((l.length : Int) <= 6)
theorem m_iErrIn (l : List DErrorEntry) {i : Nat} (h : i < l.length) (hl : l.length < 1073741824) :
    iter Lfi_ErrorsOk_2 big ((l, (), l, (l.length : Int), (i : Int), ((l.take i).drop 0), (((l.take i).drop 0).length : Int), (0 : Int), ()), ((l[i].line, l[i].code, l[i].times, ()), ())) = some (bif (l.take i).any (likeE l[i]) then .inl ((false, ()), ()) else .inr (.inl ((l, l, (l.length : Int), (i : Int), ()), ()))) := by
  rw [List.drop_zero]
  have hlen : (l.take i).length = i := by rw [List.length_take]; omega
  generalize hr : l[i] = r
  generalize ht : l.take i = t at *
  have e := iter_all (step := Lfi_ErrorsOk_2) t (fun x => !(likeE r x)) (fun j => ((l, (), l, (l.length : Int), (i : Int), t, (t.length : Int), (j : Int), ()), ((r.line, r.code, r.times, ()), ()))) (.inl ((false, ()), ())) (.inr (.inl ((l, l, (l.length : Int), (i : Int), ()), ()))) big (fun k h => by
    unfold Lfi_ErrorsOk_2 likeE
    dsimp only
    rw [decide_eq_true (by omega), cond_true, dif_pos ⟨by omega, by omega⟩]
    simp only [Int.toNat_natCast]
    rw [wrapS (by omega), BEq.comm (a := r.line), BEq.comm (a := r.code)]
    cases t[k].line == r.line <;> cases t[k].code == r.code <;> rfl) (by
    unfold Lfi_ErrorsOk_2
    dsimp only
    rw [decide_eq_false (by omega), cond_false]) (bigLt (by omega))
  rw [Int.natCast_zero] at e
  rw [e]
  have : t.all (fun x => !(likeE r x)) = !t.any (likeE r) := by rw [List.any_eq_not_all_not, Bool.not_not]
  rw [this]
  cases t.any (likeE r) <;> rfl
theorem m_ErrorsOk (l : List DErrorEntry) (hl : l.length < 1073741824) : fi_ErrorsOk l = some (errsOk l) := by
  unfold fi_ErrorsOk errsOk
  have e := iter_all (step := Lfi_ErrorsOk_0) (List.range l.length) (errB l) (fun i => ((l, l, (l.length : Int), (i : Int), ()), ())) (.inl ((false, ()), ())) (.inr (.inl ((l, ()), ()))) big (fun k h => by
      rw [List.length_range] at h
      rw [List.getElem_range, errB_eq h]
      have hq := m_iErrIn l h hl
      unfold Lfi_ErrorsOk_0 eeOk
      dsimp only
      rw [decide_eq_true (by omega), cond_true, dif_pos ⟨by omega, by omega⟩]
      simp only [Int.toNat_natCast, m_between, bindS, bne]
      rw [if_pos ⟨by omega, by omega, by omega⟩]
      rw [show (0 : Int).toNat = 0 from rfl, hq]
      cases inR l[k].line 0 1023 <;> cases l[k].code == 1 <;> cases l[k].code == 2 <;> cases inR l[k].times 1 999 <;> cases (l.take k).any (likeE l[k]) <;> first | rfl | (simp only [cond_true, cond_false, Bool.not_true, Bool.not_false, bindS, Sum.elim_inr, Sum.elim_inl]; rw [wrapS (by omega)]; rfl)) (by
      rw [List.length_range]
      unfold Lfi_ErrorsOk_0
      dsimp only
      rw [decide_eq_false (by omega), cond_false]) (by rw [List.length_range]; exact bigLt (by omega))
  rw [Int.natCast_zero] at e
  refine (congrArg (fun o => Option.bind o _) e).trans ?_
  rw [bindS]
  cases (List.range l.length).all (errB l) <;> rfl
theorem m_IndexI (l : List Int) (x : Int) (hl : l.length < 1073741824) : x_Index___int_int_ l x = some (firstI (fun e => x == e) l) := by
  unfold x_Index___int_int_ firstI
  have e := iter_first (step := Lx_Index___int_int__0) l (fun e => x == e) (fun i => ((l, x, (l.length : Int), (i : Int), ()), ())) (fun i => .inl (((i : Int), ()), ())) (.inr (.inl ((), ()))) big (fun k h => by
    unfold Lx_Index___int_int__0
    dsimp only
    rw [decide_eq_true (by omega), cond_true, dif_pos ⟨by omega, by omega⟩]
    simp only [Int.toNat_natCast]
    rw [wrapS (by omega)]
    cases x == l[k] <;> rfl) (by
    unfold Lx_Index___int_int__0
    dsimp only
    rw [decide_eq_false (by omega), cond_false]) (bigLt hl)
  rw [Int.natCast_zero] at e
  rw [e]
  cases l.findIdx? (fun e => x == e) <;> rfl
def trkB (t : DTracker) (i : Nat) : Bool := match t.rows[i]?, t.counts[i]? with
  | some r, some c => inR r (-1) 15 && (inR c t.spill 100000 && ((r != -1 || c == 0) && (r == -1 || !((t.rows.take i).any fun x => r == x))))
  | _, _ => false
theorem trkB_eq {t : DTracker} {i : Nat} (h : i < t.rows.length) (h' : i < t.counts.length) : trkB t i = (inR t.rows[i] (-1) 15 && (inR t.counts[i] t.spill 100000 && ((t.rows[i] != -1 || t.counts[i] == 0) && (t.rows[i] == -1 || !((t.rows.take i).any fun x => t.rows[i] == x))))) := by
  unfold trkB
  rw [List.getElem?_eq_getElem h, List.getElem?_eq_getElem h']
def trkOk (t : DTracker) : Bool := inR (t.rows.length : Int) 1 16 && ((t.rows.length : Int) == (t.counts.length : Int) && (inR t.spill 0 100000 && (List.range t.rows.length).all (trkB t)))
theorem m_TrackerOk (t : DTracker) : fi_TrackerOk t = some (trkOk t) := by
  unfold fi_TrackerOk trkOk
  simp only [m_between, bindS]
  cases h1 : inR (t.rows.length : Int) 1 16 with
  | false => rfl
  | true =>
    have h1 := inR_iff.1 h1
    by_cases h2 : (t.rows.length : Int) = (t.counts.length : Int)
    · simp only [h2, bne_self_eq_false, beq_self_eq_true, Bool.not_true, cond_false, Bool.true_and]
      cases h3 : inR t.spill 0 100000 with
      | false => rfl
      | true =>
        have e := iter_all (step := Lfi_TrackerOk_0) (List.range t.rows.length) (trkB t) (fun i => (((), t.rows, (t.rows.length : Int), (i : Int), ()), ((t.rows, t.counts, t.spill, ()), ()))) (.inl ((false, ()), ())) (.inr (.inl ((), ()))) big (fun k h => by
          rw [List.length_range] at h
          have h' : k < t.counts.length := by omega
          rw [List.getElem_range, trkB_eq h h']
          unfold Lfi_TrackerOk_0
          dsimp only
          rw [decide_eq_true (by omega), cond_true, dif_pos ⟨by omega, by omega⟩, dif_pos ⟨by omega, by omega⟩, dif_pos ⟨by omega, by omega⟩]
          simp only [Int.toNat_natCast, m_between, bindS, m_IndexI _ _ (show t.rows.length < 1073741824 by omega)]
          rw [first_self (p := fun e => t.rows[k] == e) h (by simp), wrapS (by omega)]
          simp only [bne]
          cases inR t.rows[k] (-1) 15 <;> cases inR t.counts[k] t.spill 100000 <;> cases t.rows[k] == -1 <;> cases t.counts[k] == 0 <;> cases (t.rows.take k).any (fun e => t.rows[k] == e) <;> rfl) (by
          rw [List.length_range]
          unfold Lfi_TrackerOk_0
          dsimp only
          rw [decide_eq_false (by omega), cond_false]) (by rw [List.length_range]; exact bigLt (by omega))
        rw [Int.natCast_zero, h2] at e
        simp only [Bool.not_true, cond_false, Bool.true_and]
        refine (congrArg (fun o => Option.bind o _) e).trans ?_
        rw [bindS]
        cases (List.range t.rows.length).all (trkB t) <;> rfl
    · have e2 : ((t.rows.length : Int) == (t.counts.length : Int)) = false := by simp [h2]
      have e3 : ((t.counts.length : Int) != (t.rows.length : Int)) = true := neI fun h => h2 h.symm
      rw [e2, e3]
      rfl
theorem w9 (g : DGeometry) : IntKind.i64.wrap ((9 : Int) * (IntKind.i64.wrap (banksN g + (1 : Int)))) = 9 * (banksN g + 1) := by
  have := banksN_b g
  rw [w64 (n := banksN g + 1) (by omega) (by omega), w64 (by omega) (by omega)]
theorem t_usesBank (k : Int) : fi_usesBank k = some (inR k 1 5) := by
  unfold fi_usesBank
  rw [m_between]; rfl
def usedAt (g : DGeometry) (i : Nat) : Bool := decide ((i : Int) / 9 < banksN g) == decide ((i : Int) % 9 + 1 <= 5)
theorem m_cmdAt (g : DGeometry) {i : Nat} (hi : i < 1000) : ∃ c, fi_commandAt g (i : Int) = some (c, usedAt g i) := by
  unfold fi_commandAt usedAt
  rw [m_BankCount, bindS, Int.tdiv_eq_ediv_of_nonneg (by omega), Int.tmod_eq_emod_of_nonneg (by omega), w64 (by omega) (by omega), w64 (by omega) (by omega), t_usesBank, bindS]
  have : inR ((i : Int) % 9 + 1) 1 5 = decide ((i : Int) % 9 + 1 <= 5) := by
    rw [Bool.eq_iff_iff]
    simp [inR]
    omega
  rw [this]
  cases decide ((i : Int) / 9 < banksN g) <;> exact ⟨_, rfl⟩
def rdAt (g : DGeometry) (l : List Int) (i : Nat) : Bool := match l[i]? with
  | some e => inR e (-1) 1000000 && (usedAt g i || e == -1)
  | none => false
theorem rdAt_eq {g : DGeometry} {l : List Int} {i : Nat} (h : i < l.length) : rdAt g l i = (inR l[i] (-1) 1000000 && (usedAt g i || l[i] == -1)) := by
  unfold rdAt
  rw [List.getElem?_eq_getElem h]
def actAt (l : List Int) (i : Nat) : Bool := match l[i]? with
  | some e => inR e 0 1000000 && (i == 0 || (match l[i - 1]? with | some x => !(decide (x >= e)) | none => false))
  | none => false
theorem actAt_0 {l : List Int} (h : 0 < l.length) : actAt l 0 = inR l[0] 0 1000000 := by
  unfold actAt
  rw [List.getElem?_eq_getElem h]
  simp
theorem actAt_s {l : List Int} {i : Nat} (h : i + 1 < l.length) : actAt l (i + 1) = (inR l[i + 1] 0 1000000 && !(decide (l[i] >= l[i + 1]))) := by
  unfold actAt
  rw [List.getElem?_eq_getElem h]
  simp only [Nat.add_sub_cancel]
  rw [List.getElem?_eq_getElem (by omega)]
  simp
def rdyOk (g : DGeometry) (r : DReady) : Bool := geoOk g && ((r.last.length : Int) == 9 * (banksN g + 1) && (!(decide ((r.acts.length : Int) > 4)) && ((List.range r.last.length).all (rdAt g r.last) && (List.range r.acts.length).all (actAt r.acts))))
theorem m_ReadyOk (g : DGeometry) (r : DReady) : fi_ReadyOk g r = some (rdyOk g r) := by
  unfold fi_ReadyOk rdyOk
  rw [m_GeometryOk, bindS, m_BankCount]
  cases hg : geoOk g with
  | false => rfl
  | true =>
    simp only [Bool.not_true, cond_false, bindS, Bool.true_and, w9]
    by_cases e1 : (r.last.length : Int) = 9 * (banksN g + 1)
    · have b1 := banksN_b g
      rw [e1, bne_self_eq_false, cond_false, beq_self_eq_true, Bool.true_and, <- e1]
      cases h2 : decide ((r.acts.length : Int) > 4) with
      | true => rfl
      | false =>
        have h2 := of_decide_eq_false h2
        have l1 := iter_all (step := Lfi_ReadyOk_0) (List.range r.last.length) (rdAt g r.last) (fun i => (((), (), r.last, (r.last.length : Int), (i : Int), ()), ((g.groups, g.banks, g.rows, g.cols, ()), (r.last, r.acts, ()), ()))) (.inl ((false, ()), ())) (.inr (.inl (((), ()), ((r.last, r.acts, ()), ())))) big (fun k h => by
          rw [List.length_range] at h
          obtain ⟨c, hc⟩ := m_cmdAt g (i := k) (by omega)
          rw [List.getElem_range, rdAt_eq h]
          unfold Lfi_ReadyOk_0
          dsimp only
          rw [decide_eq_true (by omega), cond_true, dif_pos ⟨by omega, by omega⟩]
          simp only [Int.toNat_natCast, m_between, bindS, eta_g, hc, bne]
          rw [wrapS (by omega)]
          cases inR r.last[k] (-1) 1000000 <;> cases usedAt g k <;> cases r.last[k] == -1 <;> rfl) (by
          rw [List.length_range]
          unfold Lfi_ReadyOk_0
          dsimp only
          rw [decide_eq_false (by omega), cond_false]) (by rw [List.length_range]; exact bigLt (by omega))
        have l2 := iter_all (step := Lfi_ReadyOk_2) (List.range r.acts.length) (actAt r.acts) (fun i => (((), r.acts, (r.acts.length : Int), (i : Int), ()), ((r.last, r.acts, ()), ()))) (.inl ((false, ()), ())) (.inr (.inl ((), ()))) big (fun k h => by
          rw [List.length_range] at h
          rw [List.getElem_range]
          unfold Lfi_ReadyOk_2
          dsimp only
          rw [decide_eq_true (by omega), cond_true, dif_pos ⟨by omega, by omega⟩]
          simp only [Int.toNat_natCast, m_between, bindS]
          cases k with
          | zero =>
            rw [actAt_0 h]
            cases inR r.acts[0] 0 1000000 with
            | false => rfl
            | true =>
              rw [decide_eq_false (by omega)]
              rfl
          | succ k =>
            rw [actAt_s h]
            have hw : IntKind.i64.wrap (((k + 1 : Nat) : Int) - 1) = (k : Int) := by rw [w64 (by omega) (by omega)]; omega
            simp only [hw, Int.toNat_natCast]
            rw [decide_eq_true (show ((k + 1 : Nat) : Int) > 0 by omega), dif_pos ⟨by omega, by omega⟩, wrapS (by omega)]
            cases inR r.acts[k + 1] 0 1000000 <;> cases decide (r.acts[k] >= r.acts[k + 1]) <;> rfl) (by
          rw [List.length_range]
          unfold Lfi_ReadyOk_2
          dsimp only
          rw [decide_eq_false (by omega), cond_false]) (by rw [List.length_range]; exact bigLt (by omega))
        rw [Int.natCast_zero] at l1 l2
        simp only [Bool.not_false, cond_false, Bool.true_and]
        refine (congrArg (fun o => Option.bind o _) l1).trans ?_
        rw [bindS]
        cases (List.range r.last.length).all (rdAt g r.last) with
        | false => rfl
        | true =>
          simp only [cond_true, Sum.elim_inr, Sum.elim_inl, Bool.true_and]
          refine (congrArg (fun o => Option.bind o _) l2).trans ?_
          rw [bindS]
          cases (List.range r.acts.length).all (actAt r.acts) <;> rfl
    · have e2 : ((r.last.length : Int) == 9 * (banksN g + 1)) = false := by simp [e1]
      rw [neI e1, e2]
      rfl
theorem m_CountRow (l : List Int) (x : Int) (hl : l.length < 1073741824) : fi_CountRow l x = some (l.count x : Int) := by
  unfold fi_CountRow
  have e := iter_to (step := Lfi_CountRow_0) l.length (fun i => ((x, ((l.take i).count x : Int), l, (l.length : Int), (i : Int), ()), ())) (.inl (((l.count x : Int), ()), ())) big (fun k h => by
    unfold Lfi_CountRow_0
    have hc : (l.take k).count x <= k := Nat.le_trans List.count_le_length (by rw [List.length_take]; omega)
    dsimp only
    rw [decide_eq_true (by omega), cond_true, dif_pos ⟨by omega, by omega⟩]
    simp only [Int.toNat_natCast]
    rw [List.take_succ_eq_append_getElem h, List.count_append, List.count_singleton, wrapS (by omega), wrapS (by omega)]
    cases l[k] == x <;> rfl) (by
    unfold Lfi_CountRow_0
    dsimp only
    rw [decide_eq_false (by omega), cond_false, List.take_length]) (bigLt hl)
  rw [Int.natCast_zero, List.take_zero, List.count_nil] at e
  rw [Int.natCast_zero] at e
  rw [e]
  rfl
/-- Whether a bank's rows are right: by the number of places that have the row, and by the places before. -/
def rowA (R M : Int) (L : List Int) (j : Nat) : Bool := match L[j]? with
  | some e => e == (j : Int) || (inR e R M && !(decide ((L.count e : Int) > 1)))
  | none => false
def bankL (m : List Int) (R b : Nat) : List Int := (m.take ((b + 1) * R)).drop (b * R)
theorem bankL_eq (m : List Int) (R b : Nat) : bankL m R b = (m.drop (b * R)).take R := by
  unfold bankL
  rw [List.drop_take, Nat.succ_mul, Nat.add_sub_cancel_left]
theorem bankL_len {m : List Int} {R b : Nat} (h : (b + 1) * R <= m.length) : (bankL m R b).length = R := by
  rw [bankL_eq, List.length_take, List.length_drop]
  rw [Nat.succ_mul] at h
  omega
theorem spared {bn R b j : Nat} (hb : b < bn) (hj : j <= R) : b * R + j <= bn * R := by
  have : (b + 1) * R <= bn * R := Nat.mul_le_mul_right R hb
  rw [Nat.succ_mul] at this
  omega
theorem wrapN {n : Nat} (h : n < 4611686018427387904) : IntKind.i64.wrap (n : Int) = (n : Int) := w64 (by omega) (by omega)
def spareOk (g : DGeometry) (s : DSpare) : Bool := spareB g s.spares && ((s.map.length : Int) == ((banksN g).toNat * (g.rows - s.spares).toNat : Nat) && (List.range (banksN g).toNat).all fun b => (List.range (g.rows - s.spares).toNat).all (rowA (g.rows - s.spares) (g.rows - 1) (bankL s.map (g.rows - s.spares).toNat b)))
theorem m_bankRows {g : DGeometry} {s : DSpare} {R bn b : Nat} (hR : g.rows - s.spares = (R : Int)) (h16 : R <= 16) (h8 : bn <= 8) (hb : b < bn) (hl : s.map.length = bn * R) : fi_bankRows g s (b : Int) = some (b * R, (b + 1) * R) := by
  have hm : bn * R <= 8 * 16 := Nat.mul_le_mul h8 h16
  have h1 : b * R + R <= bn * R := spared hb (Nat.le_refl R)
  have hw : IntKind.i64.wrap (g.rows - s.spares) = (R : Int) := by rw [hR]; exact w64 (by omega) (by omega)
  have m1 : IntKind.i64.wrap ((b : Int) * (R : Int)) = ((b * R : Nat) : Int) := by rw [<- Int.natCast_mul]; exact w64 (by omega) (by omega)
  have m2 : IntKind.i64.wrap (((b + 1 : Nat) : Int) * (R : Int)) = (((b + 1) * R : Nat) : Int) := by
    rw [<- Int.natCast_mul]
    exact w64 (by omega) (by rw [Nat.succ_mul]; omega)
  unfold fi_bankRows
  rw [hw, wrapS (by omega), m1, m2, Nat.succ_mul, if_pos ⟨by omega, by omega, by omega⟩]
  simp only [Int.toNat_natCast]
theorem m_iSpareIn {g : DGeometry} {s : DSpare} (R : Int) (b : Int) (L : List Int) (hg : geoOk g = true) (hL : L.length < 1073741824) :
    iter Lfi_SpareOk_2 big (((), (), R, b, L, L, (L.length : Int), (0 : Int), ()), ((g.groups, g.banks, g.rows, g.cols, ()), (s.spares, s.map, ()), ())) = some (bif (List.range L.length).all (rowA R (g.rows - 1) L) then .inr (.inl (((), (), R, b, ()), ((g.groups, g.banks, g.rows, g.cols, ()), (s.spares, s.map, ()), ()))) else .inl ((false, ()), ())) := by
  have gb := geo_b hg
  have e := iter_all (step := Lfi_SpareOk_2) (List.range L.length) (rowA R (g.rows - 1) L) (fun i => (((), (), R, b, L, L, (L.length : Int), (i : Int), ()), ((g.groups, g.banks, g.rows, g.cols, ()), (s.spares, s.map, ()), ()))) (.inl ((false, ()), ())) (.inr (.inl (((), (), R, b, ()), ((g.groups, g.banks, g.rows, g.cols, ()), (s.spares, s.map, ()), ())))) big (fun k h => by
    rw [List.length_range] at h
    rw [List.getElem_range]
    unfold Lfi_SpareOk_2 rowA
    dsimp only
    rw [decide_eq_true (by omega), cond_true, dif_pos ⟨by omega, by omega⟩, List.getElem?_eq_getElem h]
    simp only [Int.toNat_natCast, m_between, bindS, m_CountRow _ _ hL, bne]
    rw [wrapS (by omega), w64 (n := g.rows - 1) (by omega) (by omega)]
    cases L[k] == (k : Int) <;> cases inR L[k] R (g.rows - 1) <;> cases decide ((L.count L[k] : Int) > 1) <;> rfl) (by
    rw [List.length_range]
    unfold Lfi_SpareOk_2
    dsimp only
    rw [decide_eq_false (by omega), cond_false]) (by rw [List.length_range]; exact bigLt (by omega))
  rw [Int.natCast_zero] at e
  exact e
theorem m_SpareOk (g : DGeometry) (s : DSpare) : fi_SpareOk g s = some (spareOk g s) := by
  unfold fi_SpareOk spareOk
  rw [m_SpareNew, bindS, spareNew_snd]
  cases hs : spareB g s.spares with
  | false => rfl
  | true =>
    obtain ⟨hg, s0, s2, hr2, hr16⟩ := spareB_b hs
    have b1 := banksN_b g
    have hnew : ((spareNew g s.spares).1.map.length : Int) = (((banksN g).toNat * (g.rows - s.spares).toNat : Nat) : Int) := by
      unfold spareNew
      rw [hs, cond_true, spareMap_len]
    rw [hnew]
    obtain ⟨bn, hb⟩ := Int.eq_ofNat_of_zero_le b1.1
    obtain ⟨R, hR⟩ := Int.eq_ofNat_of_zero_le (show 0 <= g.rows - s.spares by omega)
    rw [hb, hR]
    simp only [Int.toNat_natCast, Bool.not_true, cond_false, Bool.true_and]
    by_cases hl : (s.map.length : Int) = ((bn * R : Nat) : Int)
    · have hl' : s.map.length = bn * R := by omega
      rw [hl, bne_self_eq_false, cond_false, beq_self_eq_true, Bool.true_and]
      have hw : IntKind.i64.wrap (R : Int) = (R : Int) := w64 (by omega) (by omega)
      have e := iter_all (step := Lfi_SpareOk_0) (List.range bn) (fun b => (List.range R).all (rowA (R : Int) (g.rows - 1) (bankL s.map R b))) (fun i => (((), (), (R : Int), (i : Int), ()), ((g.groups, g.banks, g.rows, g.cols, ()), (s.spares, s.map, ()), ()))) (.inl ((false, ()), ())) (.inr (.inl ((), ()))) big (fun k h => by
        rw [List.length_range] at h
        rw [List.getElem_range]
        have hk := spared (R := R) h (Nat.le_refl R)
        have hlen : (bankL s.map R k).length = R := bankL_len (by rw [Nat.succ_mul, hl']; exact hk)
        have hin := m_iSpareIn (g := g) (s := s) (R : Int) (k : Int) (bankL s.map R k) hg (by omega)
        unfold Lfi_SpareOk_0
        dsimp only
        rw [eta_g, m_BankCount, bindS, hb, decide_eq_true (by omega), cond_true]
        have hbr : fi_bankRows g (⟨s.spares, s.map⟩ : DSpare) (k : Int) = some (k * R, (k + 1) * R) := m_bankRows (s := ⟨s.spares, s.map⟩) hR (by omega) (by omega) h hl'
        rw [hbr, bindS]
        have hc : (Nat.ble (k * R) ((k + 1) * R) && Nat.ble ((k + 1) * R) s.map.length) = true := by
          rw [Bool.and_eq_true]
          exact ⟨Nat.ble_eq_true_of_le (by rw [Nat.succ_mul]; omega), Nat.ble_eq_true_of_le (by rw [Nat.succ_mul]; omega)⟩
        rw [hc, cond_true]
        refine (congrArg (fun o => Option.bind o _) hin).trans ?_
        rw [bindS, hlen]
        cases (List.range R).all (rowA (R : Int) (g.rows - 1) (bankL s.map R k)) with
        | false => rfl
        | true =>
          simp only [cond_true, Sum.elim_inr, Sum.elim_inl]
          rw [wrapS (by omega)]) (by
        rw [List.length_range]
        unfold Lfi_SpareOk_0
        dsimp only
        rw [eta_g, m_BankCount, bindS, hb, decide_eq_false (by omega), cond_false]) (by rw [List.length_range]; exact bigLt (by omega))
      rw [Int.natCast_zero] at e
      rw [hw]
      refine (congrArg (fun o => Option.bind o _) e).trans ?_
      rw [bindS]
      cases (List.range bn).all fun b => (List.range R).all (rowA (R : Int) (g.rows - 1) (bankL s.map R b)) <;> rfl
    · have e2 : ((s.map.length : Int) == ((bn * R : Nat) : Int)) = false := by simp only [beq_eq_false_iff_ne]; exact hl
      rw [neI hl, e2]
      rfl
def regG (g : DGeometry) (s : DSpare) : DGeometry := bif spareOk g s then ⟨g.groups, g.banks, IntKind.i64.wrap (g.rows - s.spares), g.cols⟩ else ⟨0, 0, 0, 0⟩
theorem m_RegularGeometry (g : DGeometry) (s : DSpare) : fi_RegularGeometry g s = some (regG g s) := by
  unfold fi_RegularGeometry regG
  rw [m_SpareOk, bindS]
  cases spareOk g s <;> rfl
def ctlT (c : DController) : DController := c
def sameA (a x : DAddr) : Bool := x.bank == a.bank && (x.row == a.row && (x.col == a.col && true))
theorem m_iPend (l : List DAddr) (a : DAddr) (hl : l.length < 1073741824) : x_Index___impl_Addr_impl_Addr_ l a = some (firstI (sameA a) l) := by
  unfold x_Index___impl_Addr_impl_Addr_ firstI
  have e := iter_first (step := Lx_Index___impl_Addr_impl_Addr__0) l (sameA a) (fun i => ((l, (), (l.length : Int), (i : Int), ()), ((a.bank, a.row, a.col, ()), ()))) (fun i => .inl (((i : Int), ()), ())) (.inr (.inl ((), ()))) big (fun k h => by
    unfold Lx_Index___impl_Addr_impl_Addr__0 sameA
    dsimp only
    rw [decide_eq_true (by omega), cond_true, dif_pos ⟨by omega, by omega⟩]
    simp only [Int.toNat_natCast]
    rw [wrapS (by omega), BEq.comm (a := a.bank), BEq.comm (a := a.row), BEq.comm (a := a.col)]
    cases (l[k].bank == a.bank && (l[k].row == a.row && (l[k].col == a.col && true))) <;> rfl) (by
    unfold Lx_Index___impl_Addr_impl_Addr__0
    dsimp only
    rw [decide_eq_false (by omega), cond_false]) (bigLt hl)
  rw [Int.natCast_zero] at e
  rw [e]
  cases l.findIdx? (sameA a) <;> rfl
def partAt (c : DController) (i : Nat) : Bool := match c.trackers[i]?, c.guard[i]? with
  | some t, some x => trkOk t && inR x 3 1000
  | _, _ => false
def pendAt (c : DController) (i : Nat) : Bool := match c.pending[i]? with
  | some a => addrOk c.config.geometry a && (a.col == 0 && !((c.pending.take i).any (sameA a)))
  | none => false
def partsB (c : DController) : Bool := (c.refresh.debt.length : Int) == banksN c.config.geometry && ((c.trackers.length : Int) == banksN c.config.geometry && ((c.guard.length : Int) == banksN c.config.geometry && (!(decide ((c.pending.length : Int) > 128)) && ((List.range c.trackers.length).all (partAt c) && (List.range c.pending.length).all (pendAt c)))))
theorem st_iParts0 (c : DController) (G : (Int × Int × Int × Int × Unit)) (n i : Int) : Lfi_partsOk_0 (((), (), n, i, ()), (ctlT c, G, ())) = (bif (decide (i < n)) then if h2 : 0 <= i /\ i.toNat < c.trackers.length then (fi_TrackerOk (c.trackers[i.toNat]'h2.2)).bind fun y4 => bif (!y4) then some (.inr (.inl ((false, ()), ()))) else if h5 : 0 <= i /\ i.toNat < c.guard.length then (fi_between (c.guard[i.toNat]'h5.2) (3 : Int) (1000 : Int)).bind fun y7 => bif (!y7) then some (.inr (.inl ((false, ()), ()))) else some (.inl (((), (), n, (IntKind.i64.wrap (i + (1 : Int))), ()), (ctlT c, G, ()))) else none else none else some (.inr (.inr (.inl (((), (), ()), (ctlT c, G, ())))))) := rfl
theorem st_iParts2 (c : DController) (g : DGeometry) (l : List DAddr) (n i : Int) : Lfi_partsOk_2 (((), (), l, n, i, ()), (ctlT c, (g.groups, g.banks, g.rows, g.cols, ()), ())) = (bif (decide (i < n)) then if h10 : 0 <= i /\ i.toNat < l.length then (fi_AddrOk g (l[i.toNat]'h10.2)).bind fun y12 => bif (!y12) then some (.inr (.inl ((false, ()), ()))) else bif ((l[i.toNat]'h10.2).col != (0 : Int)) then some (.inr (.inl ((false, ()), ()))) else (x_Index___impl_Addr_impl_Addr_ c.pending (l[i.toNat]'h10.2)).bind fun y13 => bif (y13 != i) then some (.inr (.inl ((false, ()), ()))) else some (.inl (((), (), l, n, (IntKind.i64.wrap (i + (1 : Int))), ()), (ctlT c, (g.groups, g.banks, g.rows, g.cols, ()), ()))) else none else some (.inr (.inr (.inl ((), ()))))) := rfl
theorem m_partsOk (c : DController) (hd : c.refresh.debt.length < 1073741824) : fi_partsOk c = some (refOk c.refresh && partsB c) := by
  unfold fi_partsOk partsB
  rw [m_BankCount, bindS, m_RefreshOk _ hd, bindS]
  cases refOk c.refresh with
  | false => rfl
  | true =>
  simp only [Bool.not_true, cond_false, Bool.true_and]
  have b1 := banksN_b c.config.geometry
  by_cases e1 : (c.refresh.debt.length : Int) = banksN c.config.geometry
  · by_cases e2 : (c.trackers.length : Int) = banksN c.config.geometry
    · by_cases e3 : (c.guard.length : Int) = banksN c.config.geometry
      · have n1 : ((c.refresh.debt.length : Int) != banksN c.config.geometry) = false := by simp [e1]
        have n2 : ((c.trackers.length : Int) != banksN c.config.geometry) = false := by simp [e2]
        have n3 : ((c.guard.length : Int) != banksN c.config.geometry) = false := by simp [e3]
        have q1 : ((c.refresh.debt.length : Int) == banksN c.config.geometry) = true := by simp [e1]
        have q2 : ((c.trackers.length : Int) == banksN c.config.geometry) = true := by simp [e2]
        have q3 : ((c.guard.length : Int) == banksN c.config.geometry) = true := by simp [e3]
        rw [n1, n2, n3, q1, q2, q3]
        simp only [cond_false, Bool.true_and]
        cases h4 : decide ((c.pending.length : Int) > 128) with
        | true => rfl
        | false =>
          have h4 := of_decide_eq_false h4
          have l1 := iter_all (step := Lfi_partsOk_0) (List.range c.trackers.length) (partAt c) (fun i => (((), (), (c.trackers.length : Int), (i : Int), ()), (ctlT c, (c.config.geometry.groups, c.config.geometry.banks, c.config.geometry.rows, c.config.geometry.cols, ()), ()))) (.inl ((false, ()), ())) (.inr (.inl (((), (), ()), (ctlT c, (c.config.geometry.groups, c.config.geometry.banks, c.config.geometry.rows, c.config.geometry.cols, ()), ())))) big (fun k h => by
            rw [List.length_range] at h
            rw [List.getElem_range, st_iParts0, decide_eq_true (by omega), cond_true, dif_pos ⟨by omega, by omega⟩, dif_pos ⟨by omega, by omega⟩]
            simp only [Int.toNat_natCast, m_TrackerOk, m_between, bindS]
            unfold partAt
            rw [List.getElem?_eq_getElem h, List.getElem?_eq_getElem (show k < c.guard.length by omega), wrapS (by omega)]
            simp only
            cases trkOk c.trackers[k] <;> cases inR (c.guard[k]'(by omega)) 3 1000 <;> rfl) (by
            rw [List.length_range, st_iParts0, decide_eq_false (by omega), cond_false]) (by rw [List.length_range]; exact bigLt (by omega))
          have l2 := iter_all (step := Lfi_partsOk_2) (List.range c.pending.length) (pendAt c) (fun i => (((), (), c.pending, (c.pending.length : Int), (i : Int), ()), (ctlT c, (c.config.geometry.groups, c.config.geometry.banks, c.config.geometry.rows, c.config.geometry.cols, ()), ()))) (.inl ((false, ()), ())) (.inr (.inl ((), ()))) big (fun k h => by
            rw [List.length_range] at h
            rw [List.getElem_range, st_iParts2, decide_eq_true (by omega), cond_true, dif_pos ⟨by omega, by omega⟩]
            simp only [Int.toNat_natCast, m_AddrOk, bindS, m_iPend _ _ (show c.pending.length < 1073741824 by omega), bne]
            have hs := first_self (p := sameA c.pending[k]) h (by simp [sameA])
            rw [bne] at hs
            rw [hs]
            unfold pendAt
            rw [List.getElem?_eq_getElem h, wrapS (by omega)]
            simp only
            cases addrOk c.config.geometry c.pending[k] <;> cases c.pending[k].col == 0 <;> cases (c.pending.take k).any (sameA c.pending[k]) <;> rfl) (by
            rw [List.length_range, st_iParts2, decide_eq_false (by omega), cond_false]) (by rw [List.length_range]; exact bigLt (by omega))
          rw [Int.natCast_zero] at l1 l2
          simp only [Bool.not_false, cond_false, Bool.true_and]
          refine (congrArg (fun o => Option.bind o _) l1).trans ?_
          rw [bindS]
          cases (List.range c.trackers.length).all (partAt c) with
          | false => rfl
          | true =>
            simp only [cond_true, Sum.elim_inr, Sum.elim_inl, Bool.true_and]
            refine (congrArg (fun o => Option.bind o _) l2).trans ?_
            rw [bindS]
            cases (List.range c.pending.length).all (pendAt c) <;> rfl
      · simp [e1, e2, neI e3, e3]
    · simp [e1, neI e2, e2]
  · simp [neI e1, e1]
def ranN (g : DGeometry) : DRank := ⟨List.replicate (banksN g).toNat ⟨false, 0⟩, 0⟩
theorem m_RankNew (g : DGeometry) : fi_RankNew g = some (ranN g) := by
  have b1 := banksN_b g
  unfold fi_RankNew ranN
  rw [m_GeometryOk, bindS]
  cases hg : geoOk g with
  | false =>
    have : banksN g = 0 := by simp [banksN, hg]
    rw [this]
    rfl
  | true =>
    simp only [Bool.not_true, cond_false, m_BankCount, bindS]
    rw [if_pos ⟨by omega, by omega, by omega⟩]
def fillL (n k : Nat) : List Int := List.replicate k (-1) ++ List.replicate (n - k) 0
theorem fill_len {n k : Nat} (h : k <= n) : (fillL n k).length = n := by
  unfold fillL
  simp
  omega
theorem fill_set {n k : Nat} (h : k < n) : (fillL n k).set k (-1) = fillL n (k + 1) := by
  obtain ⟨m, rfl⟩ : ∃ m, n = k + 1 + m := ⟨n - k - 1, by omega⟩
  unfold fillL
  rw [show k + 1 + m - k = m + 1 by omega, show k + 1 + m - (k + 1) = m by omega, List.set_append_right _ _ (by simp), List.length_replicate, Nat.sub_self, List.replicate_succ, List.set_cons_zero, List.replicate_succ', List.append_assoc]
  rfl
theorem fill_0 (n : Nat) : fillL n 0 = List.replicate n 0 := by simp [fillL]
theorem fill_n (n : Nat) : fillL n n = List.replicate n (-1) := by simp [fillL]
def rdyN (g : DGeometry) : DReady := ⟨List.replicate (9 * (banksN g + 1)).toNat (-1), []⟩
theorem m_ReadyNew {g : DGeometry} (hg : geoOk g = true) : fi_ReadyNew g = some (rdyN g) := by
  have hb := banksN_b g
  obtain ⟨n, hn⟩ : ∃ n : Nat, 9 * (banksN g + 1) = (n : Int) := ⟨(9 * (banksN g + 1)).toNat, by omega⟩
  have hn' : n < 1073741824 := by omega
  have e := iter_to (step := Lfi_ReadyNew_0) n (fun i => (((), (), (n : Int), (i : Int), ()), (((), (), ()), ((), (), ()), ([] : List Int), ([] : List Int), fillL n i, ([] : List Int), ()))) (.inl (((), (), ()), (((), (), ()), ((), (), ()), ([] : List Int), ([] : List Int), fillL n n, ([] : List Int), ()))) big (fun k h => by
    have hl := fill_len (show k <= n by omega)
    unfold Lfi_ReadyNew_0
    dsimp only
    rw [decide_eq_true (by omega), cond_true, dif_pos ⟨by omega, by omega⟩, dif_pos (by omega), wrapS (by omega), Int.toNat_natCast, fill_set h]) (by
    unfold Lfi_ReadyNew_0
    dsimp only
    rw [decide_eq_false (by omega), cond_false]) (bigLt (by omega))
  rw [fill_0, fill_n, Int.natCast_zero] at e
  unfold fi_ReadyNew rdyN
  rw [m_GeometryOk, bindS, hg, Bool.not_true, cond_false, m_BankCount, bindS, w9, hn, if_pos ⟨by omega, by omega, by omega⟩, Int.toNat_natCast, List.length_replicate]
  exact (congrArg (fun o => Option.bind o _) e).trans rfl
def sameB (a b : List Int) : Bool := ((a.length : Int) == (b.length : Int)) && (a.zip b).all fun p => p.1 == p.2
theorem zip_len {A B : Type} {a : List A} {b : List B} (h : a.length = b.length) : (a.zip b).length = a.length := by
  rw [List.length_zip]
  omega
theorem zip_get {A B : Type} {a : List A} {b : List B} (h : a.length = b.length) {k : Nat} (hk : k < (a.zip b).length) : (a.zip b)[k] = (a[k]'(by rw [zip_len h] at hk; exact hk), b[k]'(by rw [zip_len h] at hk; omega)) := by
  rw [List.getElem_zip]
theorem m_sameInts {a b : List Int} (ha : a.length < 1073741824) : fi_sameInts a b = some (sameB a b) := by
  unfold fi_sameInts sameB
  by_cases h : a.length = b.length
  · have hz := zip_len h
    have e := iter_all (step := Lfi_sameInts_0) (a.zip b) (fun p => p.1 == p.2) (fun i => ((a, b, (a.length : Int), (i : Int), ()), ())) (.inl ((false, ()), ())) (.inr (.inl ((), ()))) big (fun k hk => by
      unfold Lfi_sameInts_0
      dsimp only
      rw [decide_eq_true (by omega), cond_true, dif_pos ⟨by omega, by omega⟩, dif_pos ⟨by omega, by omega⟩, wrapS (by omega), zip_get h hk]
      simp only [Int.toNat_natCast]
      rw [bne]
      cases a[k] == b[k] <;> rfl) (by
      unfold Lfi_sameInts_0
      dsimp only
      rw [decide_eq_false (by omega), cond_false]) (bigLt (by omega))
    rw [Int.natCast_zero] at e
    rw [show ((a.length : Int) != (b.length : Int)) = false by simp [h], cond_false, show ((a.length : Int) == (b.length : Int)) = true by simp [h], Bool.true_and]
    refine (congrArg (fun o => Option.bind o _) e).trans ?_
    cases (a.zip b).all fun p => p.1 == p.2 <;> rfl
  · rw [show ((a.length : Int) != (b.length : Int)) = true by simp; omega, cond_true, show ((a.length : Int) == (b.length : Int)) = false by simp; omega, Bool.false_and]
def ZPolicy (x : DPolicy) : Prop := (x.weights.length <= 1048576)
/-- The place of the first request with a number. -/
def place (l : List DReq) (id : Int) : Int := match l.findIdx? (fun r => r.id == id) with
  | some i => (i : Int)
  | none => -1
def ZPolicyBox (x : DPolicyBox) : Prop := ZPolicy x.active /\ ZPolicy x.next
def ZRank (x : DRank) : Prop := (x.banks.length <= 1048576)
def ZReady (x : DReady) : Prop := (x.last.length <= 1048576) /\ (x.acts.length <= 1048576)
def ZCell (x : DCell) : Prop := (x.symbols.length <= 1048576)
def ZArray (x : DArray) : Prop := (x.cells.length <= 1048576 /\ ∀ y ∈ x.cells, ZCell y) /\ (x.age.length <= 1048576) /\ (x.hits.length <= 1048576)
def ZSpare (x : DSpare) : Prop := (x.map.length <= 1048576)
def ZRefresh (x : DRefresh) : Prop := (x.debt.length <= 1048576)
def ZTracker (x : DTracker) : Prop := (x.rows.length <= 1048576) /\ (x.counts.length <= 1048576)
def ZController (x : DController) : Prop := ZPolicyBox x.box /\ ZRank x.rank /\ ZReady x.ready /\ ZArray x.array /\ ZSpare x.spare /\ ZRefresh x.refresh /\ (x.trackers.length <= 1048576 /\ ∀ y ∈ x.trackers, ZTracker y) /\ (x.guard.length <= 1048576) /\ (x.pending.length <= 1048576) /\ (x.queue.length <= 1048576) /\ (x.shares.length <= 1048576) /\ (x.errors.length <= 1048576) /\ (x.trace.length <= 1048576) /\ (x.replies.length <= 1048576)
def fitB (c : DConfig) (p : DPolicy) : Bool := (fi_PolicyFits c p).getD false
theorem m_Fits (c : DConfig) (p : DPolicy) (hl : p.weights.length < 1073741823) : fi_PolicyFits c p = some (fitB c p) := by
  obtain ⟨b, e, _⟩ := t_PolicyFits c p hl
  unfold fitB
  rw [e]
  rfl
theorem ba1 (a x : Bool) : (bif a then some x else some false) = some (a && x) := by cases a <;> rfl
theorem ba2 (a x : Bool) : (bif !a then some false else some x) = some (a && x) := by cases a <;> rfl
theorem ba3 (a b : Int) (x : Bool) : (bif a != b then some false else some x) = some (a == b && x) := by
  rw [bne]
  cases a == b <;> rfl
theorem ba4 (p : Prop) [Decidable p] (x : Bool) : (bif decide p then some false else some x) = some (!decide p && x) := by cases decide p <;> rfl
def ctlOk (c : DController) : Bool :=
  fitB c.config c.box.active && (fitB c.config c.box.next && (inR c.now 0 1000000 && (rankOk c.config.geometry c.rank && (rdyOk c.config.geometry c.ready && (arrOk c.config.geometry c.array && (spareOk c.config.geometry c.spare && (c.spare.spares == c.config.spares && ((refOk c.refresh && partsB c) && (queOk (linesN (regG c.config.geometry c.spare)) c.queue && (sharesOk c.shares && ((c.shares.length : Int) == 4 && (drainOk c.drain && (powOk c.power && (c.power.state == c.rank.power && (!decide (c.power.since > c.now) && (inR c.scrubber.every 1 100000 && (inR c.scrubber.wait 1 c.scrubber.every && (inR c.scrubber.next 0 (IntKind.i64.wrap (linesN c.config.geometry - 1)) && (errsOk c.errors && (decide ((c.trace.length : Int) <= 2000) && decide ((c.replies.length : Int) <= 400)))))))))))))))))))))
theorem arr_of (c : DController) (h : ctlOk c = true) : arrOk c.config.geometry c.array = true := by
  simp only [ctlOk, Bool.and_eq_true] at h
  exact h.2.2.2.2.2.1
theorem m_ControllerOk (c : DController) (hz : ZController c) : fi_ControllerOk c = some (ctlOk c) := by
  obtain ⟨⟨z1, z2⟩, z3, ⟨z4, z5⟩, ⟨⟨z6, z6'⟩, z7, z8⟩, z9, z10, ⟨z11, z11'⟩, z12, z13, z14, z15, z16, z17, z18⟩ := hz
  unfold ZPolicy at z1 z2
  have hsy : ∀ x ∈ c.array.cells, x.symbols.length < 1073741824 := fun x hx => by
    have := z6' x hx
    unfold ZCell at this
    omega
  unfold ZRefresh at z10
  unfold fi_ControllerOk ctlOk
  simp only [m_Fits _ _ (show c.box.active.weights.length < 1073741823 by omega), m_Fits _ _ (show c.box.next.weights.length < 1073741823 by omega), m_between, m_RankOk, m_ReadyOk, m_ArrayOk _ _ hsy, m_SpareOk, m_partsOk _ (show c.refresh.debt.length < 1073741824 by omega), m_RegularGeometry, m_LineCount, m_QueueOk _ _ (show c.queue.length < 1073741824 by omega), m_SharesOk _ (show c.shares.length < 1073741824 by omega), m_DrainOk, m_PowerOk, m_ErrorsOk _ (show c.errors.length < 1073741824 by omega), bindS, ba1, ba2, ba3, ba4]
def keptB (c : DController) (i : Nat) : Bool := !(goneB c.config.limits c.array i)
theorem grid_all (R bn : Nat) (hR : 0 < R) (p : Nat -> Bool) : (List.range (bn * R)).all p = (List.range bn).all fun b => (List.range R).all fun j => p (b * R + j) := by
  rw [Bool.eq_iff_iff, List.all_eq_true, List.all_eq_true]
  simp only [List.mem_range, List.all_eq_true]
  constructor
  · intro h b hb j hj
    refine h _ ?_
    have := spared (R := R) hb (show j + 1 <= R from hj)
    omega
  · intro h i hi
    have hb : i / R < bn := Nat.div_lt_of_lt_mul (by rw [Nat.mul_comm]; exact hi)
    have hj : i % R < R := Nat.mod_lt _ hR
    have e : i / R * R + i % R = i := by rw [Nat.mul_comm]; exact Nat.div_add_mod i R
    have := h _ hb _ hj
    rw [e] at this
    exact this
theorem st_iRows2 (c : DController) (g : DGeometry) (b r : Int) : Lfi_RowsSafe_2 (((), (), b, r, ()), (ctlT c, (g.groups, g.banks, g.rows, g.cols, ()), ())) = (bif (decide (r < g.rows)) then (fi_decayed g c.config.limits c.array b r).bind fun y3 => bif y3 then some (.inr (.inl ((false, ()), ()))) else some (.inl (((), (), b, (IntKind.i64.wrap (r + (1 : Int))), ()), (ctlT c, (g.groups, g.banks, g.rows, g.cols, ()), ()))) else some (.inr (.inr (.inl (((), (), b, ()), (ctlT c, (g.groups, g.banks, g.rows, g.cols, ()), ())))))) := rfl
theorem st_iRows0 (c : DController) (g : DGeometry) (b : Int) : Lfi_RowsSafe_0 (((), (), b, ()), (ctlT c, (g.groups, g.banks, g.rows, g.cols, ()), ())) = ((fi_BankCount g).bind fun y2 => bif (decide (b < y2)) then (iter Lfi_RowsSafe_2 big (((), (), b, (0 : Int), ()), (ctlT c, (g.groups, g.banks, g.rows, g.cols, ()), ()))).bind (Sum.elim (fun z4 => some (.inr (.inl ((z4.1.1, ()), ())))) (Sum.elim (fun z5 => some (.inl (((), (), (IntKind.i64.wrap (z5.1.2.2.1 + (1 : Int))), ()), z5.2))) (fun z => nomatch z))) else some (.inr (.inr (.inl ((), ()))))) := rfl
theorem arr_b {g : DGeometry} {a : DArray} (h : arrOk g a = true) : geoOk g = true /\ (a.age.length : Int) = rowsN g /\ (a.hits.length : Int) = rowsN g := by
  simp only [arrOk, Bool.and_eq_true, decide_eq_true_eq] at h
  exact ⟨h.1, h.2.2.1, h.2.2.2.1⟩
theorem m_decayed {g : DGeometry} (l : DLimits) (a : DArray) {R b j : Nat} (hR : g.rows = (R : Int)) (h1 : b * R + j < a.age.length) (h2 : b * R + j < a.hits.length) (hs : a.age.length < 100000) : fi_decayed g l a (b : Int) (j : Int) = some (goneB l a (b * R + j)) := by
  have m1 : IntKind.i64.wrap ((b : Int) * (R : Int)) = ((b * R : Nat) : Int) := by rw [<- Int.natCast_mul]; exact wrapN (by omega)
  have m2 : IntKind.i64.wrap (((b * R : Nat) : Int) + (j : Int)) = ((b * R + j : Nat) : Int) := by rw [<- Int.natCast_add]; exact wrapN (by omega)
  have hw : IntKind.i64.wrap (IntKind.i64.wrap ((b : Int) * g.rows) + (j : Int)) = ((b * R + j : Nat) : Int) := by rw [hR, m1, m2]
  unfold fi_decayed goneB
  generalize b * R + j = i at *
  simp only [hw, List.getD_eq_getElem?_getD, List.getElem?_eq_getElem h1, List.getElem?_eq_getElem h2, Option.getD_some]
  by_cases h : a.age[i] > l.age <;> simp [h1, h2, h]
theorem m_RowsSafe (c : DController) (hz : ZController c) : fi_RowsSafe c = some (ctlOk c && (List.range c.array.age.length).all (keptB c)) := by
  unfold fi_RowsSafe
  rw [m_ControllerOk c hz, bindS]
  cases hc : ctlOk c with
  | false => rfl
  | true =>
    obtain ⟨hg, h1, h2⟩ := arr_b (arr_of c hc)
    have b1 := banksN_b c.config.geometry
    have b2 := rowsN_b c.config.geometry
    have gb := geo_b hg
    have er : banksN c.config.geometry * c.config.geometry.rows = rowsN c.config.geometry := by simp [rowsN, hg]
    generalize hgg : c.config.geometry = g at *
    obtain ⟨bn, hb⟩ := Int.eq_ofNat_of_zero_le b1.1
    obtain ⟨R, hR⟩ := Int.eq_ofNat_of_zero_le (show 0 <= g.rows by omega)
    have hlen : c.array.age.length = bn * R := by
      rw [hb, hR, <- Int.natCast_mul] at er
      omega
    have inner : ∀ b : Nat, b < bn -> iter Lfi_RowsSafe_2 big (((), (), (b : Int), (0 : Int), ()), (ctlT c, (g.groups, g.banks, g.rows, g.cols, ()), ())) = some (bif (List.range R).all (fun j => keptB c (b * R + j)) then .inr (.inl (((), (), (b : Int), ()), (ctlT c, (g.groups, g.banks, g.rows, g.cols, ()), ()))) else .inl ((false, ()), ())) := by
      intro b hbn
      have e := iter_all (step := Lfi_RowsSafe_2) (List.range R) (fun j => keptB c (b * R + j)) (fun i => (((), (), (b : Int), (i : Int), ()), (ctlT c, (g.groups, g.banks, g.rows, g.cols, ()), ()))) (.inl ((false, ()), ())) (.inr (.inl (((), (), (b : Int), ()), (ctlT c, (g.groups, g.banks, g.rows, g.cols, ()), ())))) big (fun k h => by
        rw [List.length_range] at h
        have hk := spared (R := R) hbn (show k + 1 <= R from h)
        rw [List.getElem_range, st_iRows2, decide_eq_true (by omega), cond_true, m_decayed c.config.limits c.array hR (by omega) (by omega) (by omega), bindS, wrapS (by omega)]
        unfold keptB
        cases goneB c.config.limits c.array (b * R + k) <;> rfl) (by
        rw [List.length_range, st_iRows2, decide_eq_false (by omega), cond_false]) (by rw [List.length_range]; exact bigLt (by omega))
      rw [Int.natCast_zero] at e
      exact e
    have e := iter_all (step := Lfi_RowsSafe_0) (List.range bn) (fun b => (List.range R).all fun j => keptB c (b * R + j)) (fun i => (((), (), (i : Int), ()), (ctlT c, (g.groups, g.banks, g.rows, g.cols, ()), ()))) (.inl ((false, ()), ())) (.inr (.inl ((), ()))) big (fun k h => by
      rw [List.length_range] at h
      rw [List.getElem_range, st_iRows0, m_BankCount, bindS, hb, decide_eq_true (by omega), cond_true, inner k h, bindS]
      cases (List.range R).all fun j => keptB c (k * R + j) with
      | false => rfl
      | true =>
        simp only [cond_true, Sum.elim_inr, Sum.elim_inl]
        rw [wrapS (by omega)]) (by
      rw [List.length_range, st_iRows0, m_BankCount, bindS, hb, decide_eq_false (by omega), cond_false]) (by rw [List.length_range]; exact bigLt (by omega))
    rw [Int.natCast_zero] at e
    simp only [Bool.not_true, cond_false, Bool.true_and]
    subst hgg
    refine (congrArg (fun o => Option.bind o _) e).trans ?_
    rw [bindS, hlen, grid_all R bn (by omega)]
    cases (List.range bn).all fun b => (List.range R).all fun j => keptB c (b * R + j) <;> rfl
def PolX0 (p : DPolicy) : Prop := (0 <= p.page /\ p.page <= 1) /\ (0 <= p.cap /\ p.cap <= 200) /\ (0 <= p.low /\ p.low <= 2) /\ (p.low < p.high /\ p.high <= 6) /\ (∃ (i : Nat) (w : Int), i < 4 /\ 1 <= w /\ w <= 4 /\ p.weights = [1, 1, 1, 1].set i w) /\ (5 <= p.rule.down /\ p.rule.down <= 24) /\ (60 <= p.rule.sleep /\ p.rule.sleep <= 119)
def PolX (p : DPolicy) : Prop := PolX0 p /\ 8 <= p.limit /\ p.limit <= 17
theorem rx_l34Policy {b : List Int} {c : DCur} (hc : Cok b c) : Dr b (fs_l34Policy c) PolX0 := by
  unfold fs_l34Policy
  rw [hc.eq]
  show Dr b (Option.bind (some _) _) _
  rw [bindS]
  refine (p_below hc 2).bind fun x1 k1 h1 hk1 => ?_
  dsimp only
  rw [hk1.eta]
  refine (p_pick hk1 _ (by decide)).bind fun x2 k2 h2 hk2 => ?_
  dsimp only
  rw [hk2.eta]
  refine (p_below hk2 6).bind fun x3 k3 h3 hk3 => ?_
  dsimp only
  rw [hk3.eta]
  refine (p_below hk3 3).bind fun x4 k4 h4 hk4 => ?_
  dsimp only
  rw [hk4.eta]
  refine (p_below hk4 4).bind fun x5 k5 h5 hk5 => ?_
  dsimp only
  rw [hk5.eta]
  refine (p_below hk5 4).bind fun x6 k6 h6 hk6 => ?_
  dsimp only
  rw [hk6.eta]
  refine (p_below hk6 4).bind fun x7 k7 h7 hk7 => ?_
  have a1 := h1.2.2 (by omega)
  have a3 := h3.2.2 (by omega)
  have a4 := h4.2.2 (by omega)
  have a5 := h5.2.2 (by omega)
  have a6 := h6.2.2 (by omega)
  have a7 := h7.2.2 (by omega)
  have b3 := h3.1
  have b4 := h4.1
  have b5 := h5.1
  have b6 := h6.1
  have b7 := h7.1
  have hl : x6.toNat < ([1, 1, 1, 1] : List Int).length := by simp only [List.length_cons, List.length_nil]; omega
  dsimp only
  rw [dif_pos ⟨b6, hl⟩, dif_pos hl, hk7.eta]
  refine (p_below hk7 20).bind fun x8 k8 h8 hk8 => ?_
  dsimp only
  rw [hk8.eta]
  refine (p_below hk8 60).bind fun x9 k9 h9 hk9 => ?_
  dsimp only
  rw [hk9.eta]
  have a8 := h8.2.2 (by omega)
  have a9 := h9.2.2 (by omega)
  have b8 := h8.1
  have b9 := h9.1
  rw [w64 (n := 3 + x3) (by omega) (by omega), w64 (n := x4 + 1) (by omega) (by omega), w64 (n := x4 + 1 + x5) (by omega) (by omega), w64 (n := 1 + x7) (by omega) (by omega), w64 (n := 5 + x8) (by omega) (by omega), w64 (n := 60 + x9) (by omega) (by omega)]
  simp only [List.mem_cons, List.not_mem_nil, or_false] at h2
  refine Dr.pure hk9 ⟨⟨h1.1, by show x1 <= _; omega⟩, ⟨by show 0 <= x2; omega, by show x2 <= _; omega⟩, ⟨h4.1, by show x4 <= _; omega⟩, ⟨by show x4 < x4 + 1 + x5; omega, by show x4 + 1 + x5 <= _; omega⟩, ⟨x6.toNat, 1 + x7, by omega, by omega, by omega, rfl⟩, ⟨by show 5 <= 5 + x8; omega, by show 5 + x8 <= _; omega⟩, ⟨by show 60 <= 60 + x9; omega, by show 60 + x9 <= _; omega⟩⟩
theorem rx_l35Policy {b : List Int} {c : DCur} (hc : Cok b c) : Dr b (fs_l35Policy c) PolX := by
  unfold fs_l35Policy
  rw [hc.eq]
  refine (rx_l34Policy hc).bind fun x1 k1 h1 hk1 => ?_
  dsimp only
  rw [hk1.eta]
  refine (p_below hk1 10).bind fun x2 k2 h2 hk2 => ?_
  dsimp only
  rw [hk2.eta]
  have a2 := h2.2.2 (by omega)
  have b2 := h2.1
  rw [w64 (by omega) (by omega)]
  exact Dr.pure hk2 ⟨h1, by show 8 <= 8 + x2; omega, by show 8 + x2 <= _; omega⟩
theorem rx_l14Small {b : List Int} {c : DCur} (hc : Cok b c) : Dr b (fs_l14Small c) fun g => g.groups = 1 /\ 1 <= g.banks /\ g.banks <= 2 /\ 1 <= g.cols /\ g.cols <= 2 := by
  unfold fs_l14Small
  rw [hc.eq]
  refine (p_below hc 2).bind fun x1 k1 h1 hk1 => ?_
  dsimp only
  rw [hk1.eta]
  refine (p_below hk1 3).bind fun x2 k2 h2 hk2 => ?_
  dsimp only
  rw [hk2.eta]
  refine (p_below hk2 2).bind fun x3 k3 h3 hk3 => ?_
  dsimp only
  rw [hk3.eta]
  have a1 := h1.2.2 (by omega)
  have a2 := h2.2.2 (by omega)
  have a3 := h3.2.2 (by omega)
  have b1 := h1.1
  have b2 := h2.1
  have b3 := h3.1
  rw [w64 (by omega) (by omega), w64 (by omega) (by omega), w64 (by omega) (by omega)]
  exact Dr.pure hk3 ⟨rfl, by show 1 <= 1 + x1; omega, by show 1 + x1 <= _; omega, by show 1 <= 1 + x3; omega, by show 1 + x3 <= _; omega⟩
theorem rx_l04Map {b : List Int} {c : DCur} (hc : Cok b c) : Dr b (fs_l04Map c) fun m => 0 <= m.order /\ m.order <= 2 := by
  unfold fs_l04Map
  rw [hc.eq]
  refine (p_below hc 3).bind fun x1 k1 h1 hk1 => ?_
  dsimp only
  rw [hk1.eta]
  refine (p_once hk1 2).bind fun x2 k2 h2 hk2 => ?_
  dsimp only
  rw [hk2.eta]
  have a1 := h1.2.2 (by omega)
  exact Dr.pure hk2 ⟨h1.1, by show x1 <= 2; omega⟩
def fastT (rtp wr : Int) : DTiming := ⟨3, 3, 7, 2, 3, 10, 2, 3, rtp, wr, 4, 5, 4, 12, 3, 4, 16⟩
def GeoX (g : DGeometry) : Prop := (1 <= g.groups /\ g.groups <= 2) /\ (1 <= g.banks /\ g.banks <= 2) /\ (4 <= g.rows /\ g.rows <= 6) /\ (1 <= g.cols /\ g.cols <= 2)
def CfgX (x : DConfig) : Prop := GeoX x.geometry /\ (∃ r w : Int, 1 <= r /\ r <= 4 /\ 4 <= w /\ w <= 8 /\ x.timing = fastT r w) /\ (0 <= x.mapping.order /\ x.mapping.order <= 2) /\ (0 <= x.spares /\ x.spares <= 2) /\ (200 <= x.interval /\ x.interval <= 259) /\ x.track = 16 /\ x.limits = ⟨6 * x.interval, 40⟩
theorem rx_l35Config {b : List Int} {c : DCur} (hc : Cok b c) : Dr b (fs_l35Config c) CfgX := by
  unfold fs_l35Config
  rw [hc.eq]
  refine (rx_l14Small hc).bind fun g kg hg hkg => ?_
  dsimp only
  rw [hkg.eta]
  obtain ⟨g1, g2, g3, g4, g5⟩ := hg
  show Dr b (Option.bind (some _) _) _
  rw [bindS]
  refine (rx_l04Map hkg).bind fun m km hm hkm => ?_
  dsimp only
  rw [hkm.eta]
  refine (p_below hkm 60).bind fun x1 k1 h1 hk1 => ?_
  dsimp only
  rw [hk1.eta]
  refine (p_below hk1 3).bind fun x2 k2 h2 hk2 => ?_
  dsimp only
  rw [hk2.eta]
  refine (p_below hk2 2).bind fun x3 k3 h3 hk3 => ?_
  dsimp only
  rw [hk3.eta]
  refine (p_below hk3 3).bind fun x4 k4 h4 hk4 => ?_
  dsimp only
  rw [hk4.eta]
  refine (p_once hk4 3).bind fun x5 k5 h5 hk5 => ?_
  dsimp only
  rw [hk5.eta]
  have a1 := h1.2.2 (by omega)
  have a2 := h2.2.2 (by omega)
  have a3 := h3.2.2 (by omega)
  have a4 := h4.2.2 (by omega)
  have b1 := h1.1
  have b2 := h2.1
  have b3 := h3.1
  have b4 := h4.1
  have e1 : IntKind.i64.wrap (200 + x1) = 200 + x1 := w64 (by omega) (by omega)
  have e2 : IntKind.i64.wrap (6 * (200 + x1)) = 6 * (200 + x1) := w64 (by omega) (by omega)
  have e3 : IntKind.i64.wrap (4 + x2) = 4 + x2 := w64 (by omega) (by omega)
  have e4 : IntKind.i64.wrap (1 + x3) = 1 + x3 := w64 (by omega) (by omega)
  rw [e1, e2, e3, e4]
  have hG : GeoX ⟨1 + x3, g.banks, 4 + x2, g.cols⟩ := ⟨⟨by show 1 <= 1 + x3; omega, by show 1 + x3 <= 2; omega⟩, ⟨g2, g3⟩, ⟨by show 4 <= 4 + x2; omega, by show 4 + x2 <= 6; omega⟩, ⟨g4, g5⟩⟩
  cases x5 with
  | true =>
    rw [cond_true]
    refine (p_below hk5 5).bind fun x6 k6 h6 hk6 => ?_
    dsimp only
    rw [hk6.eta]
    refine (p_below hk6 4).bind fun x7 k7 h7 hk7 => ?_
    dsimp only
    rw [hk7.eta]
    have a6 := h6.2.2 (by omega)
    have a7 := h7.2.2 (by omega)
    have b6 := h6.1
    have b7 := h7.1
    rw [w64 (n := 1 + x7) (by omega) (by omega), w64 (n := 4 + x6) (by omega) (by omega)]
    exact Dr.pure hk7 ⟨hG, ⟨1 + x7, 4 + x6, by omega, by omega, by omega, by omega, rfl⟩, hm, ⟨b4, by show x4 <= 2; omega⟩, ⟨by show 200 <= 200 + x1; omega, by show 200 + x1 <= 259; omega⟩, rfl, rfl⟩
  | false => exact Dr.pure hk5 ⟨hG, ⟨3, 6, by omega, by omega, by omega, by omega, rfl⟩, hm, ⟨b4, by show x4 <= 2; omega⟩, ⟨by show 200 <= 200 + x1; omega, by show 200 + x1 <= 259; omega⟩, rfl, rfl⟩
theorem rx_DrawConfig (l : List Int) (h : l.length <= 1073741823) : ∃ c p, fs_DrawConfig l = some (c, p) /\ CfgX c /\ PolX p := by
  unfold fs_DrawConfig
  obtain ⟨h0, e0⟩ := p_new l h
  obtain ⟨x, k, e1, hk, hx⟩ := rx_l35Config (new_cok l h0 h)
  obtain ⟨p, k2, e2, _, hp⟩ := rx_l35Policy hk
  refine ⟨x, p, ?_, hx, hp⟩
  rw [e0, bindS, e1, bindS]
  dsimp only
  rw [hk.eta, e2]
  rfl
def newTr : DTracker := ⟨List.replicate 16 (-1), List.replicate 16 0, 0⟩
theorem m_TrackerNew16 : fi_TrackerNew 16 = some (newTr, true) := by kernel_rfl
theorem m_Encode0 : fi_EncodeLine 0 = some (List.replicate 11 0) := by kernel_rfl
def cell0 : DCell := ⟨List.replicate 11 0, false⟩
def newA (g : DGeometry) : DArray := ⟨List.replicate (linesN g).toNat cell0, List.replicate (rowsN g).toNat 0, List.replicate (rowsN g).toNat 0⟩
theorem m_iArrayNew {g : DGeometry} (hg : geoOk g = true) : fi_ArrayNew g = some (newA g) := by
  have b1 := linesN_b g
  have b2 := rowsN_b g
  have er : banksN g * g.rows = rowsN g := by simp [rowsN, hg]
  obtain ⟨n, hn⟩ := Int.eq_ofNat_of_zero_le b1.1
  unfold fi_ArrayNew
  rw [m_GeometryOk, bindS, hg, Bool.not_true, cond_false, m_BankCount, bindS, er, w64 (n := rowsN g) (by omega) (by omega), if_pos ⟨by omega, by omega, by omega⟩, if_pos ⟨by omega, by omega, by omega⟩]
  generalize hA : List.replicate (rowsN g).toNat (0 : Int) = A
  have e := iter_to (step := Lfi_ArrayNew_0) n (fun i => (((), (), (), (i : Int), ()), ((g.groups, g.banks, g.rows, g.cols, ()), ((), (), (), ()), ((), (), (), ()), ([] : List DCell), ([] : List Int), ([] : List Int), List.replicate i cell0, A, A, ())))
    (.inl (((), (), ()), (((), (), (), ()), ((), (), (), ()), ([] : List DCell), ([] : List Int), ([] : List Int), List.replicate n cell0, A, A, ()))) big (fun k h => by
    unfold Lfi_ArrayNew_0
    dsimp only
    rw [eta_g, m_LineCount, bindS, hn, decide_eq_true (by omega), cond_true, m_Encode0, bindS, okLen_t (by simp; omega), cond_true, wrapS (by omega), List.replicate_succ' (n := k)]
    rfl) (by
    unfold Lfi_ArrayNew_0
    dsimp only
    rw [eta_g, m_LineCount, bindS, hn, decide_eq_false (by omega), cond_false]) (bigLt (by omega))
  rw [Int.natCast_zero, List.replicate_zero] at e
  rw [e, bindS]
  unfold newA
  rw [hn, hA, Int.toNat_natCast]
  rfl
def newC (c : DConfig) (p : DPolicy) : DController := ⟨c, ⟨p, p, false⟩, 0, ranN c.geometry, rdyN c.geometry, newA c.geometry, (spareNew c.geometry c.spares).1, ⟨List.replicate (banksN c.geometry).toNat 0, c.interval, false⟩, List.replicate (banksN c.geometry).toNat newTr, List.replicate (banksN c.geometry).toNat p.limit, [], [], p.weights.map shareOf, ⟨false, p.low, p.high⟩, ⟨0, 0, 0⟩, ⟨0, 10, 10⟩, [], [], []⟩
theorem polX_ok {p : DPolicy} (h : PolX p) : polOk p = true /\ sharesOk (p.weights.map shareOf) = true /\ p.weights.length = 4 := by
  obtain ⟨⟨⟨h1, h2⟩, ⟨h3, h4⟩, ⟨h5, h6⟩, ⟨h7, h8⟩, ⟨i, w, hi, hw1, hw2, hw⟩, ⟨h9, h10⟩, h11, h12⟩, h13, h14⟩ := h
  have hl : p.weights.length = 4 := by rw [hw, List.length_set]; rfl
  have hs : sharesOk (p.weights.map shareOf) = true := by
    rw [hw]
    rcases (by omega : i = 0 \/ i = 1 \/ i = 2 \/ i = 3) with rfl | rfl | rfl | rfl <;> rcases (by omega : w = 1 \/ w = 2 \/ w = 3 \/ w = 4) with rfl | rfl | rfl | rfl <;> rfl
  refine ⟨?_, hs, hl⟩
  unfold polOk drainOk ruleOk
  rw [hs, hl]
  simp only [inR, Bool.and_eq_true, decide_eq_true_eq, beq_iff_eq]
  refine ⟨⟨h1, h2⟩, ⟨h3, by omega⟩, ⟨by omega, by omega⟩, ⟨h5, h7, by omega⟩, rfl, trivial, ⟨by omega, by omega⟩, by omega, by omega⟩
theorem m_GuardX {n : Int} (h1 : 8 <= n) (h2 : n <= 17) : fi_GuardBound n = some (2 * n + 2) := by
  unfold fi_GuardBound
  rw [m_between, bindS, inR_iff.2 ⟨by omega, by omega⟩, Bool.not_true, cond_false, w64 (n := 2 * n) (by omega) (by omega), w64 (by omega) (by omega)]
theorem geoX_ok {g : DGeometry} (h : GeoX g) : geoOk g = true := by
  obtain ⟨⟨h1, h2⟩, ⟨h3, h4⟩, ⟨h5, h6⟩, h7, h8⟩ := h
  simp only [geoOk, inR, Bool.and_eq_true, decide_eq_true_eq]
  omega
theorem fastX : ∀ r ∈ [(1 : Int), 2, 3, 4], ∀ w ∈ [(4 : Int), 5, 6, 7, 8], timOk (fastT r w) = true /\ decide (needN (fastT r w) <= 200) = true := by
  intro r hr w hw
  simp only [List.mem_cons, List.not_mem_nil, or_false] at hr hw
  rcases hr with rfl | rfl | rfl | rfl <;> rcases hw with rfl | rfl | rfl | rfl | rfl <;> exact ⟨by kernel_rfl, by kernel_rfl⟩
theorem cfgX_ok {c : DConfig} (h : CfgX c) : cfgOk c = true := by
  obtain ⟨hg, ⟨r, w, hr1, hr2, hw1, hw2, ht⟩, ⟨hm1, hm2⟩, ⟨hs1, hs2⟩, ⟨hi1, hi2⟩, htr, hl⟩ := h
  have hgo := geoX_ok hg
  obtain ⟨t1, t2⟩ := fastX r (by simp; omega) w (by simp; omega)
  have t2 := of_decide_eq_true t2
  obtain ⟨⟨h1, h2⟩, ⟨h3, h4⟩, ⟨h5, h6⟩, h7, h8⟩ := hg
  unfold cfgOk spareB
  rw [hgo, ht, t1, hl, htr]
  dsimp only
  rw [w64 (n := 6 * c.interval) (by omega) (by omega)]
  simp only [inR, Bool.and_eq_true, decide_eq_true_eq, true_and]
  omega
theorem fitX {c : DConfig} {p : DPolicy} (hc : CfgX c) (hp : PolX p) : fi_PolicyFits c p = some true := by
  have h1 := cfgX_ok hc
  obtain ⟨h2, _, h3⟩ := polX_ok hp
  obtain ⟨hg, ⟨r, w, hr1, hr2, hw1, hw2, ht⟩, ⟨hm1, hm2⟩, ⟨hs1, hs2⟩, ⟨hi1, hi2⟩, htr, hl⟩ := hc
  obtain ⟨_, p1, p2⟩ := hp
  have e1 : c.timing.ras = 7 := by rw [ht]; rfl
  have e2 : c.timing.rp = 3 := by rw [ht]; rfl
  unfold fi_PolicyFits
  rw [m_ConfigOk, bindS, h1, cond_true, m_PolicyOk _ (by omega), bindS, h2, cond_true, m_GuardX p1 p2, bindS, hl, htr, e1, e2, w64 (n := 2 * p.limit + 2 + 2) (by omega) (by omega)]
  dsimp only
  rw [decide_eq_true (by omega), cond_true, w64 (n := 7 + 3) (by omega) (by omega), if_neg (by omega), w64 (n := 5 * c.interval) (by omega) (by omega), Int.tdiv_eq_ediv_of_nonneg (by omega), w64 (n := 16 + 1) (by omega) (by omega), w64 (n := (16 + 1) * p.limit) (by omega) (by omega), w64 (n := 5 * c.interval / (7 + 3)) (by omega) (by omega), w64 (by omega) (by omega), decide_eq_true (by omega)]
theorem m_copyPol {p : DPolicy} (h : p.weights.length = 4) : fi_copyPolicy p = some p := by
  unfold fi_copyPolicy
  rw [okLen_t (by simp [h]), cond_true, List.nil_append]
theorem m_BoxNewX {p : DPolicy} (hp : PolX p) : fi_BoxNew p = some (⟨p, p, false⟩, true) := by
  obtain ⟨h2, _, h3⟩ := polX_ok hp
  unfold fi_BoxNew
  rw [m_PolicyOk _ (by omega), bindS, h2, Bool.not_true, cond_false, m_copyPol h3, bindS, bindS]
def grow (x : DController) (l : Int) (i : Nat) : DController := ⟨x.config, x.box, x.now, x.rank, x.ready, x.array, x.spare, x.refresh, x.trackers ++ List.replicate i newTr, x.guard ++ List.replicate i l, x.pending, x.queue, x.shares, x.drain, x.power, x.scrubber, x.errors, x.trace, x.replies⟩
theorem newLoop (Z cu : DController) (c : DConfig) (p : DPolicy) (n : Nat) (hn : banksN c.geometry = (n : Int)) (h8 : n <= 8) (htr : c.track = 16) (h1 : cu.trackers = []) (h2 : cu.guard = []) :
    iter Lfi_ControllerNew_0 big (((), (), (), (), (), (0 : Int), ()), (Z, cu, c, (p.page, p.cap, p.limit, p.low, p.high, p.weights, p.rule.down, p.rule.sleep, ()), (c.geometry.groups, c.geometry.banks, c.geometry.rows, c.geometry.cols, ()), ())) = some (.inl (((), (), ()), (Z, grow cu p.limit n, ()))) := by
  have e := iter_to (step := Lfi_ControllerNew_0) n (fun i => (((), (), (), (), (), (i : Int), ()), (Z, grow cu p.limit i, c, (p.page, p.cap, p.limit, p.low, p.high, p.weights, p.rule.down, p.rule.sleep, ()), (c.geometry.groups, c.geometry.banks, c.geometry.rows, c.geometry.cols, ()), ()))) (.inl (((), (), ()), (Z, grow cu p.limit n, ()))) big (fun k h => by
    unfold Lfi_ControllerNew_0 grow
    dsimp only
    rw [eta_g, m_BankCount, bindS, hn, decide_eq_true (by omega), cond_true, htr, m_TrackerNew16, bindS, h1, h2, okLen_t (by simp; omega), cond_true, okLen_t (by simp; omega), cond_true, wrapS (by omega), List.replicate_succ' (n := k), List.replicate_succ' (n := k), List.append_assoc, List.append_assoc]) (by
    unfold Lfi_ControllerNew_0
    dsimp only
    rw [eta_g, m_BankCount, bindS, hn, decide_eq_false (by omega), cond_false]) (bigLt (by omega))
  have e0 : grow cu p.limit 0 = cu := by
    unfold grow
    simp only [List.replicate_zero, List.append_nil]
  rw [Int.natCast_zero, e0] at e
  exact e
theorem m_ControllerNew {c : DConfig} {p : DPolicy} (hc : CfgX c) (hp : PolX p) : fi_ControllerNew c p = some (newC c p, true) := by
  have hg := geoX_ok hc.1
  have hb := banksN_b c.geometry
  have hbp := banksN_pos hg
  obtain ⟨h2, hs, h3⟩ := polX_ok hp
  obtain ⟨n, hn⟩ := Int.eq_ofNat_of_zero_le hb.1
  have htr : c.track = 16 := hc.2.2.2.2.2.1
  have hiv : 200 <= c.interval /\ c.interval <= 259 := hc.2.2.2.2.1
  have hrf : fi_RefreshNew (banksN c.geometry) c.interval = some (⟨List.replicate (banksN c.geometry).toNat 0, c.interval, false⟩, true) := by
    unfold fi_RefreshNew
    rw [m_between, bindS, inR_iff.2 ⟨by omega, by omega⟩, Bool.not_true, cond_false, m_between, bindS, inR_iff.2 ⟨by omega, by omega⟩, Bool.not_true, cond_false, if_pos ⟨by omega, by omega, by omega⟩]
  have hsc : fi_ScrubberNew 10 = some (⟨0, 10, 10⟩, true) := rfl
  have hsn : sharesNew p.weights = (p.weights.map shareOf, true) := by unfold sharesNew; rw [hs, cond_true]
  unfold fi_ControllerNew
  rw [fitX hc hp, bindS, Bool.not_true, cond_false, m_RankNew, bindS, m_ReadyNew hg, bindS, m_iArrayNew hg, bindS, m_BoxNewX hp, bindS, m_SpareNew, bindS, m_BankCount, bindS, hrf, bindS, m_SharesNew _ (by omega), bindS, hsc, bindS, hsn]
  dsimp only
  rw [newLoop _ _ c p n hn (by omega) htr rfl rfl, bindS]
  unfold newC grow
  rw [hn]
  rfl
def regN (g : DGeometry) (sp : Int) : DGeometry := ⟨g.groups, g.banks, g.rows - sp, g.cols⟩
def gpart (g : DGeometry) (sp : Int) : Bool := rankOk g (ranN g) && (rdyOk g (rdyN g) && (arrOk g (newA g) && (spareOk g (spareNew g sp).1 && ((spareNew g sp).1.spares == sp && (geoOk (regN g sp) && (decide (0 < linesN (regN g sp)) && (IntKind.i64.wrap (IntKind.i64.wrap ((linesN g).tdiv g.rows) * IntKind.i64.wrap (g.rows - sp)) == linesN (regN g sp) && (decide (1 <= linesN g) && decide ((spareNew g sp).1.map.length <= 1048576)))))))))
theorem gAll : (([1, 2] : List Int).all fun G => ([1, 2] : List Int).all fun B => ([4, 5, 6] : List Int).all fun R => ([1, 2] : List Int).all fun C => ([0, 1, 2] : List Int).all fun sp => gpart ⟨G, B, R, C⟩ sp) = true := by kernel_rfl
theorem gAll_at {g : DGeometry} {sp : Int} (h : GeoX g) (h1 : 0 <= sp) (h2 : sp <= 2) : gpart g sp = true := by
  obtain ⟨⟨a1, a2⟩, ⟨b1, b2⟩, ⟨c1, c2⟩, d1, d2⟩ := h
  have e := gAll
  simp only [List.all_eq_true] at e
  exact e g.groups (by simp; omega) g.banks (by simp; omega) g.rows (by simp; omega) g.cols (by simp; omega) sp (by simp; omega)
/-- The line of an address. -/
def invL (g : DGeometry) (m : DMapping) (a : DAddr) : Int :=
  let n := g.groups * g.banks
  let b := bif m.hash then (a.bank + n * 16 - a.row) % n else a.bank
  bif m.order == 0 then (a.row * n + b) * g.cols + a.col else bif m.order == 1 then (a.row * g.cols + a.col) * n + b else (b * g.rows + a.row) * g.cols + a.col
def mapB (g : DGeometry) (m : DMapping) (i : Nat) : Bool := match fi_MapLine g m (i : Int) with
  | some (a, true) => inR a.bank 0 (banksN g - 1) && (inR a.row 0 (g.rows - 1) && invL g m a == (i : Int))
  | _ => false
theorem mapAll : (([1, 2] : List Int).all fun G => ([1, 2] : List Int).all fun B => ([2, 3, 4, 5, 6] : List Int).all fun R => ([1, 2] : List Int).all fun C => ([0, 1, 2] : List Int).all fun o => [true, false].all fun h => (List.range (linesN ⟨G, B, R, C⟩).toNat).all (mapB ⟨G, B, R, C⟩ ⟨o, h⟩)) = true := by kernel_rfl
theorem mapAll_at {g : DGeometry} {sp : Int} {m : DMapping} (h : GeoX g) (h1 : 0 <= sp) (h2 : sp <= 2) (m1 : 0 <= m.order) (m2 : m.order <= 2) {i : Nat} (hi : (i : Int) < linesN (regN g sp)) : ∃ a, fi_MapLine (regN g sp) m (i : Int) = some (a, true) /\ (0 <= a.bank /\ a.bank <= banksN (regN g sp) - 1) /\ (0 <= a.row /\ a.row <= g.rows - sp - 1) /\ invL (regN g sp) m a = (i : Int) := by
  obtain ⟨⟨a1, a2⟩, ⟨b1, b2⟩, ⟨c1, c2⟩, d1, d2⟩ := h
  have e := mapAll
  simp only [List.all_eq_true] at e
  have e := e g.groups (by simp; omega) g.banks (by simp; omega) (g.rows - sp) (by simp; omega) g.cols (by simp; omega) m.order (by simp; omega) m.hash (by cases m.hash <;> simp) i (List.mem_range.2 (by show i < (linesN (regN g sp)).toNat; omega))
  change mapB (regN g sp) m i = true at e
  unfold mapB at e
  split at e
  · rename_i a ha
    simp only [Bool.and_eq_true, beq_iff_eq] at e
    exact ⟨a, ha, inR_iff.1 e.1, inR_iff.1 e.2.1, e.2.2⟩
  · cases e
/-- A stored row, once the geometry without spares is known. -/
def srow (x1 : DSpare) (g y1 : DGeometry) (x2 x3 : Int) : Option Int := (fi_rowExists y1 x2 x3).bind fun y2 => bif (!y2) then some (-1 : Int) else (fi_bankRows g x1 x2).bind fun y3 => bif Nat.ble y3.1 y3.2 && Nat.ble y3.2 x1.map.length then if h4 : 0 <= x3 /\ x3.toNat < ((x1.map.take y3.2).drop y3.1).length then (let e5 := ((x1.map.take y3.2).drop y3.1)[x3.toNat]'h4.2; some e5) else none else none
theorem srow_eq (g : DGeometry) (s : DSpare) (b r : Int) : fi_StoredRow g s b r = (fi_RegularGeometry g s).bind fun y1 => srow s g y1 b r := rfl
theorem rowAll : (([1, 2] : List Int).all fun G => ([1, 2] : List Int).all fun B => ([4, 5, 6] : List Int).all fun R => ([1, 2] : List Int).all fun C => ([0, 1, 2] : List Int).all fun sp => (List.range (banksN (regN ⟨G, B, R, C⟩ sp)).toNat).all fun b => (List.range (R - sp).toNat).all fun r => srow (spareNew ⟨G, B, R, C⟩ sp).1 ⟨G, B, R, C⟩ (regN ⟨G, B, R, C⟩ sp) (b : Int) (r : Int) == some (r : Int)) = true := by kernel_rfl
theorem rowAll_at {g : DGeometry} {sp : Int} (h : GeoX g) (h1 : 0 <= sp) (h2 : sp <= 2) {b r : Int} (hb : 0 <= b /\ b <= banksN (regN g sp) - 1) (hr : 0 <= r /\ r <= g.rows - sp - 1) : srow (spareNew g sp).1 g (regN g sp) b r = some r := by
  obtain ⟨⟨a1, a2⟩, ⟨b1, b2⟩, ⟨c1, c2⟩, d1, d2⟩ := h
  obtain ⟨b, rfl⟩ := Int.eq_ofNat_of_zero_le hb.1
  obtain ⟨r, rfl⟩ := Int.eq_ofNat_of_zero_le hr.1
  have e := rowAll
  simp only [List.all_eq_true, beq_iff_eq] at e
  exact e g.groups (by simp; omega) g.banks (by simp; omega) g.rows (by simp; omega) g.cols (by simp; omega) sp (by simp; omega) b (List.mem_range.2 (by show b < (banksN (regN g sp)).toNat; omega)) r (List.mem_range.2 (by omega))
theorem newTr_ok : trkOk newTr = true := by kernel_rfl
theorem z_newC {c : DConfig} {p : DPolicy} (hc : CfgX c) (hp : PolX p) : ZController (newC c p) := by
  have hb := banksN_b c.geometry
  have hl := linesN_b c.geometry
  have hr := rowsN_b c.geometry
  obtain ⟨_, _, h3⟩ := polX_ok hp
  have hg := gAll_at hc.1 hc.2.2.2.1.1 hc.2.2.2.1.2
  simp only [gpart, Bool.and_eq_true, decide_eq_true_eq] at hg
  refine ⟨⟨?_, ?_⟩, ?_, ⟨?_, ?_⟩, ⟨⟨?_, fun y hy => ?_⟩, ?_, ?_⟩, hg.2.2.2.2.2.2.2.2.2, ?_, ⟨?_, fun y hy => ?_⟩, ?_, ?_, ?_, ?_, ?_, ?_, ?_⟩
  · show p.weights.length <= _; omega
  · show p.weights.length <= _; omega
  · show (List.replicate _ _).length <= _; rw [List.length_replicate]; omega
  · show (List.replicate _ _).length <= _; rw [List.length_replicate]; omega
  · exact Nat.zero_le _
  · show (List.replicate _ _).length <= _; rw [List.length_replicate]; omega
  · obtain rfl := List.eq_of_mem_replicate hy
    exact Nat.le_of_ble_eq_true rfl
  · show (List.replicate _ _).length <= _; rw [List.length_replicate]; omega
  · show (List.replicate _ _).length <= _; rw [List.length_replicate]; omega
  · show (List.replicate _ _).length <= _; rw [List.length_replicate]; omega
  · show (List.replicate _ _).length <= _; rw [List.length_replicate]; omega
  · obtain rfl := List.eq_of_mem_replicate hy
    exact ⟨Nat.le_of_ble_eq_true rfl, Nat.le_of_ble_eq_true rfl⟩
  · show (List.replicate _ _).length <= _; rw [List.length_replicate]; omega
  · exact Nat.zero_le _
  · exact Nat.zero_le _
  · show (p.weights.map shareOf).length <= _; rw [List.length_map]; omega
  · exact Nat.zero_le _
  · exact Nat.zero_le _
  · exact Nat.zero_le _
theorem ok_newC {c : DConfig} {p : DPolicy} (hc : CfgX c) (hp : PolX p) : ctlOk (newC c p) = true := by
  have hb := banksN_b c.geometry
  have hbp := banksN_pos (geoX_ok hc.1)
  have hl := linesN_b c.geometry
  obtain ⟨_, hs, h3⟩ := polX_ok hp
  have hg := gAll_at hc.1 hc.2.2.2.1.1 hc.2.2.2.1.2
  simp only [gpart, Bool.and_eq_true, decide_eq_true_eq] at hg
  obtain ⟨g1, g2, g3, g4, g5, g6, g7, g8, g9, g10⟩ := hg
  have hf : fitB c p = true := by unfold fitB; rw [fitX hc hp]; rfl
  have hiv : 200 <= c.interval /\ c.interval <= 259 := hc.2.2.2.2.1
  obtain ⟨⟨_, _, ⟨l1, l2⟩, ⟨l3, l4⟩, _⟩, p1, p2⟩ := hp
  have e1 : refOk (newC c p).refresh = true := by
    unfold refOk
    simp only [newC, List.length_replicate, inR, Bool.and_eq_true, decide_eq_true_eq, List.all_replicate]
    refine ⟨?_, by omega, decide_eq_true (by omega), decide_eq_true (by omega)⟩
    split <;> rfl
  have e2 : partsB (newC c p) = true := by
    unfold partsB
    simp only [newC, List.length_replicate, Bool.and_eq_true, beq_iff_eq, List.length_nil, List.range_zero, List.all_nil]
    refine ⟨by omega, by omega, by omega, rfl, ?_, trivial⟩
    rw [List.all_eq_true]
    intro i hi
    have hi : i < (banksN c.geometry).toNat := List.mem_range.1 hi
    unfold partAt
    simp only [List.getElem?_replicate, hi, if_true, newTr_ok, Bool.true_and]
    exact inR_iff.2 ⟨by omega, by omega⟩
  have e3 : drainOk (newC c p).drain = true := by
    unfold drainOk
    simp only [newC, Bool.and_eq_true]
    exact ⟨decide_eq_true l1, decide_eq_true l3, decide_eq_true (by omega)⟩
  have e4 : inR 0 0 (IntKind.i64.wrap (linesN c.geometry - 1)) = true := by
    rw [w64 (by omega) (by omega)]
    exact inR_iff.2 ⟨by omega, by omega⟩
  have e5 : ((p.weights.map shareOf).length : Int) == 4 := by rw [List.length_map, h3]; rfl
  unfold ctlOk
  simp only [Bool.and_eq_true]
  exact ⟨hf, hf, rfl, g1, g2, g3, g4, g5, ⟨e1, e2⟩, rfl, hs, e5, e3, rfl, rfl, rfl, rfl, rfl, e4, rfl, rfl, rfl⟩
theorem reg_newC {c : DConfig} {p : DPolicy} (hc : CfgX c) : regG c.geometry (spareNew c.geometry c.spares).1 = regN c.geometry c.spares := by
  have hg := gAll_at hc.1 hc.2.2.2.1.1 hc.2.2.2.1.2
  simp only [gpart, Bool.and_eq_true, decide_eq_true_eq] at hg
  obtain ⟨g1, g2, g3, g4, g5, g6, g7, g8, g9, g10⟩ := hg
  have g5 : (spareNew c.geometry c.spares).1.spares = c.spares := by simpa using g5
  have hr := hc.1.2.2.1
  have hsp := hc.2.2.2.1
  unfold regG
  rw [g4, cond_true, g5, w64 (by omega) (by omega)]
  rfl
theorem stored_newC {c : DConfig} {p : DPolicy} (hc : CfgX c) (hp : PolX p) {i : Nat} (hi : (i : Int) < linesN (regN c.geometry c.spares)) : ∃ a, fi_StoredAddr (newC c p) (i : Int) = some (a, true) /\ invL (regN c.geometry c.spares) c.mapping a = (i : Int) := by
  obtain ⟨a, e1, h1, h2, h3⟩ := mapAll_at hc.1 hc.2.2.2.1.1 hc.2.2.2.1.2 hc.2.2.1.1 hc.2.2.1.2 hi
  have e2 := rowAll_at hc.1 hc.2.2.2.1.1 hc.2.2.2.1.2 h1 h2
  refine ⟨a, ?_, h3⟩
  unfold fi_StoredAddr
  rw [m_ControllerOk _ (z_newC hc hp), bindS, ok_newC hc hp, Bool.not_true, cond_false]
  unfold fi_stored
  show Option.bind (Option.bind (fi_RegularGeometry c.geometry (spareNew c.geometry c.spares).1) _) _ = _
  rw [m_RegularGeometry, reg_newC (p := p) hc, bindS]
  show Option.bind (Option.bind (fi_MapLine (regN c.geometry c.spares) c.mapping (i : Int)) _) _ = _
  rw [e1, bindS]
  dsimp only
  rw [Bool.not_true, cond_false]
  show Option.bind (Option.bind (fi_StoredRow c.geometry (spareNew c.geometry c.spares).1 a.bank a.row) _) _ = _
  rw [srow_eq, m_RegularGeometry, reg_newC (p := p) hc, bindS, e2, bindS, bindS]
theorem stored_out {c : DConfig} {p : DPolicy} (hc : CfgX c) (hp : PolX p) : ∃ a, fi_StoredAddr (newC c p) (linesN (regN c.geometry c.spares)) = some (a, false) := by
  have hl := linesN_b (regN c.geometry c.spares)
  have hg := gAll_at hc.1 hc.2.2.2.1.1 hc.2.2.2.1.2
  simp only [gpart, Bool.and_eq_true, decide_eq_true_eq] at hg
  obtain ⟨g1, g2, g3, g4, g5, g6, g7, g8, g9, g10⟩ := hg
  have e1 : fi_MapLine (regN c.geometry c.spares) c.mapping (linesN (regN c.geometry c.spares)) = some (⟨0, 0, 0⟩, false) := by
    unfold fi_MapLine
    rw [m_GeometryOk, bindS, g6, Bool.not_true, cond_false, m_MappingOk, bindS]
    cases inR c.mapping.order 0 2 with
    | false => rfl
    | true =>
      have hn : inR (linesN (regN c.geometry c.spares)) 0 (IntKind.i64.wrap (linesN (regN c.geometry c.spares) - 1)) = false := by
        rw [w64 (by omega) (by omega)]
        unfold inR
        rw [decide_eq_false (by omega : ¬ linesN (regN c.geometry c.spares) <= linesN (regN c.geometry c.spares) - 1), Bool.and_false]
      rw [Bool.not_true, cond_false, m_LineCount, bindS, m_between, bindS, hn]
      rfl
  refine ⟨⟨0, 0, 0⟩, ?_⟩
  unfold fi_StoredAddr
  rw [m_ControllerOk _ (z_newC hc hp), bindS, ok_newC hc hp, Bool.not_true, cond_false]
  unfold fi_stored
  show Option.bind (Option.bind (fi_RegularGeometry c.geometry (spareNew c.geometry c.spares).1) _) _ = _
  rw [m_RegularGeometry, reg_newC (p := p) hc, bindS]
  show Option.bind (Option.bind (fi_MapLine (regN c.geometry c.spares) c.mapping (linesN (regN c.geometry c.spares))) _) _ = _
  rw [e1, bindS]
  rfl
theorem rows_newC {c : DConfig} {p : DPolicy} (hc : CfgX c) (hp : PolX p) : fi_RowsSafe (newC c p) = some true := by
  have hiv : 200 <= c.interval /\ c.interval <= 259 := hc.2.2.2.2.1
  have hl : c.limits = ⟨6 * c.interval, 40⟩ := hc.2.2.2.2.2.2
  rw [m_RowsSafe _ (z_newC hc hp), ok_newC hc hp, Bool.true_and]
  congr 1
  rw [List.all_eq_true]
  intro i hi
  unfold keptB goneB
  have e : ∀ (n i : Nat), (List.replicate n (0 : Int)).getD i 0 = 0 := fun n i => by
    rw [List.getD_eq_getElem?_getD, List.getElem?_replicate]
    split <;> rfl
  show (!(decide ((List.replicate _ (0 : Int)).getD i 0 > c.limits.age) || decide ((List.replicate _ (0 : Int)).getD i 0 > c.limits.hits))) = true
  rw [e, hl]
  dsimp only
  rw [decide_eq_false (by omega), decide_eq_false (by omega)]
  rfl
theorem sameB_self (l : List Int) : sameB l l = true := by
  unfold sameB
  rw [beq_self_eq_true, Bool.true_and, List.all_eq_true]
  intro p hp
  obtain ⟨i, hi, rfl⟩ := List.mem_iff_getElem.1 hp
  simp
theorem iter_0 {α β : Type} {step : α -> Option (α ⊕ β)} {S : α} {z : β} (h : step S = some (.inr z)) : iter step big S = some z :=
  iter_to 0 (fun _ => S) z big (fun k hk => absurd hk (Nat.not_lt_zero k)) h (bigLt (by omega))
theorem trace_newC {c : DConfig} {p : DPolicy} (hc : CfgX c) (hp : PolX p) : fi_TraceSafe (newC c p) = some true := by
  have hg := geoX_ok hc.1
  have hb := banksN_b c.geometry
  have ht : timOk c.timing = true := by
    have h := cfgX_ok hc
    simp only [cfgOk, Bool.and_eq_true] at h
    exact h.2.1
  have e1 : fi_TraceFault c.geometry c.timing [] = some (0, -1) := by
    unfold fi_TraceFault
    rw [m_GeometryOk, bindS, hg, Bool.not_true, cond_false, m_TimingOk, bindS, ht, Bool.not_true, cond_false, decide_eq_false (by decide), cond_false, m_RankNew, bindS, iter_0 (z := .inr (.inl ((), ()))) rfl]
    rfl
  have e2 : fi_TraceEnd c.geometry [] = some (ranN c.geometry, true) := by
    unfold fi_TraceEnd
    rw [m_GeometryOk, bindS, hg, Bool.not_true, cond_false, m_RankNew, bindS, iter_0 (z := .inr (.inl (((), (), ()), (((), 0, ()), ((), (ranN c.geometry).power, ()), [], (ranN c.geometry).banks, ())))) rfl]
    rfl
  have e3 : fi_ReadyOf c.geometry [] = some (rdyN c.geometry) := by
    unfold fi_ReadyOf
    rw [m_ReadyNew hg, bindS, iter_0 (z := .inl (((), (), ()), (((), (), ()), ((), (), ()), [], [], (rdyN c.geometry).last, (rdyN c.geometry).acts, ()))) rfl]
    rfl
  obtain ⟨n, hn⟩ : ∃ n, n = (ranN c.geometry).banks.length := ⟨_, rfl⟩
  have hn8 : n <= 8 := by rw [hn]; show (List.replicate _ _).length <= _; rw [List.length_replicate]; omega
  have e4 := iter_to (step := Lfi_TraceSafe_0) n (fun i => (((), (), (), (n : Int), (i : Int), ()), (newC c p, (c.geometry.groups, c.geometry.banks, c.geometry.rows, c.geometry.cols, ()), ((), (ranN c.geometry).power, ()), (ranN c.geometry).banks, ()))) (.inr (.inl (((), (), ()), (newC c p, (c.geometry.groups, c.geometry.banks, c.geometry.rows, c.geometry.cols, ()), ())))) big (fun k hk => by
    unfold Lfi_TraceSafe_0
    dsimp only
    rw [decide_eq_true (by omega), cond_true, dif_pos ⟨by omega, by omega⟩, dif_pos (by omega), dif_pos ⟨by omega, by show k < (ranN c.geometry).banks.length; omega⟩, wrapS (by omega)]
    show (bif !(((ranN c.geometry).banks[k].open_ == (ranN c.geometry).banks[k].open_) && (((ranN c.geometry).banks[k].row == (ranN c.geometry).banks[k].row) && true)) then _ else _) = _
    rw [beq_self_eq_true, beq_self_eq_true]
    rfl) (by
    unfold Lfi_TraceSafe_0
    dsimp only
    rw [decide_eq_false (by omega), cond_false]) (bigLt (by omega))
  have hrl : (rdyN c.geometry).last.length < 1073741824 := by show (List.replicate _ _).length < _; rw [List.length_replicate]; omega
  rw [Int.natCast_zero] at e4
  unfold fi_TraceSafe
  rw [m_ControllerOk _ (z_newC hc hp), bindS, ok_newC hc hp, Bool.not_true, cond_false]
  show Option.bind (fi_TraceFault c.geometry c.timing []) _ = _
  rw [e1, bindS]
  show Option.bind (fi_TraceEnd c.geometry []) _ = _
  rw [e2, bindS]
  show (bif (0 : Int) != 0 then _ else bif !true then _ else bif (ranN c.geometry).power != (ranN c.geometry).power then _ else Option.bind (iter Lfi_TraceSafe_0 big (((), (), (), ((ranN c.geometry).banks.length : Int), (0 : Int), ()), (newC c p, (c.geometry.groups, c.geometry.banks, c.geometry.rows, c.geometry.cols, ()), ((), (ranN c.geometry).power, ()), (ranN c.geometry).banks, ()))) _) = _
  rw [bne_self_eq_false, bne_self_eq_false, cond_false, Bool.not_true, cond_false, cond_false, <- hn, e4, bindS]
  show Option.bind (fi_ReadyOf c.geometry []) _ = _
  rw [e3, bindS]
  show Option.bind (fi_sameInts (rdyN c.geometry).last (rdyN c.geometry).last) _ = _
  rw [m_sameInts hrl, bindS, sameB_self, cond_true]
  show Option.bind (fi_sameInts (rdyN c.geometry).acts (rdyN c.geometry).acts) _ = _
  rw [m_sameInts (by show ([] : List Int).length < _; simp), bindS, sameB_self]
theorem rest_of {x L : Int} (h0 : 0 <= x) (hL : 0 < L) : ∃ i : Nat, x.tmod L = (i : Int) /\ (i : Int) < L := by
  have h := tmod_bd h0 hL
  exact ⟨(x.tmod L).toNat, by omega, by omega⟩
theorem eq_inv (g : DGeometry) (m : DMapping) (a b : DAddr) (i j : Nat) (ha : invL g m a = (i : Int)) (hb : invL g m b = (j : Int)) (hab : i = j -> a = b) : ((((i : Int) == (j : Int)) == ((a.bank == b.bank) && ((a.row == b.row) && ((a.col == b.col) && true))))) = true := by
  by_cases h : i = j
  · rw [hab h, h]
    simp
  · have h1 : ((i : Int) == (j : Int)) = false := beq_eq_false_iff_ne.2 (by omega)
    have h2 : ((a.bank == b.bank) && ((a.row == b.row) && ((a.col == b.col) && true))) = false := by
      cases hc : ((a.bank == b.bank) && ((a.row == b.row) && ((a.col == b.col) && true))) with
      | false => rfl
      | true =>
        exfalso
        simp only [Bool.and_eq_true, beq_iff_eq] at hc
        have e : a = b := by
          obtain ⟨a1, a2, a3⟩ := a
          obtain ⟨b1, b2, b3⟩ := b
          obtain ⟨rfl, rfl, rfl, _⟩ := hc
          rfl
        subst e
        omega
    rw [h1, h2]
    rfl
theorem p_FnNewController (l : List Int) (h : l.length <= maxLen) : fl_FnNewController l = some true := by
  unfold fl_FnNewController fl_big
  rw [bindS]
  by_cases hb : (l.length : Int) > 1048576
  · rw [decide_eq_true hb, cond_true]
  · rw [decide_eq_false hb, cond_false]
    obtain ⟨c, p, e1, hc, hp⟩ := rx_DrawConfig l (by omega)
    obtain ⟨q, e2, hq, hq2⟩ := p_places l (by omega)
    have hg := gAll_at hc.1 hc.2.2.2.1.1 hc.2.2.2.1.2
    simp only [gpart, Bool.and_eq_true, decide_eq_true_eq] at hg
    obtain ⟨g1, g2, g3, g4, g5, g6, g7, g8, g9, g10⟩ := hg
    have g8 : IntKind.i64.wrap (IntKind.i64.wrap ((linesN c.geometry).tdiv c.geometry.rows) * IntKind.i64.wrap (c.geometry.rows - c.spares)) = linesN (regN c.geometry c.spares) := by simpa using g8
    have hr : ¬ c.geometry.rows = 0 := by
      have := hc.1.2.2.1
      omega
    obtain ⟨ao, eo⟩ := stored_out hc hp
    rw [e1, bindS]
    dsimp only
    rw [m_ControllerNew hc hp, bindS, e2, bindS, m_sLineCount, bindS, if_neg hr, g8]
    generalize hL : linesN (regN c.geometry c.spares) = L at *
    have hL0 : ¬ L = 0 := by omega
    have q0 : (0 : Int).toNat < q.length := by rw [hq]; decide
    have q1 : (1 : Int).toNat < q.length := by rw [hq]; decide
    obtain ⟨i, hi, hi2⟩ := rest_of (hq2 _ (List.getElem_mem q0)).1 g7
    obtain ⟨j, hj, hj2⟩ := rest_of (hq2 _ (List.getElem_mem q1)).1 g7
    obtain ⟨a, ea, ia⟩ := stored_newC hc hp (i := i) (by rw [hL]; exact hi2)
    obtain ⟨b, eb, ib⟩ := stored_newC hc hp (i := j) (by rw [hL]; exact hj2)
    rw [dif_pos ⟨by decide, q0⟩, dif_pos q0, if_neg hL0, hi, ea, bindS, dif_pos ⟨by decide, q1⟩, dif_pos q1]
    dsimp only
    rw [if_neg hL0, hj, eb, bindS, eo, bindS, cond_true, m_ConfigOk, bindS, cfgX_ok hc, cond_true, fitX hc hp, bindS, cond_true, m_ControllerOk _ (z_newC hc hp), bindS, ok_newC hc hp, cond_true, cond_true, cond_true, Bool.not_false, cond_true]
    rw [dif_pos ⟨by decide, q0⟩, dif_pos q0, if_neg hL0, dif_pos ⟨by decide, q1⟩, dif_pos q1]
    dsimp only
    rw [if_neg hL0, hi, hj, eq_inv _ _ a b i j ia ib (fun h => by
      subst h
      rw [ea] at eb
      injection eb with eb
      injection eb), cond_true, show ((newC c p).now == (0 : Int)) = true from rfl, cond_true, rows_newC hc hp, bindS, cond_true, trace_newC hc hp, bindS]
theorem law_FnNewController (v0 : Value) (w : World) (r0 : RdL .u8 (fun x : Int => 0 <= x /\ x <= 255) w v0) : Calls Tryz.prog 3 #[v0] w fun e w' => e = .returned (.bool true) /\ Below w.heap.size w w' := by
  obtain ⟨l, hl, _, h0⟩ := r0
  exact law_of ok_fl_FnNewController (ctrT_run (ai := [(false, .sl .u8)]) (x := (l, ())) (by kernel_rfl) (p_FnNewController l hl)) (args1 h0)
end Go.Proofs.YtckjagaogcbedaaGreat
