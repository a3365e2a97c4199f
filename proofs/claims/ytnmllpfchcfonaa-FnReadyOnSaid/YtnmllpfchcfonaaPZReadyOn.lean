/-
  Plain laws. Nothing here is a claim.
-/
import Derived.Test.YtnmllpfchcfonaaVZ
import Derived.Test.YtnmllpfchcfonaaOpenV
import Derived.Test.YtnmllpfchcfonaaG1
import Derived.Test.YtnmllpfchcfonaaG2
import Derived.Test.YtnmllpfchcfonaaG3
import Derived.Test.YtnmllpfchcfonaaG4
namespace Go.Proofs.Ytnmllpfchcfonaa
open Go.RowKit
set_option linter.unusedVariables false
set_option linter.unusedSimpArgs false
set_option maxRecDepth 100000

theorem w64 {n : Int} (h1 : -9223372036854775808 ≤ n) (h2 : n < 9223372036854775808) : IntKind.i64.wrap n = n := by
  rw [IntKind.wrap_i64]; omega
theorem iter_ind {α β : Type} {step : α → Option (α ⊕ β)} (I : α → Prop) (m : α → Nat) (Q : β → Prop)
    (h : ∀ x, I x → (∃ y, step x = some (.inl y) ∧ I y ∧ m y < m x) ∨ ∃ z, step x = some (.inr z) ∧ Q z) :
    ∀ (n : Nat) (x : α), I x → m x < n → ∃ z, iter step n x = some z ∧ Q z
  | 0, x, _, hm => by omega
  | n + 1, x, hx, hm => by
    unfold iter
    rcases h x hx with ⟨y, h1, h2, h3⟩ | ⟨z, h1, h2⟩
    · rw [h1]
      exact iter_ind I m Q h n y h2 (by omega)
    · rw [h1]
      exact ⟨z, rfl, h2⟩
theorem bindS {α β : Type} (x : α) (f : α → Option β) : (some x).bind f = f x := rfl
/-- A loop that goes on to the end. -/
theorem iter_to {α β : Type} {step : α → Option (α ⊕ β)} (n : Nat) (S : Nat → α) (z : β) (fuel : Nat) (hs : ∀ k, k < n → step (S k) = some (.inl (S (k + 1)))) (hz : step (S n) = some (.inr z)) (hf : n < fuel) : iter step fuel (S 0) = some z := by
  have key : ∀ (m i fuel : Nat), i + m = n → m < fuel → iter step fuel (S i) = some z := by
    intro m
    induction m with
    | zero =>
      intro i fuel hi hf
      match fuel, hf with
      | f + 1, _ =>
        have : i = n := by omega
        subst this
        unfold iter
        rw [hz]
    | succ m ih =>
      intro i fuel hi hf
      match fuel, hf with
      | f + 1, hf =>
        unfold iter
        rw [hs i (by omega)]
        exact ih (i + 1) f (by omega) (by omega)
  exact key n 0 fuel (by omega) hf
theorem okLen_t {n : Nat} (h : n < 1073741824) : okLen n = true := decide_eq_true h
theorem wrapS {i : Nat} (h : i < 4611686018427387904) : IntKind.i64.wrap ((i : Int) + 1) = ((i + 1 : Nat) : Int) := by
  rw [w64 (by omega) (by omega)]; simp
theorem bigLt {n : Nat} (h : n < 1073741824) : n < big := by unfold big; omega
def inR (x a b : Int) : Bool := decide (a ≤ x) && decide (x ≤ b)
theorem inR_iff {x a b : Int} : inR x a b = true ↔ a ≤ x ∧ x ≤ b := by simp [inR]
theorem m_between (x a b : Int) : fi_between x a b = some (inR x a b) := by
  unfold fi_between inR
  by_cases h : a ≤ x <;> simp [h]
theorem m_in (x a b : Int) : fs_l01In x a b = some (inR x a b) := m_between x a b
def geoOk (g : DGeometry) : Bool := inR g.groups 1 2 && inR g.banks 1 4 && inR g.rows 2 16 && inR g.cols 1 8
theorem m_GeometryOk (g : DGeometry) : fi_GeometryOk g = some (geoOk g) := by
  unfold fi_GeometryOk geoOk
  simp only [m_between, bindS]
  cases inR g.groups 1 2 <;> cases inR g.banks 1 4 <;> cases inR g.rows 2 16 <;> rfl
theorem m_sGeometryOk (g : DGeometry) : fs_GeometryOk g = some (geoOk g) := by
  unfold fs_GeometryOk geoOk
  simp only [m_in, bindS]
  cases inR g.groups 1 2 <;> cases inR g.banks 1 4 <;> cases inR g.rows 2 16 <;> rfl
theorem geo_b {g : DGeometry} (h : geoOk g = true) : 1 ≤ g.groups ∧ g.groups ≤ 2 ∧ 1 ≤ g.banks ∧ g.banks ≤ 4 ∧ 2 ≤ g.rows ∧ g.rows ≤ 16 ∧ 1 ≤ g.cols ∧ g.cols ≤ 8 := by
  simp only [geoOk, inR, Bool.and_eq_true, decide_eq_true_eq] at h
  omega
def banksN (g : DGeometry) : Int := bif geoOk g then g.groups * g.banks else 0
theorem banksN_b (g : DGeometry) : 0 ≤ banksN g ∧ banksN g ≤ 8 := by
  unfold banksN
  cases h : geoOk g with
  | false => simp
  | true =>
    obtain ⟨h1, h2, h3, h4, _⟩ := geo_b h
    simp only [cond_true]
    rcases (by omega : g.groups = 1 ∨ g.groups = 2) with e | e <;> rw [e] <;> omega
theorem banksN_pos {g : DGeometry} (h : geoOk g = true) : 1 ≤ banksN g := by
  obtain ⟨h1, h2, h3, h4, _⟩ := geo_b h
  simp only [banksN, h, cond_true]
  rcases (by omega : g.groups = 1 ∨ g.groups = 2) with e | e <;> rw [e] <;> omega
theorem m_BankCount (g : DGeometry) : fi_BankCount g = some (banksN g) := by
  have hb := banksN_b g
  unfold fi_BankCount
  rw [m_GeometryOk, bindS]
  unfold banksN at hb ⊢
  cases h : geoOk g with
  | false => rfl
  | true =>
    rw [h] at hb
    simp only [cond_true] at hb
    simp only [Bool.not_true, cond_false, cond_true]
    rw [w64 (by omega) (by omega)]
theorem m_sBankCount (g : DGeometry) : fs_BankCount g = some (banksN g) := by
  have hb := banksN_b g
  unfold fs_BankCount
  rw [m_sGeometryOk, bindS]
  unfold banksN at hb ⊢
  cases h : geoOk g with
  | false => rfl
  | true =>
    rw [h] at hb
    simp only [cond_true] at hb
    simp only [Bool.not_true, cond_false, cond_true]
    rw [w64 (by omega) (by omega)]
def addrOk (g : DGeometry) (a : DAddr) : Bool := geoOk g && inR a.bank 0 (banksN g - 1) && inR a.row 0 (g.rows - 1) && inR a.col 0 (g.cols - 1)
theorem addr_b {g : DGeometry} {a : DAddr} (h : addrOk g a = true) : geoOk g = true ∧ 0 ≤ a.bank ∧ a.bank < banksN g ∧ 0 ≤ a.row ∧ a.row < g.rows ∧ 0 ≤ a.col ∧ a.col < g.cols := by
  simp only [addrOk, inR, Bool.and_eq_true, decide_eq_true_eq] at h
  exact ⟨h.1.1.1, by omega⟩
theorem addr_mk {g : DGeometry} {a : DAddr} (h : geoOk g = true) (h1 : 0 ≤ a.bank) (h2 : a.bank < banksN g) (h3 : 0 ≤ a.row) (h4 : a.row < g.rows) (h5 : 0 ≤ a.col) (h6 : a.col < g.cols) : addrOk g a = true := by
  simp only [addrOk, inR, Bool.and_eq_true, decide_eq_true_eq]
  exact ⟨⟨⟨h, by omega⟩, by omega⟩, by omega⟩
theorem m_sAddrOk (g : DGeometry) (a : DAddr) : fs_AddrOk g a = some (addrOk g a) := by
  unfold fs_AddrOk addrOk
  simp only [m_sBankCount, m_in, bindS]
  have hb := banksN_b g
  rw [w64 (n := banksN g - 1) (by omega) (by omega)]
  cases h : geoOk g with
  | false =>
    have : inR a.bank 0 (banksN g - 1) = false := by
      simp only [banksN, h, cond_false, inR]
      by_cases hx : 0 ≤ a.bank <;> simp [hx]
      omega
    rw [this]; rfl
  | true =>
    obtain ⟨_, _, _, _, h5, h6, h7, h8⟩ := geo_b h
    rw [w64 (n := g.rows - 1) (by omega) (by omega), w64 (n := g.cols - 1) (by omega) (by omega)]
    cases inR a.bank 0 (banksN g - 1) <;> cases inR a.row 0 (g.rows - 1) <;> rfl
/-- A loop that goes through n turns: S gives the state at each. -/
theorem iter_run {α β : Type} {step : α → Option (α ⊕ β)} (S : Nat → α) {z : β} : ∀ (n i fuel : Nat), (∀ k, i ≤ k → k < i + n → step (S k) = some (.inl (S (k + 1)))) → step (S (i + n)) = some (.inr z) → n < fuel → iter step fuel (S i) = some z
  | 0, i, fuel, _, hz, hf => by
    match fuel, hf with
    | f + 1, _ => unfold iter; rw [Nat.add_zero] at hz; rw [hz]
  | n + 1, i, fuel, hs, hz, hf => by
    match fuel, hf with
    | f + 1, hf =>
      unfold iter
      rw [hs i (Nat.le_refl _) (by omega)]
      exact iter_run S n (i + 1) f (fun k h1 h2 => hs k (by omega) (by omega)) (by rw [show i + 1 + n = i + (n + 1) by omega]; exact hz) (by omega)
theorem wrap_succ {i : Nat} (h : i < 4611686018427387904) : IntKind.i64.wrap ((i : Int) + 1) = ((i + 1 : Nat) : Int) := by
  rw [w64 (by omega) (by omega)]; simp
theorem and255 (y : Int) : 0 ≤ bits .and .i64 y 255 ∧ bits .and .i64 y 255 ≤ 255 := by
  have e : bits .and .i64 y 255 = IntKind.i64.wrap ((BitVec.ofInt 64 y &&& BitVec.ofInt 64 255).toNat : Int) := rfl
  have h : (BitVec.ofInt 64 y &&& BitVec.ofInt 64 255).toNat ≤ 255 := by
    rw [BitVec.toNat_and]
    exact Nat.le_trans Nat.and_le_right (by decide)
  rw [e, IntKind.wrap_i64]
  omega
/-- A cursor over some bytes. -/
structure Cok (b : List Int) (c : DCur) : Prop where
  eq : c.b = b
  lo : 0 ≤ c.i
  hi : c.i ≤ b.length
  len : b.length ≤ 1073741823
theorem Cok.eta {b : List Int} {c : DCur} (h : Cok b c) : (⟨b, c.i, c.h⟩ : DCur) = c := by
  obtain ⟨b', i, h'⟩ := c
  have := h.eq
  simp only at this
  subst this
  rfl
/-- A draw gives a value of P, and the cursor goes on. -/
def Dr {α : Type} (b : List Int) (f : Option (α × (DCur × Unit))) (P : α → Prop) : Prop := ∃ x c, f = some (x, (c, ())) ∧ Cok b c ∧ P x
theorem Dr.mono {α : Type} {b : List Int} {f : Option (α × (DCur × Unit))} {P Q : α → Prop} (h : Dr b f P) (hq : ∀ x, P x → Q x) : Dr b f Q := by
  obtain ⟨x, c, h1, h2, h3⟩ := h
  exact ⟨x, c, h1, h2, hq x h3⟩
theorem Dr.bind {α β : Type} {b : List Int} {f : Option (α × (DCur × Unit))} {g : α × (DCur × Unit) → Option (β × (DCur × Unit))} {P : α → Prop} {Q : β → Prop} (h : Dr b f P) (hg : ∀ x c, P x → Cok b c → Dr b (g (x, (c, ()))) Q) : Dr b (f.bind g) Q := by
  obtain ⟨x, c, h1, h2, h3⟩ := h
  rw [h1]
  exact hg x c h3 h2
theorem Dr.pure {α : Type} {b : List Int} {x : α} {c : DCur} {P : α → Prop} (hc : Cok b c) (hp : P x) : Dr b (some (x, (c, ()))) P := ⟨x, c, rfl, hc, hp⟩
/-- The same where the cursor is thrown away. -/
theorem Dr.last {α β : Type} {b : List Int} {f : Option (α × (DCur × Unit))} {g : α × (DCur × Unit) → Option β} {P : α → Prop} {Q : Option β → Prop} (h : Dr b f P) (hg : ∀ x c, P x → Cok b c → Q (g (x, (c, ())))) : Q (f.bind g) := by
  obtain ⟨x, c, h1, h2, h3⟩ := h
  rw [h1]
  exact hg x c h3 h2
theorem p_new (l : List Int) (h : l.length ≤ 1073741823) : ∃ y, fs_l01New l = some y := by
  unfold fs_l01New
  obtain ⟨z, h1, h2⟩ := iter_ind (step := Lfs_l01New_0)
    (fun x => ∃ (i : Nat) (y : Int), x = (((), y, (i : Int), ()), (l, ())) ∧ i ≤ l.length)
    (fun x => l.length - x.1.2.2.1.toNat) (fun z => ∃ y, (Sum.elim (fun z3 : ((Unit × Int × Unit) × ((List Int) × Unit)) => some z3.1.2.1) (fun z => nomatch z)) z = some y) (by
      rintro x ⟨i, y, rfl, hi⟩
      unfold Lfs_l01New_0
      dsimp only
      by_cases h' : i < l.length
      · have c1 : decide ((i : Int) < (l.length : Int)) = true := by simpa using h'
        have c2 : 0 ≤ (i : Int) ∧ (i : Int).toNat < l.length := ⟨by omega, by simpa using h'⟩
        rw [c1, cond_true]
        cases h4 : decide ((i : Int) < 4000) with
        | true =>
          rw [cond_true, dif_pos c2]
          left
          refine ⟨_, rfl, ⟨i + 1, _, by rw [wrap_succ (by omega)], by omega⟩, ?_⟩
          dsimp only
          rw [wrap_succ (by omega)]
          omega
        | false =>
          rw [cond_false]
          right
          exact ⟨_, rfl, _, rfl⟩
      · have c1 : decide ((i : Int) < (l.length : Int)) = false := by simpa using h'
        rw [c1, cond_false]
        right
        exact ⟨_, rfl, _, rfl⟩)
    big (((), (IntKind.i64.wrap ((97301 : Int) + (l.length : Int))), ((0 : Nat) : Int), ()), (l, ())) ⟨0, _, rfl, by omega⟩ (by dsimp only; unfold big; omega)
  have h1 : iter Lfs_l01New_0 big (((), (IntKind.i64.wrap ((97301 : Int) + (l.length : Int))), (0 : Int), ()), (l, ())) = some z := h1
  rw [h1]
  exact h2
theorem new_cok (l : List Int) (y : Int) (h : l.length ≤ 1073741823) : Cok l ⟨l, 0, y⟩ := ⟨rfl, Int.le_refl _, by simp, h⟩
theorem p_byte {b : List Int} {c : DCur} (hc : Cok b c) : Dr b (fs_l01Byte c) fun x => 0 ≤ x ∧ x ≤ 255 := by
  have hb := hc.eq
  have h1 := hc.lo
  have h2 := hc.hi
  have h3 := hc.len
  unfold fs_l01Byte
  by_cases h : c.i < (c.b.length : Int)
  · have c1 : decide (c.i < (c.b.length : Int)) = true := by simpa using h
    rw [c1, cond_true, dif_pos ⟨h1, by omega⟩]
    refine Dr.pure ⟨hb, ?_, ?_, h3⟩ (and255 _)
    · show 0 ≤ IntKind.i64.wrap (c.i + 1)
      rw [hb] at h
      rw [w64 (by omega) (by omega)]; omega
    · show IntKind.i64.wrap (c.i + 1) ≤ _
      rw [hb] at h
      rw [w64 (by omega) (by omega)]; omega
  · have c1 : decide (c.i < (c.b.length : Int)) = false := by simpa using h
    rw [c1, cond_false]
    exact Dr.pure ⟨hb, h1, h2, h3⟩ (and255 _)
theorem tmod_bd {x n : Int} (h : 0 ≤ x) (hn : 0 < n) : 0 ≤ x.tmod n ∧ x.tmod n < n := by
  rw [Int.tmod_eq_emod_of_nonneg h]
  exact ⟨Int.emod_nonneg _ (by omega), Int.emod_lt_of_pos _ hn⟩
theorem p_below {b : List Int} {c : DCur} (hc : Cok b c) (n : Int) : Dr b (fs_l01Below c n) fun x => 0 ≤ x ∧ (n ≤ 0 → x = 0) ∧ (0 < n → x < n) := by
  unfold fs_l01Below
  by_cases h0 : n ≤ 0
  · have c1 : decide (n ≤ 0) = true := by simpa using h0
    rw [c1, cond_true]
    exact Dr.pure hc ⟨Int.le_refl _, fun _ => rfl, fun h => by omega⟩
  · have c1 : decide (n ≤ 0) = false := by simpa using h0
    have hn : ¬ n = 0 := by omega
    rw [c1, cond_false]
    by_cases h1 : n ≤ 256
    · have c2 : decide (n ≤ 256) = true := by simpa using h1
      rw [c2, cond_true]
      refine (p_byte hc).bind fun x c' hx hc' => ?_
      rw [if_neg hn]
      dsimp only
      rw [hc.eq, hc'.eta]
      have := tmod_bd hx.1 (show 0 < n by omega)
      exact Dr.pure hc' ⟨this.1, fun h => by omega, fun _ => this.2⟩
    · have c2 : decide (n ≤ 256) = false := by simpa using h1
      rw [c2, cond_false, hc.eq]
      refine (p_byte hc).bind fun x1 k1 hx1 hk1 => ?_
      dsimp only
      rw [hk1.eta]
      refine (p_byte hk1).bind fun x2 k2 hx2 hk2 => ?_
      dsimp only
      rw [hk2.eta]
      refine (p_byte hk2).bind fun x3 k3 hx3 hk3 => ?_
      dsimp only
      rw [hk3.eta]
      refine (p_byte hk3).bind fun x4 k4 hx4 hk4 => ?_
      rw [if_neg hn]
      dsimp only
      rw [hk4.eta]
      rw [w64 (n := x1 * 16777216) (by omega) (by omega), w64 (n := x2 * 65536) (by omega) (by omega), w64 (n := x1 * 16777216 + x2 * 65536) (by omega) (by omega), w64 (n := x3 * 256) (by omega) (by omega), w64 (n := x1 * 16777216 + x2 * 65536 + x3 * 256) (by omega) (by omega), w64 (n := x1 * 16777216 + x2 * 65536 + x3 * 256 + x4) (by omega) (by omega)]
      have := tmod_bd (x := x1 * 16777216 + x2 * 65536 + x3 * 256 + x4) (by omega) (show 0 < n by omega)
      exact Dr.pure hk4 ⟨this.1, fun h => by omega, fun _ => this.2⟩
/-- A geometry that is drawn. -/
structure Gok (g : DGeometry) : Prop where
  groups : 1 ≤ g.groups ∧ g.groups ≤ 2
  banks : 1 ≤ g.banks ∧ g.banks ≤ 4
  rows : 2 ≤ g.rows ∧ g.rows ≤ 8
  cols : 1 ≤ g.cols ∧ g.cols ≤ 4
theorem p_geo {b : List Int} {c : DCur} (hc : Cok b c) : Dr b (fs_l03Geo c) Gok := by
  unfold fs_l03Geo
  rw [hc.eq]
  refine (p_below hc 2).bind fun x1 k1 hx1 hk1 => ?_
  dsimp only
  rw [hk1.eta]
  refine (p_below hk1 4).bind fun x2 k2 hx2 hk2 => ?_
  dsimp only
  rw [hk2.eta]
  refine (p_below hk2 7).bind fun x3 k3 hx3 hk3 => ?_
  dsimp only
  rw [hk3.eta]
  refine (p_below hk3 4).bind fun x4 k4 hx4 hk4 => ?_
  dsimp only
  rw [hk4.eta]
  have a1 := hx1.2.2 (by omega)
  have a2 := hx2.2.2 (by omega)
  have a3 := hx3.2.2 (by omega)
  have a4 := hx4.2.2 (by omega)
  rw [w64 (by omega) (by omega), w64 (by omega) (by omega), w64 (by omega) (by omega), w64 (by omega) (by omega)]
  exact Dr.pure hk4 ⟨⟨by dsimp only; omega, by dsimp only; omega⟩, ⟨by dsimp only; omega, by dsimp only; omega⟩, ⟨by dsimp only; omega, by dsimp only; omega⟩, ⟨by dsimp only; omega, by dsimp only; omega⟩⟩
theorem p_sameInts (l : List Int) (h : l.length < 1073741823) : fl_sameInts l l = some true := by
  unfold fl_sameInts
  have c0 : ((l.length : Int) != (l.length : Int)) = false := by simp
  rw [c0, cond_false]
  have e := iter_run (step := Lfl_sameInts_0) (fun i => ((l, l, (i : Int), ()), ())) (z := .inr (.inl ((), ()))) l.length 0 big (fun k _ hk => ?_) ?_ (by unfold big; omega)
  · have e : iter Lfl_sameInts_0 big ((l, l, (0 : Int), ()), ()) = _ := e
    rw [e]; rfl
  · have hk : k < l.length := by omega
    unfold Lfl_sameInts_0
    dsimp only
    have c1 : decide ((k : Int) < (l.length : Int)) = true := decide_eq_true (by omega)
    have c2 : 0 ≤ (k : Int) ∧ (k : Int).toNat < l.length := ⟨by omega, by simpa using hk⟩
    rw [c1, cond_true, dif_pos c2, dif_pos c2, wrap_succ (by omega)]
    have : (l[(k : Int).toNat]'c2.2 != l[(k : Int).toNat]'c2.2) = false := by simp
    rw [this]; rfl
  · rw [Nat.zero_add]
    unfold Lfl_sameInts_0
    dsimp only
    have c1 : decide ((l.length : Int) < (l.length : Int)) = false := decide_eq_false (by omega)
    rw [c1, cond_false]
theorem p_once {b : List Int} {c : DCur} (hc : Cok b c) (n : Int) : Dr b (fs_l01Once c n) fun _ => True := by
  unfold fs_l01Once
  rw [hc.eq]
  refine (p_below hc _).bind fun x1 k1 hx1 hk1 => ?_
  dsimp only
  rw [hk1.eta]
  exact Dr.pure hk1 trivial
theorem eta_g (g : DGeometry) : (⟨g.groups, g.banks, g.rows, g.cols⟩ : DGeometry) = g := rfl
theorem p_l03Addr {b : List Int} {c : DCur} (hc : Cok b c) {g : DGeometry} (hg : geoOk g = true) : Dr b (fs_l03Addr c g) fun a => addrOk g a = true := by
  have hp := banksN_pos hg
  obtain ⟨_, _, _, _, g5, g6, g7, g8⟩ := geo_b hg
  unfold fs_l03Addr
  rw [m_sBankCount, bindS, hc.eq]
  refine (p_below hc _).bind fun x1 k1 hx1 hk1 => ?_
  dsimp only
  rw [hk1.eta]
  refine (p_below hk1 _).bind fun x2 k2 hx2 hk2 => ?_
  dsimp only
  rw [hk2.eta]
  refine (p_below hk2 _).bind fun x3 k3 hx3 hk3 => ?_
  dsimp only
  rw [hk3.eta]
  exact Dr.pure hk3 (addr_mk hg hx1.1 (hx1.2.2 (by omega)) hx2.1 (hx2.2.2 (by omega)) hx3.1 (hx3.2.2 (by omega)))
/-- A value is given, and it is of P. -/
def Gv {γ : Type} (P : γ → Prop) (o : Option γ) : Prop := ∃ y, o = some y ∧ P y
theorem Gv.pure {γ : Type} {P : γ → Prop} {y : γ} (h : P y) : Gv P (some y) := ⟨y, rfl, h⟩
theorem Gv.cond {γ : Type} {P : γ → Prop} {b : Bool} {x y : Option γ} (h1 : b = true → Gv P x) (h2 : b = false → Gv P y) : Gv P (bif b then x else y) := by
  cases b
  · exact h2 rfl
  · exact h1 rfl
theorem Gv.bind {α γ : Type} {Q : α → Prop} {P : γ → Prop} {f : Option α} {g : α → Option γ} (h : Gv Q f) (hg : ∀ y, Q y → Gv P (g y)) : Gv P (f.bind g) := by
  obtain ⟨y, rfl, hy⟩ := h
  exact hg y hy
theorem Gv.ite {γ : Type} {P : γ → Prop} {c : Prop} [Decidable c] {x y : Option γ} (hc : c) (h : Gv P x) : Gv P (if c then x else y) := by
  rw [if_pos hc]; exact h
theorem Gv.ift {γ : Type} {P : γ → Prop} {c : Prop} [Decidable c] {x y : Option γ} (hc : ¬ c) (h : Gv P y) : Gv P (if c then x else y) := by
  rw [if_neg hc]; exact h
theorem Gv.dif {γ : Type} {P : γ → Prop} {c : Prop} [Decidable c] {x : c → Option γ} {y : ¬ c → Option γ} (hc : c) (h : Gv P (x hc)) : Gv P (if h : c then x h else y h) := by
  rw [dif_pos hc]; exact h
theorem Gv.mono {γ : Type} {P Q : γ → Prop} {o : Option γ} (h : Gv P o) (hq : ∀ y, P y → Q y) : Gv Q o := by
  obtain ⟨y, h1, h2⟩ := h
  exact ⟨y, h1, hq y h2⟩
theorem Gv.loop {α β γ : Type} {step : α → Option (α ⊕ β)} (n : Nat) (I : Nat → α → Prop) {P : γ → Prop} {K : β → Option γ} {x : α} {fuel : Nat} (h0 : I 0 x) (hf : n < fuel) (hs : ∀ k, k ≤ n → ∀ x, I k x → Gv (Sum.elim (fun y => k < n ∧ I (k + 1) y) (fun z => Gv P (K z))) (step x)) : Gv P ((iter step fuel x).bind K) := by
  have key : ∀ (m i fuel : Nat) (x : α), i + m = n → m < fuel → I i x → Gv P ((iter step fuel x).bind K) := by
    intro m
    induction m with
    | zero =>
      intro i fuel x hi hf hx
      match fuel, hf with
      | f + 1, _ =>
        obtain ⟨y, h1, h2⟩ := hs i (by omega) x hx
        unfold iter
        rw [h1]
        cases y with
        | inl y => exact absurd h2.1 (by omega)
        | inr z => exact h2
    | succ m ih =>
      intro i fuel x hi hf hx
      match fuel, hf with
      | f + 1, hf =>
        obtain ⟨y, h1, h2⟩ := hs i (by omega) x hx
        unfold iter
        rw [h1]
        cases y with
        | inl y => exact ih (i + 1) f y (by omega) (by omega) h2.2
        | inr z => exact h2
  exact key n 0 fuel x (by omega) hf h0
theorem t_in (x a b : Int) : Gv (fun y => y = inR x a b) (fs_l01In x a b) := ⟨_, m_in x a b, rfl⟩
theorem t_TimingOk (t : DTiming) : Gv (fun _ => True) (fs_TimingOk t) := by
  unfold fs_TimingOk fs_l07List
  rw [bindS]
  generalize hl : [t.rcd, t.rp, t.ras, t.rrds, t.rrdl, t.faw, t.ccds, t.ccdl, t.rtp, t.wr, t.wtrs, t.wtrl, t.rtw, t.rfc, t.cke, t.xp, t.xs] = l
  have h17 : l.length = 17 := by rw [← hl]; rfl
  clear hl
  refine Gv.loop 17 (fun i x => x = (((), (), (i : Int), ()), ((t.rcd, t.rp, t.ras, t.rrds, t.rrdl, t.faw, t.ccds, t.ccdl, t.rtp, t.wr, t.wtrs, t.wtrl, t.rtw, t.rfc, t.cke, t.xp, t.xs, ()), l, ()))) rfl (bigLt (by omega)) ?_
  rintro i hi x rfl
  unfold Lfs_TimingOk_0
  dsimp only
  refine Gv.cond (fun h => ?_) (fun h => ?_)
  · have h : i < 17 := by rw [h17] at h; simp at h; omega
    refine Gv.dif ⟨by omega, by omega⟩ (Gv.dif (by omega) (Gv.bind (t_in _ _ _) fun y hy => Gv.cond (fun _ => Gv.pure (Gv.pure trivial)) fun _ => Gv.pure ⟨h, ?_⟩))
    rw [wrapS (by omega)]
  · refine Gv.pure ?_
    simp only [Sum.elim_inl, Sum.elim_inr]
    repeat' (first | with_reducible refine Gv.cond (fun _ => ?_) (fun _ => ?_) | with_reducible exact Gv.pure trivial | with_reducible refine Gv.bind (t_in _ _ _) (fun _ _ => ?_))
theorem t_BankGap (t : DTiming) (a b : Int) : Gv (fun _ => True) (fs_BankGap t a b) := by
  unfold fs_BankGap
  refine (t_TimingOk t).bind fun y _ => ?_
  repeat' (first | with_reducible refine Gv.cond (fun _ => ?_) (fun _ => ?_) | with_reducible exact Gv.pure trivial | with_reducible refine Gv.bind (t_in _ _ _) (fun _ _ => ?_))
theorem t_Near (b : Bool) (x y : Int) : Gv (fun _ => True) (fs_l07Near b x y) := by
  unfold fs_l07Near
  repeat' (first | with_reducible refine Gv.cond (fun _ => ?_) (fun _ => ?_) | with_reducible exact Gv.pure trivial | with_reducible refine Gv.bind (t_in _ _ _) (fun _ _ => ?_))
theorem t_RankGap (t : DTiming) (a b : Int) (n : Bool) : Gv (fun _ => True) (fs_RankGap t a b n) := by
  unfold fs_RankGap
  refine (t_TimingOk t).bind fun y _ => ?_
  repeat' (first | with_reducible refine Gv.cond (fun _ => ?_) (fun _ => ?_) | with_reducible exact Gv.pure trivial | with_reducible refine Gv.bind (t_in _ _ _) (fun _ _ => ?_) | with_reducible refine Gv.bind (t_BankGap _ _ _) (fun _ _ => ?_) | with_reducible refine Gv.bind (t_Near _ _ _) (fun _ _ => ?_))
theorem t_l07Gap {g : DGeometry} (hg : geoOk g = true) (t : DTiming) (a b : DCommand) : Gv (fun _ => True) (fs_l07Gap g t a b) := by
  have := (geo_b hg).2.2.1
  have hb : ¬ g.banks = 0 := by omega
  unfold fs_l07Gap
  repeat' (first | with_reducible refine Gv.cond (fun _ => ?_) (fun _ => ?_) | with_reducible exact Gv.pure trivial | refine Gv.ift hb ?_ | with_reducible refine Gv.bind (t_BankGap _ _ _) (fun _ _ => ?_) | with_reducible refine Gv.bind (t_RankGap _ _ _ _) (fun _ _ => ?_))
theorem t_l09Close {g : DGeometry} (hg : geoOk g = true) (t : DTiming) (l : List DEvent) (e : DEvent) (hl : l.length < 1073741824) : Gv (fun _ => True) (fs_l09Close g t l e) := by
  unfold fs_l09Close
  refine Gv.loop l.length (fun i x => x = ((l, (), (), (), (i : Int), ()), ((g.groups, g.banks, g.rows, g.cols, ()), (t.rcd, t.rp, t.ras, t.rrds, t.rrdl, t.faw, t.ccds, t.ccdl, t.rtp, t.wr, t.wtrs, t.wtrl, t.rtw, t.rfc, t.cke, t.xp, t.xs, ()), (e.at_, e.cmd.kind, e.cmd.bank, e.cmd.row, e.cmd.col, ()), ()))) rfl (bigLt hl) ?_
  rintro i hi x rfl
  unfold Lfs_l09Close_0
  dsimp only
  refine Gv.cond (fun h => ?_) (fun h => ?_)
  · have h : i < l.length := by simp at h; omega
    refine Gv.dif ⟨by omega, by omega⟩ (Gv.dif ⟨by omega, by omega⟩ (Gv.bind (t_l07Gap hg _ _ _) fun y hy => Gv.cond (fun _ => Gv.pure (Gv.pure trivial)) fun _ => Gv.pure ⟨h, ?_⟩))
    rw [wrapS (by omega)]
  · exact Gv.pure (Gv.pure trivial)
theorem t_OpenBanks (r : DRank) (h : r.banks.length < 1073741823) : Gv (fun _ => True) (fs_OpenBanks r) := by
  unfold fs_OpenBanks
  refine Gv.loop r.banks.length (fun i x => ∃ o : List Int, x = (((), (), (i : Int), ()), ((r.banks, r.power, ()), o, ())) ∧ o.length ≤ i) ⟨[], rfl, Nat.le_refl _⟩ (bigLt (by omega)) ?_
  rintro i hi x ⟨o, rfl, ho⟩
  unfold Lfs_OpenBanks_0
  dsimp only
  refine Gv.cond (fun h => ?_) (fun h => ?_)
  · have h : i < r.banks.length := by simp at h; omega
    refine Gv.dif ⟨by omega, by omega⟩ (Gv.cond (fun _ => Gv.cond (fun _ => Gv.pure ⟨h, _, by rw [wrapS (by omega)], by simp; omega⟩) fun h => absurd h ?_) fun _ => Gv.pure ⟨h, _, by rw [wrapS (by omega)], by omega⟩)
    rw [okLen_t (by simp; omega)]; simp
  · exact Gv.pure (Gv.pure trivial)
/-- A command whose bank is there. -/
structure Bk (c : DCommand) (n : Nat) : Prop where
  lo : 0 ≤ c.bank
  hi : c.bank.toNat < n
  n : n ≤ 8
theorem t_l08May {r : DRank} {c : DCommand} (h : Bk c r.banks.length) : Gv (fun _ => True) (fs_l08May r c) := by
  have h1 := h.n
  unfold fs_l08May
  dsimp only
  repeat' (first | with_reducible refine Gv.cond (fun _ => ?_) (fun _ => ?_) | with_reducible exact Gv.pure trivial | refine Gv.dif ⟨h.lo, h.hi⟩ ?_ | with_reducible refine Gv.bind (t_OpenBanks r (by omega)) (fun _ _ => ?_))
theorem t_l08Do {r : DRank} {c : DCommand} (h : Bk c r.banks.length) : Gv (fun y => y.2.1.banks.length = r.banks.length) (fs_l08Do r c) := by
  unfold fs_l08Do
  dsimp only
  repeat' (first | with_reducible refine Gv.cond (fun _ => ?_) (fun _ => ?_) | exact ⟨_, rfl, rfl⟩ | exact ⟨_, rfl, List.length_set⟩ | refine Gv.dif ⟨h.lo, h.hi⟩ ?_ | refine Gv.dif h.hi ?_)
theorem t_Uses (k : Int) : Gv (fun y => y = (inR k 1 5, k == 1, (k == 2 || k == 3))) (fs_l06Uses k) := by
  unfold fs_l06Uses
  refine Gv.bind (t_in _ _ _) (fun _ h => ?_)
  subst h
  cases h : k == 2 <;> exact Gv.pure (by simp)
theorem t_Form (c : DCommand) : Gv (fun _ => True) (fs_l06Form c) := by
  unfold fs_l06Form
  refine Gv.bind (t_Uses _) (fun _ _ => ?_)
  repeat' (first | with_reducible refine Gv.cond (fun _ => ?_) (fun _ => ?_) | with_reducible exact Gv.pure trivial | with_reducible refine Gv.bind (t_in _ _ _) (fun _ _ => ?_))
theorem t_CommandOk {g : DGeometry} (hg : geoOk g = true) (c : DCommand) : Gv (fun y => y = true → Bk c (banksN g).toNat) (fs_CommandOk g c) := by
  unfold fs_CommandOk
  refine Gv.bind (t_Form _) (fun _ _ => Gv.cond (fun _ => ?_) (fun _ => Gv.pure (fun h => absurd h (by simp))))
  rw [m_sAddrOk, bindS]
  refine Gv.pure fun h => ?_
  obtain ⟨_, h1, h2, _⟩ := addr_b h
  have := banksN_b g
  dsimp only at h1 h2
  exact ⟨h1, by omega, by omega⟩
theorem t_RankNew (g : DGeometry) : Gv (fun r => r.banks.length = (banksN g).toNat) (fs_RankNew g) := by
  have := banksN_b g
  unfold fs_RankNew
  rw [m_sBankCount, bindS]
  refine Gv.ite ⟨by omega, by omega, by omega⟩ (Gv.pure (by simp))
theorem t_TraceFault {g : DGeometry} (hg : geoOk g = true) (t : DTiming) (l : List DEvent) : Gv (fun _ => True) (fs_TraceFault g t l) := by
  have hn := banksN_b g
  unfold fs_TraceFault
  rw [m_sGeometryOk, bindS]
  refine Gv.cond (fun _ => Gv.pure trivial) fun _ => Gv.bind (t_TimingOk t) fun _ _ => Gv.cond (fun _ => Gv.pure trivial) fun _ => Gv.cond (fun _ => Gv.pure trivial) fun h => Gv.bind (t_RankNew g) fun r hr => ?_
  have hl : l.length ≤ 2000 := by simp at h; omega
  clear h
  refine Gv.loop l.length (fun i x => ∃ (p : Int) (a : List Int) (b : List DBank), x = ((l, (), (), (), (), (i : Int), ()), ((g.groups, g.banks, g.rows, g.cols, ()), (t.rcd, t.rp, t.ras, t.rrds, t.rrdl, t.faw, t.ccds, t.ccdl, t.rtp, t.wr, t.wtrs, t.wtrl, t.rtw, t.rfc, t.cke, t.xp, t.xs, ()), ((), p, ()), a, b, ())) ∧ a.length ≤ i ∧ b.length = (banksN g).toNat) ⟨_, _, _, rfl, Nat.le_refl _, hr⟩ (bigLt (by omega)) ?_
  rintro i hi x ⟨p, a, b, rfl, ha, hb⟩
  have ho : okLen (a.length + 1) = true := okLen_t (by omega)
  unfold Lfs_TraceFault_0
  dsimp only
  refine Gv.cond (fun h => ?_) (fun h => ?_)
  · have h : i < l.length := by simp at h; omega
    refine Gv.dif ⟨by omega, by omega⟩ (Gv.bind (t_CommandOk hg _) fun y hy => Gv.cond (fun _ => Gv.pure (Gv.pure trivial)) fun hc => ?_)
    have hk := hy (by simpa using hc)
    rw [← hb] at hk
    have t1 : (if 0 ≤ (0 : Int) ∧ (0 : Int) ≤ (i : Int) ∧ (i : Int) ≤ (l.length : Int) then true else false) = true := by simp; omega
    have wi : i = 0 ∨ IntKind.i64.wrap ((i : Int) - 1) = ((i - 1 : Nat) : Int) := by
      by_cases h0 : i = 0
      · exact .inl h0
      · right
        rw [w64 (by omega) (by omega)]
        omega
    repeat' (first
      | exact Gv.pure (Gv.pure trivial)
      | refine Gv.cond (fun _ => ?_) (fun _ => ?_)
      | with_reducible refine Gv.bind (t_in _ _ _) (fun _ _ => ?_)
      | refine Gv.dif (c := 0 ≤ IntKind.i64.wrap ((i : Int) - 1) ∧ _) (by rename_i hh; simp only [decide_eq_true_eq] at hh; rw [w64 (by omega) (by omega)]; omega) ?_
      | with_reducible refine Gv.bind (t_l08May hk) (fun _ _ => ?_)
      | with_reducible refine Gv.bind (t_l08Do hk) (fun _ _ => ?_)
      | refine Gv.ite (c := 0 ≤ (0 : Int) ∧ _) (by omega) ?_
      | with_reducible refine Gv.bind (t_l09Close hg _ _ _ (by simp; omega)) (fun _ _ => ?_)
      | refine Gv.dif (c := 0 ≤ IntKind.i64.wrap ((a.length : Int) - 4) ∧ _) (by rename_i hh; simp only [decide_eq_true_eq] at hh; rw [w64 (by omega) (by omega)]; omega) ?_
      | refine Gv.dif (c := (IntKind.i64.wrap ((a.length : Int) - 4)).toNat < _) (by rename_i hh; simp only [decide_eq_true_eq] at hh; rw [w64 (by omega) (by omega)]; omega) ?_
      | exact absurd ho (by rename_i hh; simp only [List.length_cons, List.length_nil] at hh; simpa using hh)
      | (refine Gv.pure ⟨h, _, _, _, by rw [wrapS (by omega)], ?_, ?_⟩ <;> first | omega | (simp; omega) | (simp_all)))
  · exact Gv.pure (Gv.pure trivial)
theorem t_RankOk {g : DGeometry} (hg : geoOk g = true) (r : DRank) : Gv (fun y => y = true → r.banks.length = (banksN g).toNat) (fs_RankOk g r) := by
  have hn := banksN_b g
  unfold fs_RankOk
  rw [m_sGeometryOk, bindS, m_sBankCount, bindS]
  refine Gv.cond (fun h => absurd hg (by simpa using h)) fun _ => Gv.cond (fun _ => Gv.pure fun h => absurd h (by simp)) fun hl => ?_
  have hl : r.banks.length = (banksN g).toNat := by
    simp at hl; omega
  refine Gv.mono (P := fun _ => True) (Gv.bind (t_in _ _ _) fun _ _ => Gv.cond (fun _ => Gv.pure trivial) fun _ => ?_) fun _ _ _ => hl
  refine Gv.loop r.banks.length (fun i x => x = (((), (), (i : Int), ()), ((g.groups, g.banks, g.rows, g.cols, ()), (r.banks, r.power, ()), ()))) rfl (bigLt (by omega)) ?_
  rintro i hi x rfl
  unfold Lfs_RankOk_0
  dsimp only
  refine Gv.cond (fun h => ?_) (fun h => ?_)
  · have h : i < r.banks.length := by simp at h; omega
    refine Gv.dif ⟨by omega, by omega⟩ (Gv.bind (t_in _ _ _) fun y hy => ?_)
    repeat' (first | with_reducible refine Gv.cond (fun _ => ?_) (fun _ => ?_) | exact Gv.pure (Gv.pure trivial) | exact Gv.pure ⟨h, by rw [wrapS (by omega)]⟩)
  · exact Gv.pure (Gv.pure trivial)
theorem t_Allowed {g : DGeometry} (hg : geoOk g = true) (r : DRank) (c : DCommand) : Gv (fun y => y = true → Bk c r.banks.length) (fs_Allowed g r c) := by
  unfold fs_Allowed
  refine Gv.bind (t_RankOk hg r) fun a ha => Gv.cond (fun h1 => Gv.bind (t_CommandOk hg c) fun b hb => Gv.cond (fun h2 => ?_) fun _ => Gv.pure fun h => absurd h (by simp)) fun _ => Gv.pure fun h => absurd h (by simp)
  have hk := hb h2
  rw [← ha h1] at hk
  exact Gv.bind (t_l08May hk) fun _ _ => Gv.pure fun _ => hk
theorem t_RankAfter {g : DGeometry} (hg : geoOk g = true) (r : DRank) (c : DCommand) (h : r.banks.length < 1073741824) : Gv (fun y => y.1.banks.length = r.banks.length) (fs_RankAfter g r c) := by
  unfold fs_RankAfter fs_l08Copy
  have ho : okLen (([] : List DBank).length + r.banks.length) = true := okLen_t (by simpa using h)
  rw [ho, cond_true, bindS]
  refine Gv.bind (t_Allowed hg r c) fun a ha => Gv.cond (fun _ => Gv.pure (by simp)) fun h1 => ?_
  have hk := ha (by simpa using h1)
  exact Gv.bind (t_l08Do (r := ⟨[] ++ r.banks, r.power⟩) (by simpa using hk)) fun y hy => Gv.pure (by simpa using hy)
theorem t_TraceEnd {g : DGeometry} (hg : geoOk g = true) (l : List DEvent) (hl : l.length < 1073741824) : Gv (fun _ => True) (fs_TraceEnd g l) := by
  have hn := banksN_b g
  unfold fs_TraceEnd
  refine Gv.bind (t_RankNew g) fun r hr => ?_
  refine Gv.loop l.length (fun i x => ∃ (p : Int) (b : List DBank), x = ((l, (), (), (), (i : Int), ()), ((g.groups, g.banks, g.rows, g.cols, ()), ((), (0 : Int), ()), ((), p, ()), ([] : List DBank), b, ())) ∧ b.length = (banksN g).toNat) ⟨_, _, rfl, hr⟩ (bigLt hl) ?_
  rintro i hi x ⟨p, b, rfl, hb⟩
  unfold Lfs_TraceEnd_0
  dsimp only
  refine Gv.cond (fun h => ?_) (fun h => ?_)
  · have h : i < l.length := by simp at h; omega
    refine Gv.dif ⟨by omega, by omega⟩ (Gv.bind (t_RankAfter hg ⟨b, p⟩ _ (by dsimp only; omega)) fun y hy => Gv.cond (fun _ => Gv.pure (Gv.pure trivial)) fun _ => Gv.pure ⟨h, _, _, by rw [wrapS (by omega)], by rw [hy]; exact hb⟩)
  · refine Gv.pure ?_
    simp only [Sum.elim_inl, Sum.elim_inr]
    rw [eta_g, m_sGeometryOk, bindS]
    exact Gv.pure trivial
theorem t_ActTimes (l : List DEvent) (hl : l.length < 1073741823) : Gv (fun y => y.length ≤ l.length) (fs_ActTimes l) := by
  unfold fs_ActTimes
  refine Gv.loop l.length (fun i x => ∃ o : List Int, x = ((l, (), (i : Int), ()), (o, ())) ∧ o.length ≤ i) ⟨[], rfl, Nat.le_refl _⟩ (bigLt (by omega)) ?_
  rintro i hi x ⟨o, rfl, ho⟩
  unfold Lfs_ActTimes_0
  dsimp only
  refine Gv.cond (fun h => ?_) (fun h => ?_)
  · have h : i < l.length := by simp at h; omega
    refine Gv.dif ⟨by omega, by omega⟩ (Gv.cond (fun _ => Gv.dif ⟨by omega, by omega⟩ (Gv.cond (fun _ => Gv.pure ⟨h, _, by rw [wrapS (by omega)], by simp; omega⟩) fun h => absurd h ?_)) fun _ => Gv.pure ⟨h, _, by rw [wrapS (by omega)], by omega⟩)
    rw [okLen_t (by simp; omega)]; simp
  · exact Gv.pure (Gv.pure (by dsimp only; omega))
theorem t_EarliestNext {g : DGeometry} (hg : geoOk g = true) (t : DTiming) (l : List DEvent) (c : DCommand) (hl : l.length < 1073741823) : Gv (fun _ => True) (fs_EarliestNext g t l c) := by
  unfold fs_EarliestNext
  refine Gv.bind (t_TraceFault hg t l) fun _ _ => Gv.bind (t_TraceEnd hg l (by omega)) fun _ _ => Gv.cond (fun _ => Gv.pure trivial) fun _ => Gv.cond (fun _ => Gv.pure trivial) fun _ => Gv.bind (t_Allowed hg _ c) fun _ _ => Gv.cond (fun _ => Gv.pure trivial) fun _ => Gv.cond (fun _ => Gv.pure trivial) fun _ => ?_
  refine Gv.loop l.length (fun i x => ∃ a : Int, x = ((l, (), (), (), a, (i : Int), ()), ((g.groups, g.banks, g.rows, g.cols, ()), (t.rcd, t.rp, t.ras, t.rrds, t.rrdl, t.faw, t.ccds, t.ccdl, t.rtp, t.wr, t.wtrs, t.wtrl, t.rtw, t.rfc, t.cke, t.xp, t.xs, ()), (c.kind, c.bank, c.row, c.col, ()), ()))) ⟨_, rfl⟩ (bigLt (by omega)) ?_
  rintro i hi x ⟨a, rfl⟩
  unfold Lfs_EarliestNext_0
  dsimp only
  refine Gv.cond (fun h => ?_) (fun h => ?_)
  · have h : i < l.length := by simp at h; omega
    refine Gv.dif ⟨by omega, by omega⟩ (Gv.dif ⟨by omega, by omega⟩ (Gv.bind (t_l07Gap hg _ _ _) fun y hy => Gv.pure ⟨h, _, by rw [wrapS (by omega)]⟩))
  · refine Gv.pure ?_
    simp only [Sum.elim_inl, Sum.elim_inr]
    refine Gv.bind (t_ActTimes l hl) fun y hy => ?_
    refine Gv.cond (fun _ => Gv.cond (fun h4 => ?_) fun _ => Gv.cond (fun _ => Gv.pure trivial) fun _ => Gv.pure trivial) fun _ => Gv.cond (fun _ => Gv.pure trivial) fun _ => Gv.pure trivial
    simp only [decide_eq_true_eq] at h4
    have w : IntKind.i64.wrap ((y.length : Int) - 4) = ((y.length - 4 : Nat) : Int) := by
      rw [w64 (by omega) (by omega)]; omega
    refine Gv.dif ⟨by omega, by omega⟩ (Gv.dif (by omega) ?_)
    exact Gv.cond (fun _ => Gv.pure trivial) fun _ => Gv.pure trivial
theorem p_l06Cmd {b : List Int} {c : DCur} (hc : Cok b c) {g : DGeometry} (hg : geoOk g = true) : Dr b (fs_l06Cmd c g) fun y => Bk y (banksN g).toNat := by
  have hn := banksN_b g
  have hp := banksN_pos hg
  unfold fs_l06Cmd
  rw [hc.eq]
  refine (p_below hc _).bind fun x1 k1 hx1 hk1 => ?_
  dsimp only
  rw [hk1.eta]
  refine (p_l03Addr hk1 hg).bind fun a k2 ha hk2 => ?_
  obtain ⟨_, a1, a2, _⟩ := addr_b ha
  dsimp only
  rw [hk2.eta]
  obtain ⟨u, hu, _⟩ := t_Uses (IntKind.i64.wrap (1 + x1))
  rw [hu, bindS]
  have z1 : ∀ k r c : Int, Bk ⟨k, a.bank, r, c⟩ (banksN g).toNat := fun _ _ _ => ⟨a1, by dsimp only; omega, by omega⟩
  have z2 : ∀ k r c : Int, Bk ⟨k, 0, r, c⟩ (banksN g).toNat := fun _ _ _ => ⟨by dsimp only; omega, by dsimp only; omega, by omega⟩
  cases u.1 <;> cases u.2.1 <;> cases u.2.2 <;> simp only [cond_true, cond_false] <;> first | exact Dr.pure hk2 (z1 _ _ _) | exact Dr.pure hk2 (z2 _ _ _)
theorem p_l07Time {b : List Int} {c : DCur} (hc : Cok b c) : Dr b (fs_l07Time c) fun _ => True := by
  unfold fs_l07Time fs_FastTiming
  rw [bindS, hc.eq]
  refine (p_once hc _).bind fun x1 k1 hx1 hk1 => ?_
  dsimp only
  rw [hk1.eta]
  cases x1 with
  | false => exact Dr.pure hk1 trivial
  | true =>
    rw [cond_true]
    refine (p_below hk1 _).bind fun x2 k2 hx2 hk2 => ?_
    dsimp only
    rw [hk2.eta]
    refine (p_below hk2 _).bind fun x3 k3 hx3 hk3 => ?_
    dsimp only
    rw [hk3.eta]
    refine (p_below hk3 _).bind fun x4 k4 hx4 hk4 => ?_
    dsimp only
    rw [hk4.eta]
    refine (p_below hk4 _).bind fun x5 k5 hx5 hk5 => ?_
    dsimp only
    rw [hk5.eta]
    refine (p_below hk5 _).bind fun x6 k6 hx6 hk6 => ?_
    dsimp only
    rw [hk6.eta]
    exact Dr.pure hk6 trivial
theorem Dr.gv' {α : Type} {b : List Int} {f : Option (α × (DCur × Unit))} {P : α → Prop} (h : Dr b f P) : Gv (fun y => P y.1 ∧ Cok b ⟨b, y.2.1.i, y.2.1.h⟩) f := by
  obtain ⟨x, c, e, h1, h2⟩ := h
  exact ⟨_, e, h2, by rw [h1.eta]; exact h1⟩
theorem cok_of {b : List Int} {c : DCur} {P : Prop} (h : P ∧ Cok b c) : Cok b c := h.2
theorem Gv.dr {α : Type} {b : List Int} {f : Option (α × (DCur × Unit))} {P : α → Prop} (h : Gv (fun y => P y.1 ∧ Cok b y.2.1) f) : Dr b f P := by
  obtain ⟨⟨x, c, _⟩, e, h2, h1⟩ := h
  exact ⟨x, c, e, h1, h2⟩
theorem p_l09Trace {b : List Int} {c : DCur} (hc : Cok b c) {g : DGeometry} (hg : geoOk g = true) (t : DTiming) {n : Int} (hn : n ≤ 1000) : Dr b (fs_l09Trace c g t n) fun y => y.length ≤ 1000 := by
  have hb := banksN_b g
  refine Gv.dr ?_
  unfold fs_l09Trace
  refine Gv.bind (t_RankNew g) fun r hr => ?_
  rw [hc.eq]
  refine Gv.loop n.toNat (fun i x => ∃ (ci ch : Int) (l : List DEvent) (p : Int) (bs : List DBank), x = (((), n, (), (), (), (), (i : Int), ()), (((), ci, ch, ()), (g.groups, g.banks, g.rows, g.cols, ()), (t.rcd, t.rp, t.ras, t.rrds, t.rrdl, t.faw, t.ccds, t.ccdl, t.rtp, t.wr, t.wtrs, t.wtrl, t.rtw, t.rfc, t.cke, t.xp, t.xs, ()), l, ((), p, ()), b, bs, ())) ∧ Cok b ⟨b, ci, ch⟩ ∧ l.length ≤ i ∧ bs.length = (banksN g).toNat) ⟨c.i, c.h, [], r.power, r.banks, rfl, by rw [hc.eta]; exact hc, Nat.le_refl _, hr⟩ (bigLt (by omega)) ?_
  rintro i hi x ⟨ci, ch, l, p, bs, rfl, hk, hl, hbs⟩
  unfold Lfs_l09Trace_0
  dsimp only
  refine Gv.cond (fun h => ?_) (fun h => ?_)
  · have h : i < n.toNat := by simp at h; omega
    rw [eta_g]
    refine Gv.bind (p_l06Cmd hk hg).gv' fun y hy => ?_
    have hy' : Bk y.1 (⟨bs, p⟩ : DRank).banks.length := by dsimp only; rw [hbs]; exact hy.1
    have ho : okLen (l.length + 1) = true := okLen_t (by omega)
    repeat' (first
      | with_reducible refine Gv.cond (fun _ => ?_) (fun _ => ?_)
      | exact absurd ho (by rename_i hh; simp only [List.length_cons, List.length_nil] at hh; simpa using hh)
      | with_reducible refine Gv.bind (p_once (by exact cok_of (by assumption)) _).gv' (fun _ _ => ?_)
      | with_reducible refine Gv.bind (p_below (by exact cok_of (by assumption)) _).gv' (fun _ _ => ?_)
      | with_reducible refine Gv.bind (t_l08May hy') (fun _ _ => ?_)
      | with_reducible refine Gv.bind (t_l08Do hy') (fun _ _ => ?_)
      | with_reducible refine Gv.bind (t_EarliestNext hg _ _ _ (by omega)) (fun _ _ => ?_)
      | (refine Gv.pure ⟨h, _, _, _, _, _, by rw [wrapS (by omega)], cok_of (by assumption), ?_, ?_⟩ <;> first | omega | (simp; omega) | (simp_all)))
  · exact Gv.pure (Gv.pure ⟨by dsimp only; omega, hk⟩)
theorem gok_ok {g : DGeometry} (h : Gok g) : geoOk g = true := by
  obtain ⟨h1, h2, h3, h4⟩ := h
  simp only [geoOk, Bool.and_eq_true, inR_iff]
  omega
theorem p_DrawTrace (l : List Int) (h : l.length ≤ 1073741823) : ∃ g t o, fs_DrawTrace l = some (g, t, o) ∧ geoOk g = true ∧ o.length ≤ 1000 := by
  unfold fs_DrawTrace
  obtain ⟨h0, e0⟩ := p_new l h
  rw [e0, bindS]
  have hc := new_cok l h0 h
  unfold fs_l09Case
  obtain ⟨g, c1, e1, k1, hg⟩ := p_geo hc
  rw [e1, bindS]
  dsimp only
  rw [k1.eta]
  obtain ⟨t, c2, e2, k2, _⟩ := p_l07Time k1
  rw [e2, bindS]
  dsimp only
  rw [k2.eta]
  obtain ⟨n, c3, e3, k3, hn⟩ := p_below k2 30
  rw [e3, bindS]
  dsimp only
  rw [k3.eta]
  have hgo := gok_ok hg
  obtain ⟨o, c4, e4, k4, ho⟩ := p_l09Trace k3 hgo t (n := n) (by have := hn.2.2 (by omega); omega)
  rw [e4, bindS]
  exact ⟨g, t, o, rfl, hgo, ho⟩
theorem w9 (g : DGeometry) : IntKind.i64.wrap ((9 : Int) * (IntKind.i64.wrap (banksN g + (1 : Int)))) = 9 * (banksN g + 1) := by
  have := banksN_b g
  rw [w64 (n := banksN g + 1) (by omega) (by omega), w64 (by omega) (by omega)]
theorem t_ReadyNew {g : DGeometry} (hg : geoOk g = true) : Gv (fun r => (r.last.length : Int) = 9 * (banksN g + 1) ∧ r.acts = []) (fi_ReadyNew g) := by
  have hb := banksN_b g
  unfold fi_ReadyNew
  rw [m_GeometryOk, bindS, hg, Bool.not_true, cond_false, m_BankCount, bindS, w9]
  refine Gv.ite ⟨by omega, by omega, by omega⟩ ?_
  rw [List.length_replicate, show (((9 * (banksN g + 1)).toNat : Nat) : Int) = 9 * (banksN g + 1) by omega]
  refine Gv.loop (9 * (banksN g + 1)).toNat (fun i x => ∃ l : List Int, x = (((), (), 9 * (banksN g + 1), (i : Int), ()), (((), (), ()), ((), (), ()), ([] : List Int), ([] : List Int), l, ([] : List Int), ())) ∧ (l.length : Int) = 9 * (banksN g + 1)) ⟨List.replicate (9 * (banksN g + 1)).toNat 0, rfl, by rw [List.length_replicate]; omega⟩ (bigLt (by omega)) ?_
  rintro i hi x ⟨l, rfl, hl⟩
  unfold Lfi_ReadyNew_0
  dsimp only
  refine Gv.cond (fun h => ?_) (fun h => ?_)
  · have h : i < (9 * (banksN g + 1)).toNat := by simp at h; omega
    exact Gv.dif ⟨by omega, by omega⟩ (Gv.dif (by omega) (Gv.pure ⟨h, _, by rw [wrapS (by omega)], by simpa using hl⟩))
  · exact Gv.pure (Gv.pure ⟨hl, rfl⟩)
theorem t_usesBank (k : Int) : fi_usesBank k = some (inR k 1 5) := by
  unfold fi_usesBank
  rw [m_between]; rfl
theorem t_commandAt (g : DGeometry) (i : Int) : Gv (fun _ => True) (fi_commandAt g i) := by
  unfold fi_commandAt
  rw [m_BankCount, bindS]
  simp only [t_usesBank, bindS]
  exact Gv.cond (fun _ => Gv.pure trivial) fun _ => Gv.pure trivial
theorem t_bw (x a b : Int) : Gv (fun y => y = inR x a b) (fi_between x a b) := ⟨_, m_between x a b, rfl⟩
theorem t_ReadyOk {g : DGeometry} (hg : geoOk g = true) (r : DReady) : Gv (fun y => y = true → (r.last.length : Int) = 9 * (banksN g + 1) ∧ r.acts.length ≤ 4) (fi_ReadyOk g r) := by
  have hb := banksN_b g
  unfold fi_ReadyOk
  rw [m_GeometryOk, bindS, hg, Bool.not_true, cond_false, m_BankCount, bindS, w9]
  refine Gv.cond (fun _ => Gv.pure fun h => absurd h (by simp)) fun hl => Gv.cond (fun _ => Gv.pure fun h => absurd h (by simp)) fun ha => ?_
  have hl : (r.last.length : Int) = 9 * (banksN g + 1) := by simpa using hl
  have ha : r.acts.length ≤ 4 := by simp at ha; omega
  refine Gv.mono (P := fun _ => True) ?_ fun _ _ _ => ⟨hl, ha⟩
  refine Gv.loop r.last.length (fun i x => x = (((), (), r.last, (r.last.length : Int), (i : Int), ()), ((g.groups, g.banks, g.rows, g.cols, ()), (r.last, r.acts, ()), ()))) rfl (bigLt (by omega)) ?_
  rintro i hi x rfl
  unfold Lfi_ReadyOk_0
  dsimp only
  refine Gv.cond (fun h => ?_) (fun h => ?_)
  · have h : i < r.last.length := by simp at h; omega
    refine Gv.dif ⟨by omega, by omega⟩ (Gv.bind (t_commandAt _ _) fun _ _ => Gv.bind (t_bw _ _ _) fun _ _ => ?_)
    repeat' (first | with_reducible refine Gv.cond (fun _ => ?_) (fun _ => ?_) | exact Gv.pure (Gv.pure trivial) | exact Gv.pure ⟨h, by rw [wrapS (by omega)]⟩)
  · refine Gv.pure ?_
    simp only [Sum.elim_inl, Sum.elim_inr]
    refine Gv.loop r.acts.length (fun i x => x = (((), r.acts, (r.acts.length : Int), (i : Int), ()), ((r.last, r.acts, ()), ()))) rfl (bigLt (by omega)) ?_
    rintro i hi x rfl
    unfold Lfi_ReadyOk_2
    dsimp only
    refine Gv.cond (fun h => ?_) (fun h => ?_)
    · have h : i < r.acts.length := by simp at h; omega
      refine Gv.dif ⟨by omega, by omega⟩ (Gv.bind (t_bw _ _ _) fun _ _ => Gv.cond (fun _ => Gv.pure (Gv.pure trivial)) fun _ => Gv.cond (fun h0 => ?_) fun _ => Gv.pure ⟨h, by rw [wrapS (by omega)]⟩)
      simp only [decide_eq_true_eq] at h0
      refine Gv.dif (by rw [w64 (by omega) (by omega)]; omega) (Gv.cond (fun _ => Gv.pure (Gv.pure trivial)) fun _ => Gv.pure ⟨h, by rw [wrapS (by omega)]⟩)
    · exact Gv.pure (Gv.pure trivial)
theorem m_fieldOk (n : Int) (u : Bool) (k : Int) : fi_fieldOk n u k = some (bif u then inR n 0 (IntKind.i64.wrap (k - 1)) else n == 0) := by
  unfold fi_fieldOk
  rw [m_between]
  cases u <;> rfl
theorem t_iCommandOk {g : DGeometry} (hg : geoOk g = true) (c : DCommand) : Gv (fun y => y = true → 1 ≤ c.kind ∧ c.kind ≤ 9 ∧ 0 ≤ c.bank ∧ c.bank < banksN g) (fi_CommandOk g c) := by
  have hb := banksN_b g
  have hp := banksN_pos hg
  unfold fi_CommandOk fi_wellFormed fi_usesRow fi_usesCol
  rw [m_GeometryOk, bindS, hg, cond_true, m_BankCount, bindS, m_between, bindS, t_usesBank]
  simp only [bindS, m_fieldOk]
  cases h1 : inR c.kind 1 9 with
  | false => exact ⟨false, rfl, fun h => absurd h (by simp)⟩
  | true =>
    have h1 := inR_iff.1 h1
    rw [cond_true]
    cases h2 : (bif inR c.kind 1 5 then inR c.bank 0 (IntKind.i64.wrap (banksN g - 1)) else c.bank == 0) with
    | false => exact ⟨false, rfl, fun h => absurd h (by simp)⟩
    | true =>
      have h3 : 0 ≤ c.bank ∧ c.bank < banksN g := by
        cases h5 : inR c.kind 1 5 <;> rw [h5] at h2
        · have : c.bank = 0 := by simpa using h2
          omega
        · rw [cond_true, w64 (by omega) (by omega)] at h2
          have := inR_iff.1 h2
          omega
      rw [cond_true]
      refine Gv.mono (P := fun _ => True) ?_ fun _ _ _ => ⟨h1.1, h1.2, h3.1, h3.2⟩
      cases (bif c.kind == 1 then inR c.row 0 (IntKind.i64.wrap (g.rows - 1)) else c.row == 0) with
      | false => exact ⟨_, rfl, trivial⟩
      | true => cases c.kind == 2 <;> exact ⟨_, rfl, trivial⟩
theorem t_lastPlace {g : DGeometry} {c : DCommand} (h : 1 ≤ c.kind ∧ c.kind ≤ 9 ∧ 0 ≤ c.bank ∧ c.bank < banksN g) : Gv (fun y => 0 ≤ y ∧ y < 9 * (banksN g + 1)) (fi_lastPlace g c) := by
  have hb := banksN_b g
  unfold fi_lastPlace
  rw [m_BankCount, bindS, t_usesBank, bindS]
  refine Gv.cond (fun _ => Gv.pure ?_) fun _ => Gv.pure ?_
  · rw [w64 (n := 9 * c.bank) (by omega) (by omega), w64 (n := 9 * c.bank + c.kind) (by omega) (by omega), w64 (by omega) (by omega)]; omega
  · rw [w64 (n := 9 * banksN g) (by omega) (by omega), w64 (n := 9 * banksN g + c.kind) (by omega) (by omega), w64 (by omega) (by omega)]; omega
theorem t_ReadyAfter {g : DGeometry} (hg : geoOk g = true) {r : DReady} (e : DEvent) (h1 : r.last.length < 1000) (h2 : r.acts.length ≤ 4) : Gv (fun y => y.last.length = r.last.length ∧ y.acts.length ≤ 4) (fi_ReadyAfter g r e) := by
  have hb := banksN_b g
  unfold fi_ReadyAfter fi_copyReady
  rw [okLen_t (by simp; omega), cond_true, okLen_t (by simp; omega), cond_true, bindS]
  simp only [List.nil_append]
  refine Gv.bind (t_ReadyOk hg r) fun o ho => Gv.cond (fun _ => Gv.pure ⟨rfl, h2⟩) fun ho1 => Gv.bind (t_iCommandOk hg e.cmd) fun q hq => Gv.cond (fun _ => Gv.pure ⟨rfl, h2⟩) fun hq1 => Gv.bind (t_bw _ _ _) fun _ _ => Gv.cond (fun _ => Gv.pure ⟨rfl, h2⟩) fun _ => ?_
  have hr := ho (by simpa using ho1)
  have hc := hq (by simpa using hq1)
  clear ho ho1 hq hq1
  have ho : okLen (r.acts.length + 1) = true := okLen_t (by omega)
  have wl : (if IntKind.i64.wrap (((r.acts ++ ([e.at_] : List Int)).length : Int) - 4) > 0 then IntKind.i64.wrap (((r.acts ++ ([e.at_] : List Int)).length : Int) - 4) else 0) = ((r.acts.length + 1 - 4 : Nat) : Int) := by
    rw [List.length_append, List.length_singleton, w64 (by omega) (by omega)]
    split <;> omega
  rw [wl]
  have fin : ∀ y : Int, 0 ≤ y ∧ y < 9 * (banksN g + 1) → Gv (fun y : DReady => y.last.length = r.last.length ∧ y.acts.length ≤ 4) (if h8 : 0 ≤ y ∧ y.toNat < r.last.length then if h9 : y.toNat < r.last.length then (let e10 := r.last[y.toNat]'h9; bif (e.cmd.kind == (1 : Int)) then bif okLen (r.acts.length + ([e.at_] : List Int).length) then if 0 ≤ ((r.acts.length + 1 - 4 : Nat) : Int) ∧ ((r.acts.length + 1 - 4 : Nat) : Int) ≤ ((r.acts ++ ([e.at_] : List Int)).length : Int) ∧ ((r.acts ++ ([e.at_] : List Int)).length : Int) ≤ ((r.acts ++ ([e.at_] : List Int)).length : Int) then bif okLen (([] : List Int).length + (((r.acts ++ ([e.at_] : List Int)).take (((r.acts ++ ([e.at_] : List Int)).length : Int).toNat)).drop (((r.acts.length + 1 - 4 : Nat) : Int).toNat)).length) then some (⟨(r.last.set y.toNat e.at_), (((r.acts ++ ([e.at_] : List Int)).take (((r.acts ++ ([e.at_] : List Int)).length : Int).toNat)).drop (((r.acts.length + 1 - 4 : Nat) : Int).toNat))⟩ : DReady) else none else none else none else some (⟨(r.last.set y.toNat e.at_), r.acts⟩ : DReady)) else none else none) := by
    intro y hy
    refine Gv.dif ⟨hy.1, by omega⟩ (Gv.dif (by omega) ?_)
    refine Gv.cond (fun _ => ?_) fun _ => Gv.pure ⟨by simp, h2⟩
    rw [List.length_singleton, ho, cond_true]
    refine Gv.ite ⟨by omega, by simp; omega, by omega⟩ ?_
    rw [okLen_t (by simp; omega), cond_true]
    exact Gv.pure ⟨by simp, by simp; omega⟩
  refine Gv.cond (fun _ => Gv.cond (fun h0 => ?_) fun _ => Gv.bind (t_lastPlace hc) fun y hy => fin y hy) fun _ => Gv.bind (t_lastPlace hc) fun y hy => fin y hy
  simp only [decide_eq_true_eq] at h0
  refine Gv.dif (by rw [w64 (by omega) (by omega)]; omega) (Gv.cond (fun _ => Gv.pure ⟨rfl, h2⟩) fun _ => Gv.bind (t_lastPlace hc) fun y hy => fin y hy)
def RI (g : DGeometry) (r : DReady) : Prop := (r.last.length : Int) = 9 * (banksN g + 1) ∧ r.acts.length ≤ 4
def rdA (g : DGeometry) (r : DReady) (e : DEvent) : DReady := (fi_ReadyAfter g r e).getD r
theorem m_rdA {g : DGeometry} (hg : geoOk g = true) {r : DReady} (h : RI g r) (e : DEvent) : fi_ReadyAfter g r e = some (rdA g r e) ∧ RI g (rdA g r e) := by
  have hb := banksN_b g
  have h1 := h.1
  obtain ⟨y, e1, e2, e3⟩ := t_ReadyAfter hg e (r := r) (by omega) h.2
  have : rdA g r e = y := by unfold rdA; rw [e1]; rfl
  rw [this]
  exact ⟨e1, by unfold RI; rw [e2]; exact ⟨h.1, e3⟩⟩
theorem RI.fold {g : DGeometry} (hg : geoOk g = true) {r : DReady} (h : RI g r) (l : List DEvent) : RI g (l.foldl (rdA g) r) := by
  induction l generalizing r with
  | nil => exact h
  | cons x l ih => exact ih (m_rdA hg h x).2
theorem m_ReadyOf {g : DGeometry} (hg : geoOk g = true) : ∃ r0, RI g r0 ∧ fi_ReadyNew g = some r0 ∧ ∀ l : List DEvent, l.length < 1073741824 → fi_ReadyOf g l = some (l.foldl (rdA g) r0) := by
  obtain ⟨r0, e0, h0, ha⟩ := t_ReadyNew hg
  have hr : RI g r0 := ⟨h0, by rw [ha]; simp⟩
  refine ⟨r0, hr, e0, fun l hl => ?_⟩
  have e := iter_to (step := Lfi_ReadyOf_0) l.length (fun i => (((), (), (), l, (l.length : Int), (i : Int), ()), ((g.groups, g.banks, g.rows, g.cols, ()), ((), (), ()), ((), (), ()), ([] : List Int), ([] : List Int), ((l.take i).foldl (rdA g) r0).last, ((l.take i).foldl (rdA g) r0).acts, ())))
    (.inl (((), (), ()), (((), (), ()), ((), (), ()), ([] : List Int), ([] : List Int), (l.foldl (rdA g) r0).last, (l.foldl (rdA g) r0).acts, ()))) big (fun i hi => by
      have e1 := (m_rdA hg (hr.fold hg (l.take i)) l[i]).1
      have e2 : (l.take (i + 1)).foldl (rdA g) r0 = rdA g ((l.take i).foldl (rdA g) r0) l[i] := by
        rw [List.take_succ_eq_append_getElem hi, List.foldl_append]; rfl
      rw [e2]
      generalize (l.take i).foldl (rdA g) r0 = r at e1
      have ea : (⟨r.last, r.acts⟩ : DReady) = r := rfl
      unfold Lfi_ReadyOf_0
      simp (disch := omega) [hi, eta_g, ea, e1, wrapS]) (by unfold Lfi_ReadyOf_0; simp) (bigLt hl)
  rw [Int.natCast_zero, List.take_zero] at e
  unfold fi_ReadyOf
  rw [e0, bindS]
  rw [show List.foldl (rdA g) r0 [] = r0 from rfl] at e
  rw [e]
  rfl
theorem p_FnReadyOn (l : List Int) : fl_FnReadyOn l = some true := by
  unfold fl_FnReadyOn fl_big
  rw [bindS]
  by_cases hbig : (l.length : Int) > 1048576
  · rw [decide_eq_true hbig]; rfl
  · rw [decide_eq_false hbig, cond_false]
    obtain ⟨g, t, o, e1, hg, ho⟩ := p_DrawTrace l (by omega)
    have hb := banksN_b g
    have hp := banksN_pos hg
    obtain ⟨r0, hr, e0, f⟩ := m_ReadyOf hg
    rw [e1, bindS]
    dsimp only
    cases hz : ((o.length : Int) == 0) with
    | true =>
      rw [cond_true, e0, bindS, m_sBankCount, bindS, w9, hr.1]
      simp
    | false =>
      have hz : o.length ≠ 0 := by simpa using hz
      rw [cond_false, f o (by omega), bindS]
      have w : IntKind.i64.wrap ((o.length : Int) - 1) = ((o.length - 1 : Nat) : Int) := by rw [w64 (by omega) (by omega)]; omega
      rw [w, if_pos (by omega), dif_pos (by omega), dif_pos (by omega)]
      have ed : (o.take ((o.length - 1 : Nat) : Int).toNat).drop (0 : Int).toNat = o.take (o.length - 1) := by simp
      have hn : o.length - 1 < o.length := by omega
      have eo : o.foldl (rdA g) r0 = rdA g ((o.take (o.length - 1)).foldl (rdA g) r0) o[o.length - 1] := by
        conv => lhs; rw [← List.take_length (l := o), show o.length = o.length - 1 + 1 by omega, List.take_succ_eq_append_getElem hn, List.foldl_append]
        rfl
      have e2 := m_rdA hg (hr.fold hg (o.take (o.length - 1))) o[o.length - 1]
      have hf := hr.fold hg o
      have s1 := p_sameInts (o.foldl (rdA g) r0).last (by have := hf.1; omega)
      have s2 := p_sameInts (o.foldl (rdA g) r0).acts (by have := hf.2; omega)
      have e3 := e2.1
      rw [← eo] at e3
      have q1 := hf.1
      have q2 := hf.2
      rw [ed, f _ (by simp; omega), bindS]
      simp only [Int.toNat_natCast]
      rw [e3, bindS, s1, bindS, cond_true, s2, bindS, cond_true]
      rw [decide_eq_true (by omega), cond_true, decide_eq_true (by omega)]
theorem law_FnReadyOn (v0 : Value) (w : World) (r0 : RdL .u8 (fun x : Int => 0 ≤ x ∧ x ≤ 255) w v0) : Calls Try.prog 9 #[v0] w fun e w' => e = .returned (.bool true) ∧ Below w.heap.size w w' := by
  obtain ⟨l, hl, _, h0⟩ := r0
  exact law_of ok_fl_FnReadyOn (ctrT_run (ai := [(false, .sl .u8)]) (x := (l, ())) (by kernel_rfl) (p_FnReadyOn l)) (args1 h0)
end Go.Proofs.Ytnmllpfchcfonaa
