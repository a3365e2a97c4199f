/-
  Plain laws. Nothing here is a claim.
-/
import Derived.Test.YtnmllpfchcfonaaVZ
import Derived.Test.YtnmllpfchcfonaaOpenV
import Derived.Test.YtnmllpfchcfonaaG1
import Derived.Test.YtnmllpfchcfonaaG2
import Derived.Test.YtnmllpfchcfonaaG3
import Derived.Test.YtnmllpfchcfonaaG4
namespace Go.Proofs.Ytnmllpfchcfonaa
open Go.RowKit
set_option linter.unusedVariables false
set_option linter.unusedSimpArgs false
set_option maxRecDepth 100000

theorem w64 {n : Int} (h1 : -9223372036854775808 ≤ n) (h2 : n < 9223372036854775808) : IntKind.i64.wrap n = n := by
  rw [IntKind.wrap_i64]; omega
theorem iter_ind {α β : Type} {step : α → Option (α ⊕ β)} (I : α → Prop) (m : α → Nat) (Q : β → Prop)
    (h : ∀ x, I x → (∃ y, step x = some (.inl y) ∧ I y ∧ m y < m x) ∨ ∃ z, step x = some (.inr z) ∧ Q z) :
    ∀ (n : Nat) (x : α), I x → m x < n → ∃ z, iter step n x = some z ∧ Q z
  | 0, x, _, hm => by omega
  | n + 1, x, hx, hm => by
    unfold iter
    rcases h x hx with ⟨y, h1, h2, h3⟩ | ⟨z, h1, h2⟩
    · rw [h1]
      exact iter_ind I m Q h n y h2 (by omega)
    · rw [h1]
      exact ⟨z, rfl, h2⟩
theorem bindS {α β : Type} (x : α) (f : α → Option β) : (some x).bind f = f x := rfl
/-- A loop that stops early where a test of an element fails. -/
theorem iter_all {α β T : Type} {step : α → Option (α ⊕ β)} (l : List T) (q : T → Bool) (S : Nat → α) (zf z : β) (fuel : Nat) (hs : ∀ k (h : k < l.length), step (S k) = some (bif q l[k] then .inl (S (k + 1)) else .inr zf)) (hz : step (S l.length) = some (.inr z)) (hf : l.length < fuel) :
    iter step fuel (S 0) = some (bif l.all q then z else zf) := by
  have key : ∀ (n i fuel : Nat), i + n = l.length → n < fuel → iter step fuel (S i) = some (bif (l.drop i).all q then z else zf) := by
    intro n
    induction n with
    | zero =>
      intro i fuel hi hf
      match fuel, hf with
      | f + 1, _ =>
        have : i = l.length := by omega
        subst this
        unfold iter
        rw [hz]
        simp
    | succ n ih =>
      intro i fuel hi hf
      match fuel, hf with
      | f + 1, hf =>
        have hlt : i < l.length := by omega
        unfold iter
        rw [hs i hlt, List.drop_eq_getElem_cons hlt, List.all_cons]
        cases q l[i] with
        | true => simp only [cond_true, Bool.true_and]; exact ih (i + 1) f (by omega) (by omega)
        | false => rfl
  exact key l.length 0 fuel (by omega) hf
/-- A loop that goes on to the end. -/
theorem iter_to {α β : Type} {step : α → Option (α ⊕ β)} (n : Nat) (S : Nat → α) (z : β) (fuel : Nat) (hs : ∀ k, k < n → step (S k) = some (.inl (S (k + 1)))) (hz : step (S n) = some (.inr z)) (hf : n < fuel) : iter step fuel (S 0) = some z := by
  have key : ∀ (m i fuel : Nat), i + m = n → m < fuel → iter step fuel (S i) = some z := by
    intro m
    induction m with
    | zero =>
      intro i fuel hi hf
      match fuel, hf with
      | f + 1, _ =>
        have : i = n := by omega
        subst this
        unfold iter
        rw [hz]
    | succ m ih =>
      intro i fuel hi hf
      match fuel, hf with
      | f + 1, hf =>
        unfold iter
        rw [hs i (by omega)]
        exact ih (i + 1) f (by omega) (by omega)
  exact key n 0 fuel (by omega) hf
/-- A loop by an invariant. -/
theorem iter_inv {α β : Type} {step : α → Option (α ⊕ β)} (n : Nat) (I : Nat → α → Prop) (Q : β → Prop) {x : α} (fuel : Nat) (h0 : I 0 x) (hs : ∀ k, k < n → ∀ x, I k x → ∃ y, step x = some (.inl y) ∧ I (k + 1) y) (hz : ∀ x, I n x → ∃ z, step x = some (.inr z) ∧ Q z) (hf : n < fuel) : ∃ z, iter step fuel x = some z ∧ Q z := by
  have key : ∀ (m i fuel : Nat) (x : α), i + m = n → m < fuel → I i x → ∃ z, iter step fuel x = some z ∧ Q z := by
    intro m
    induction m with
    | zero =>
      intro i fuel x hi hf hx
      match fuel, hf with
      | f + 1, _ =>
        have : i = n := by omega
        subst this
        obtain ⟨z, h1, h2⟩ := hz x hx
        unfold iter
        rw [h1]
        exact ⟨z, rfl, h2⟩
    | succ m ih =>
      intro i fuel x hi hf hx
      match fuel, hf with
      | f + 1, hf =>
        obtain ⟨y, h1, h2⟩ := hs i (by omega) x hx
        unfold iter
        rw [h1]
        exact ih (i + 1) f y (by omega) (by omega) h2
  exact key n 0 fuel x (by omega) hf h0
/-- .. that may also end at any turn. -/
theorem iter_inv' {α β : Type} {step : α → Option (α ⊕ β)} (n : Nat) (I : Nat → α → Prop) (Q : β → Prop) {x : α} (fuel : Nat) (h0 : I 0 x) (hs : ∀ k, k < n → ∀ x, I k x → (∃ y, step x = some (.inl y) ∧ I (k + 1) y) ∨ ∃ z, step x = some (.inr z) ∧ Q z) (hz : ∀ x, I n x → ∃ z, step x = some (.inr z) ∧ Q z) (hf : n < fuel) : ∃ z, iter step fuel x = some z ∧ Q z := by
  have key : ∀ (m i fuel : Nat) (x : α), i + m = n → m < fuel → I i x → ∃ z, iter step fuel x = some z ∧ Q z := by
    intro m
    induction m with
    | zero =>
      intro i fuel x hi hf hx
      match fuel, hf with
      | f + 1, _ =>
        have : i = n := by omega
        subst this
        obtain ⟨z, h1, h2⟩ := hz x hx
        unfold iter
        rw [h1]
        exact ⟨z, rfl, h2⟩
    | succ m ih =>
      intro i fuel x hi hf hx
      match fuel, hf with
      | f + 1, hf =>
        unfold iter
        rcases hs i (by omega) x hx with ⟨y, h1, h2⟩ | ⟨z, h1, h2⟩
        · rw [h1]
          exact ih (i + 1) f y (by omega) (by omega) h2
        · rw [h1]
          exact ⟨z, rfl, h2⟩
  exact key n 0 fuel x (by omega) hf h0
/-- A list whose first elements are turned. -/
def upto {α : Type} (f : α → α) (l : List α) (i : Nat) : List α := (l.take i).map f ++ l.drop i
theorem upto_len {α : Type} (f : α → α) (l : List α) (i : Nat) : (upto f l i).length = l.length := by
  simp [upto]; omega
theorem upto_zero {α : Type} (f : α → α) (l : List α) : upto f l 0 = l := by simp [upto]
theorem upto_all {α : Type} (f : α → α) (l : List α) : upto f l l.length = l.map f := by simp [upto]
theorem upto_get {α : Type} (f : α → α) (l : List α) (i : Nat) (h : i < l.length) (h' : i < (upto f l i).length) : (upto f l i)[i] = l[i] := by
  simp only [upto]
  rw [List.getElem_append_right (by simp; omega)]
  simp [Nat.min_eq_left (Nat.le_of_lt h)]
theorem upto_set {α : Type} (f : α → α) (l : List α) (i : Nat) (h : i < l.length) : (upto f l i).set i (f l[i]) = upto f l (i + 1) := by
  have hm : min i l.length = i := by omega
  have e : l.drop i = l[i] :: l.drop (i + 1) := List.drop_eq_getElem_cons h
  simp only [upto]
  rw [List.set_append_right _ _ (by simp; omega), e, List.take_succ_eq_append_getElem h]
  simp only [List.map_append, List.map_cons, List.map_nil, List.length_map, List.length_take, hm, Nat.sub_self, List.set_cons_zero, List.append_assoc, List.cons_append, List.nil_append]
theorem beI {x y : Int} (h : ¬ x = y) : (x == y) = false := by simp [h]
theorem neI {x y : Int} (h : ¬ x = y) : (x != y) = true := by simp [h]
theorem okLen_t {n : Nat} (h : n < 1073741824) : okLen n = true := decide_eq_true h
theorem wrapS {i : Nat} (h : i < 4611686018427387904) : IntKind.i64.wrap ((i : Int) + 1) = ((i + 1 : Nat) : Int) := by
  rw [w64 (by omega) (by omega)]; simp
theorem bigLt {n : Nat} (h : n < 1073741824) : n < big := by unfold big; omega
def inR (x a b : Int) : Bool := decide (a ≤ x) && decide (x ≤ b)
theorem inR_iff {x a b : Int} : inR x a b = true ↔ a ≤ x ∧ x ≤ b := by simp [inR]
theorem m_between (x a b : Int) : fi_between x a b = some (inR x a b) := by
  unfold fi_between inR
  by_cases h : a ≤ x <;> simp [h]
theorem m_in (x a b : Int) : fs_l01In x a b = some (inR x a b) := m_between x a b
def geoOk (g : DGeometry) : Bool := inR g.groups 1 2 && inR g.banks 1 4 && inR g.rows 2 16 && inR g.cols 1 8
theorem m_GeometryOk (g : DGeometry) : fi_GeometryOk g = some (geoOk g) := by
  unfold fi_GeometryOk geoOk
  simp only [m_between, bindS]
  cases inR g.groups 1 2 <;> cases inR g.banks 1 4 <;> cases inR g.rows 2 16 <;> rfl
theorem m_sGeometryOk (g : DGeometry) : fs_GeometryOk g = some (geoOk g) := by
  unfold fs_GeometryOk geoOk
  simp only [m_in, bindS]
  cases inR g.groups 1 2 <;> cases inR g.banks 1 4 <;> cases inR g.rows 2 16 <;> rfl
theorem geo_b {g : DGeometry} (h : geoOk g = true) : 1 ≤ g.groups ∧ g.groups ≤ 2 ∧ 1 ≤ g.banks ∧ g.banks ≤ 4 ∧ 2 ≤ g.rows ∧ g.rows ≤ 16 ∧ 1 ≤ g.cols ∧ g.cols ≤ 8 := by
  simp only [geoOk, inR, Bool.and_eq_true, decide_eq_true_eq] at h
  omega
def banksN (g : DGeometry) : Int := bif geoOk g then g.groups * g.banks else 0
theorem banksN_b (g : DGeometry) : 0 ≤ banksN g ∧ banksN g ≤ 8 := by
  unfold banksN
  cases h : geoOk g with
  | false => simp
  | true =>
    obtain ⟨h1, h2, h3, h4, _⟩ := geo_b h
    simp only [cond_true]
    rcases (by omega : g.groups = 1 ∨ g.groups = 2) with e | e <;> rw [e] <;> omega
theorem banksN_pos {g : DGeometry} (h : geoOk g = true) : 1 ≤ banksN g := by
  obtain ⟨h1, h2, h3, h4, _⟩ := geo_b h
  simp only [banksN, h, cond_true]
  rcases (by omega : g.groups = 1 ∨ g.groups = 2) with e | e <;> rw [e] <;> omega
theorem m_BankCount (g : DGeometry) : fi_BankCount g = some (banksN g) := by
  have hb := banksN_b g
  unfold fi_BankCount
  rw [m_GeometryOk, bindS]
  unfold banksN at hb ⊢
  cases h : geoOk g with
  | false => rfl
  | true =>
    rw [h] at hb
    simp only [cond_true] at hb
    simp only [Bool.not_true, cond_false, cond_true]
    rw [w64 (by omega) (by omega)]
theorem m_sBankCount (g : DGeometry) : fs_BankCount g = some (banksN g) := by
  have hb := banksN_b g
  unfold fs_BankCount
  rw [m_sGeometryOk, bindS]
  unfold banksN at hb ⊢
  cases h : geoOk g with
  | false => rfl
  | true =>
    rw [h] at hb
    simp only [cond_true] at hb
    simp only [Bool.not_true, cond_false, cond_true]
    rw [w64 (by omega) (by omega)]
/-- Rows of all banks; lines. -/
def rowsN (g : DGeometry) : Int := bif geoOk g then banksN g * g.rows else 0
def linesN (g : DGeometry) : Int := bif geoOk g then banksN g * g.rows * g.cols else 0
theorem mul_b {a b A B : Int} (h1 : 0 ≤ a) (h2 : a ≤ A) (h3 : 0 ≤ b) (h4 : b ≤ B) : 0 ≤ a * b ∧ a * b ≤ A * B :=
  ⟨Int.mul_nonneg h1 h3, Int.le_trans (Int.mul_le_mul_of_nonneg_right h2 h3) (Int.mul_le_mul_of_nonneg_left h4 (by omega))⟩
theorem rowsN_b (g : DGeometry) : 0 ≤ rowsN g ∧ rowsN g ≤ 128 := by
  unfold rowsN
  cases h : geoOk g with
  | false => simp
  | true =>
    obtain ⟨_, _, _, _, h5, h6, _⟩ := geo_b h
    have := banksN_b g
    exact mul_b this.1 this.2 (by omega) h6
theorem linesN_b (g : DGeometry) : 0 ≤ linesN g ∧ linesN g ≤ 1024 := by
  have hr := rowsN_b g
  unfold linesN rowsN at *
  cases h : geoOk g with
  | false => simp
  | true =>
    rw [h] at hr
    obtain ⟨_, _, _, _, h5, h6, h7, h8⟩ := geo_b h
    exact mul_b hr.1 hr.2 (by omega) h8
theorem m_LineCount (g : DGeometry) : fi_LineCount g = some (linesN g) := by
  have h1 := linesN_b g
  have h2 := rowsN_b g
  unfold fi_LineCount
  rw [m_BankCount, bindS]
  unfold linesN rowsN at *
  cases h : geoOk g with
  | false => simp only [banksN, h, cond_false, Int.zero_mul]; rw [show IntKind.i64.wrap 0 = 0 from rfl, Int.zero_mul]; rfl
  | true =>
    rw [h] at h1 h2
    simp only [cond_true] at h1 h2
    simp only [cond_true]
    rw [w64 (n := banksN g * g.rows) (by omega) (by omega), w64 (by omega) (by omega)]
theorem m_sLineCount (g : DGeometry) : fs_LineCount g = some (linesN g) := by
  have h1 := linesN_b g
  have h2 := rowsN_b g
  unfold fs_LineCount
  rw [m_sGeometryOk, bindS, m_sBankCount, bindS]
  unfold linesN rowsN at *
  cases h : geoOk g with
  | false => rfl
  | true =>
    rw [h] at h1 h2
    simp only [cond_true] at h1 h2
    simp only [Bool.not_true, cond_true, cond_false]
    rw [w64 (n := banksN g * g.rows) (by omega) (by omega), w64 (by omega) (by omega)]
def addrOk (g : DGeometry) (a : DAddr) : Bool := geoOk g && inR a.bank 0 (banksN g - 1) && inR a.row 0 (g.rows - 1) && inR a.col 0 (g.cols - 1)
theorem addr_b {g : DGeometry} {a : DAddr} (h : addrOk g a = true) : geoOk g = true ∧ 0 ≤ a.bank ∧ a.bank < banksN g ∧ 0 ≤ a.row ∧ a.row < g.rows ∧ 0 ≤ a.col ∧ a.col < g.cols := by
  simp only [addrOk, inR, Bool.and_eq_true, decide_eq_true_eq] at h
  exact ⟨h.1.1.1, by omega⟩
theorem addr_mk {g : DGeometry} {a : DAddr} (h : geoOk g = true) (h1 : 0 ≤ a.bank) (h2 : a.bank < banksN g) (h3 : 0 ≤ a.row) (h4 : a.row < g.rows) (h5 : 0 ≤ a.col) (h6 : a.col < g.cols) : addrOk g a = true := by
  simp only [addrOk, inR, Bool.and_eq_true, decide_eq_true_eq]
  exact ⟨⟨⟨h, by omega⟩, by omega⟩, by omega⟩
theorem m_sAddrOk (g : DGeometry) (a : DAddr) : fs_AddrOk g a = some (addrOk g a) := by
  unfold fs_AddrOk addrOk
  simp only [m_sBankCount, m_in, bindS]
  have hb := banksN_b g
  rw [w64 (n := banksN g - 1) (by omega) (by omega)]
  cases h : geoOk g with
  | false =>
    have : inR a.bank 0 (banksN g - 1) = false := by
      simp only [banksN, h, cond_false, inR]
      by_cases hx : 0 ≤ a.bank <;> simp [hx]
      omega
    rw [this]; rfl
  | true =>
    obtain ⟨_, _, _, _, h5, h6, h7, h8⟩ := geo_b h
    rw [w64 (n := g.rows - 1) (by omega) (by omega), w64 (n := g.cols - 1) (by omega) (by omega)]
    cases inR a.bank 0 (banksN g - 1) <;> cases inR a.row 0 (g.rows - 1) <;> rfl
theorem row_b {b n r R : Int} (h1 : 0 ≤ b) (h2 : b < n) (h3 : 0 ≤ r) (h4 : r < R) : 0 ≤ b * R ∧ 0 ≤ b * R + r ∧ b * R + r < n * R := by
  have e1 : 0 ≤ b * R := Int.mul_nonneg h1 (by omega)
  have e2 : (b + 1) * R ≤ n * R := Int.mul_le_mul_of_nonneg_right (by omega) (by omega)
  rw [Int.add_mul] at e2
  omega
def addrIx (g : DGeometry) (a : DAddr) : Int := bif addrOk g a then (a.bank * g.rows + a.row) * g.cols + a.col else -1
theorem addrIx_b {g : DGeometry} {a : DAddr} (h : addrOk g a = true) : 0 ≤ addrIx g a ∧ addrIx g a < linesN g ∧ 0 ≤ a.bank * g.rows ∧ 0 ≤ a.bank * g.rows + a.row ∧ a.bank * g.rows + a.row < rowsN g ∧ 0 ≤ (a.bank * g.rows + a.row) * g.cols := by
  obtain ⟨hg, h1, h2, h3, h4, h5, h6⟩ := addr_b h
  obtain ⟨r0, r1, r2⟩ := row_b h1 h2 h3 h4
  obtain ⟨l0, l1, l2⟩ := row_b r1 r2 h5 h6
  simp only [addrIx, h, linesN, rowsN, hg, cond_true]
  omega
theorem m_sAddrIndex (g : DGeometry) (a : DAddr) : fs_AddrIndex g a = some (addrIx g a) := by
  unfold fs_AddrIndex
  rw [m_sAddrOk, bindS]
  cases h : addrOk g a with
  | false => simp [addrIx, h]
  | true =>
    have hb := addrIx_b h
    have h1 := linesN_b g
    have h2 := rowsN_b g
    obtain ⟨hg, b1, b2, b3, b4, b5, b6⟩ := addr_b h
    obtain ⟨_, _, _, _, g5, g6, g7, g8⟩ := geo_b hg
    simp only [addrIx, h, cond_true] at hb ⊢
    simp only [Bool.not_true, cond_false]
    rw [w64 (n := a.bank * g.rows) (by omega) (by omega), w64 (n := a.bank * g.rows + a.row) (by omega) (by omega), w64 (n := (a.bank * g.rows + a.row) * g.cols) (by omega) (by omega), w64 (by omega) (by omega)]
/-- A loop that goes through n turns: S gives the state at each. -/
theorem iter_run {α β : Type} {step : α → Option (α ⊕ β)} (S : Nat → α) {z : β} : ∀ (n i fuel : Nat), (∀ k, i ≤ k → k < i + n → step (S k) = some (.inl (S (k + 1)))) → step (S (i + n)) = some (.inr z) → n < fuel → iter step fuel (S i) = some z
  | 0, i, fuel, _, hz, hf => by
    match fuel, hf with
    | f + 1, _ => unfold iter; rw [Nat.add_zero] at hz; rw [hz]
  | n + 1, i, fuel, hs, hz, hf => by
    match fuel, hf with
    | f + 1, hf =>
      unfold iter
      rw [hs i (Nat.le_refl _) (by omega)]
      exact iter_run S n (i + 1) f (fun k h1 h2 => hs k (by omega) (by omega)) (by rw [show i + 1 + n = i + (n + 1) by omega]; exact hz) (by omega)
theorem wrap_succ {i : Nat} (h : i < 4611686018427387904) : IntKind.i64.wrap ((i : Int) + 1) = ((i + 1 : Nat) : Int) := by
  rw [w64 (by omega) (by omega)]; simp
theorem and255 (y : Int) : 0 ≤ bits .and .i64 y 255 ∧ bits .and .i64 y 255 ≤ 255 := by
  have e : bits .and .i64 y 255 = IntKind.i64.wrap ((BitVec.ofInt 64 y &&& BitVec.ofInt 64 255).toNat : Int) := rfl
  have h : (BitVec.ofInt 64 y &&& BitVec.ofInt 64 255).toNat ≤ 255 := by
    rw [BitVec.toNat_and]
    exact Nat.le_trans Nat.and_le_right (by decide)
  rw [e, IntKind.wrap_i64]
  omega
/-- A cursor over some bytes. -/
structure Cok (b : List Int) (c : DCur) : Prop where
  eq : c.b = b
  lo : 0 ≤ c.i
  hi : c.i ≤ b.length
  len : b.length ≤ 1073741823
theorem Cok.eta {b : List Int} {c : DCur} (h : Cok b c) : (⟨b, c.i, c.h⟩ : DCur) = c := by
  obtain ⟨b', i, h'⟩ := c
  have := h.eq
  simp only at this
  subst this
  rfl
/-- A draw gives a value of P, and the cursor goes on. -/
def Dr {α : Type} (b : List Int) (f : Option (α × (DCur × Unit))) (P : α → Prop) : Prop := ∃ x c, f = some (x, (c, ())) ∧ Cok b c ∧ P x
theorem Dr.mono {α : Type} {b : List Int} {f : Option (α × (DCur × Unit))} {P Q : α → Prop} (h : Dr b f P) (hq : ∀ x, P x → Q x) : Dr b f Q := by
  obtain ⟨x, c, h1, h2, h3⟩ := h
  exact ⟨x, c, h1, h2, hq x h3⟩
theorem Dr.bind {α β : Type} {b : List Int} {f : Option (α × (DCur × Unit))} {g : α × (DCur × Unit) → Option (β × (DCur × Unit))} {P : α → Prop} {Q : β → Prop} (h : Dr b f P) (hg : ∀ x c, P x → Cok b c → Dr b (g (x, (c, ()))) Q) : Dr b (f.bind g) Q := by
  obtain ⟨x, c, h1, h2, h3⟩ := h
  rw [h1]
  exact hg x c h3 h2
theorem Dr.pure {α : Type} {b : List Int} {x : α} {c : DCur} {P : α → Prop} (hc : Cok b c) (hp : P x) : Dr b (some (x, (c, ()))) P := ⟨x, c, rfl, hc, hp⟩
theorem p_new (l : List Int) (h : l.length ≤ 1073741823) : ∃ y, fs_l01New l = some y := by
  unfold fs_l01New
  obtain ⟨z, h1, h2⟩ := iter_ind (step := Lfs_l01New_0)
    (fun x => ∃ (i : Nat) (y : Int), x = (((), y, (i : Int), ()), (l, ())) ∧ i ≤ l.length)
    (fun x => l.length - x.1.2.2.1.toNat) (fun z => ∃ y, (Sum.elim (fun z3 : ((Unit × Int × Unit) × ((List Int) × Unit)) => some z3.1.2.1) (fun z => nomatch z)) z = some y) (by
      rintro x ⟨i, y, rfl, hi⟩
      unfold Lfs_l01New_0
      dsimp only
      by_cases h' : i < l.length
      · have c1 : decide ((i : Int) < (l.length : Int)) = true := by simpa using h'
        have c2 : 0 ≤ (i : Int) ∧ (i : Int).toNat < l.length := ⟨by omega, by simpa using h'⟩
        rw [c1, cond_true]
        cases h4 : decide ((i : Int) < 4000) with
        | true =>
          rw [cond_true, dif_pos c2]
          left
          refine ⟨_, rfl, ⟨i + 1, _, by rw [wrap_succ (by omega)], by omega⟩, ?_⟩
          dsimp only
          rw [wrap_succ (by omega)]
          omega
        | false =>
          rw [cond_false]
          right
          exact ⟨_, rfl, _, rfl⟩
      · have c1 : decide ((i : Int) < (l.length : Int)) = false := by simpa using h'
        rw [c1, cond_false]
        right
        exact ⟨_, rfl, _, rfl⟩)
    big (((), (IntKind.i64.wrap ((97301 : Int) + (l.length : Int))), ((0 : Nat) : Int), ()), (l, ())) ⟨0, _, rfl, by omega⟩ (by dsimp only; unfold big; omega)
  have h1 : iter Lfs_l01New_0 big (((), (IntKind.i64.wrap ((97301 : Int) + (l.length : Int))), (0 : Int), ()), (l, ())) = some z := h1
  rw [h1]
  exact h2
theorem new_cok (l : List Int) (y : Int) (h : l.length ≤ 1073741823) : Cok l ⟨l, 0, y⟩ := ⟨rfl, Int.le_refl _, by simp, h⟩
theorem p_byte {b : List Int} {c : DCur} (hc : Cok b c) : Dr b (fs_l01Byte c) fun x => 0 ≤ x ∧ x ≤ 255 := by
  have hb := hc.eq
  have h1 := hc.lo
  have h2 := hc.hi
  have h3 := hc.len
  unfold fs_l01Byte
  by_cases h : c.i < (c.b.length : Int)
  · have c1 : decide (c.i < (c.b.length : Int)) = true := by simpa using h
    rw [c1, cond_true, dif_pos ⟨h1, by omega⟩]
    refine Dr.pure ⟨hb, ?_, ?_, h3⟩ (and255 _)
    · show 0 ≤ IntKind.i64.wrap (c.i + 1)
      rw [hb] at h
      rw [w64 (by omega) (by omega)]; omega
    · show IntKind.i64.wrap (c.i + 1) ≤ _
      rw [hb] at h
      rw [w64 (by omega) (by omega)]; omega
  · have c1 : decide (c.i < (c.b.length : Int)) = false := by simpa using h
    rw [c1, cond_false]
    exact Dr.pure ⟨hb, h1, h2, h3⟩ (and255 _)
theorem tmod_bd {x n : Int} (h : 0 ≤ x) (hn : 0 < n) : 0 ≤ x.tmod n ∧ x.tmod n < n := by
  rw [Int.tmod_eq_emod_of_nonneg h]
  exact ⟨Int.emod_nonneg _ (by omega), Int.emod_lt_of_pos _ hn⟩
theorem p_below {b : List Int} {c : DCur} (hc : Cok b c) (n : Int) : Dr b (fs_l01Below c n) fun x => 0 ≤ x ∧ (n ≤ 0 → x = 0) ∧ (0 < n → x < n) := by
  unfold fs_l01Below
  by_cases h0 : n ≤ 0
  · have c1 : decide (n ≤ 0) = true := by simpa using h0
    rw [c1, cond_true]
    exact Dr.pure hc ⟨Int.le_refl _, fun _ => rfl, fun h => by omega⟩
  · have c1 : decide (n ≤ 0) = false := by simpa using h0
    have hn : ¬ n = 0 := by omega
    rw [c1, cond_false]
    by_cases h1 : n ≤ 256
    · have c2 : decide (n ≤ 256) = true := by simpa using h1
      rw [c2, cond_true]
      refine (p_byte hc).bind fun x c' hx hc' => ?_
      rw [if_neg hn]
      dsimp only
      rw [hc.eq, hc'.eta]
      have := tmod_bd hx.1 (show 0 < n by omega)
      exact Dr.pure hc' ⟨this.1, fun h => by omega, fun _ => this.2⟩
    · have c2 : decide (n ≤ 256) = false := by simpa using h1
      rw [c2, cond_false, hc.eq]
      refine (p_byte hc).bind fun x1 k1 hx1 hk1 => ?_
      dsimp only
      rw [hk1.eta]
      refine (p_byte hk1).bind fun x2 k2 hx2 hk2 => ?_
      dsimp only
      rw [hk2.eta]
      refine (p_byte hk2).bind fun x3 k3 hx3 hk3 => ?_
      dsimp only
      rw [hk3.eta]
      refine (p_byte hk3).bind fun x4 k4 hx4 hk4 => ?_
      rw [if_neg hn]
      dsimp only
      rw [hk4.eta]
      rw [w64 (n := x1 * 16777216) (by omega) (by omega), w64 (n := x2 * 65536) (by omega) (by omega), w64 (n := x1 * 16777216 + x2 * 65536) (by omega) (by omega), w64 (n := x3 * 256) (by omega) (by omega), w64 (n := x1 * 16777216 + x2 * 65536 + x3 * 256) (by omega) (by omega), w64 (n := x1 * 16777216 + x2 * 65536 + x3 * 256 + x4) (by omega) (by omega)]
      have := tmod_bd (x := x1 * 16777216 + x2 * 65536 + x3 * 256 + x4) (by omega) (show 0 < n by omega)
      exact Dr.pure hk4 ⟨this.1, fun h => by omega, fun _ => this.2⟩
theorem p_between (x a b : Int) : fi_between x a b = some (decide (a ≤ x) && decide (x ≤ b)) := by
  unfold fi_between
  by_cases h : a ≤ x
  · have : decide (x ≥ a) = true := decide_eq_true h
    rw [this]; rfl
  · have : decide (x ≥ a) = false := decide_eq_false h
    rw [this]; rfl
theorem p_between_t {x a b : Int} (h : a ≤ x) (h' : x ≤ b) : fi_between x a b = some true := by
  rw [p_between, decide_eq_true h, decide_eq_true h']; rfl
theorem p_in_t {x a b : Int} (h : a ≤ x) (h' : x ≤ b) : fs_l01In x a b = some true := p_between_t h h'
theorem p_sameInts (l : List Int) (h : l.length < 1073741823) : fl_sameInts l l = some true := by
  unfold fl_sameInts
  have c0 : ((l.length : Int) != (l.length : Int)) = false := by simp
  rw [c0, cond_false]
  have e := iter_run (step := Lfl_sameInts_0) (fun i => ((l, l, (i : Int), ()), ())) (z := .inr (.inl ((), ()))) l.length 0 big (fun k _ hk => ?_) ?_ (by unfold big; omega)
  · have e : iter Lfl_sameInts_0 big ((l, l, (0 : Int), ()), ()) = _ := e
    rw [e]; rfl
  · have hk : k < l.length := by omega
    unfold Lfl_sameInts_0
    dsimp only
    have c1 : decide ((k : Int) < (l.length : Int)) = true := decide_eq_true (by omega)
    have c2 : 0 ≤ (k : Int) ∧ (k : Int).toNat < l.length := ⟨by omega, by simpa using hk⟩
    rw [c1, cond_true, dif_pos c2, dif_pos c2, wrap_succ (by omega)]
    have : (l[(k : Int).toNat]'c2.2 != l[(k : Int).toNat]'c2.2) = false := by simp
    rw [this]; rfl
  · rw [Nat.zero_add]
    unfold Lfl_sameInts_0
    dsimp only
    have c1 : decide ((l.length : Int) < (l.length : Int)) = false := decide_eq_false (by omega)
    rw [c1, cond_false]
def gmT : Nat := 116196760129267793630862849262464326346044543732748708940920453221664288556434379745879494961270582141731748813355742142288220638766218855867759359510984593843506004200114943278699875244065120512813025380665946106619127097398772031257643617143689515450995722003729973585221105779229319991106539050771048038400
def gm (a b : Nat) : Nat := (gmT / 2 ^ (4 * (16 * a + b))) % 16
def pwT : Nat := 44684875893970114885940500792407720993
def pw (n : Nat) : Nat := (pwT / 2 ^ (4 * n)) % 16
def all16 (f : Nat → Bool) : Bool := (List.range 16).all f
theorem all16_ok {f : Nat → Bool} (h : all16 f = true) {a : Nat} (ha : a < 16) : f a = true := by
  have := List.all_eq_true.1 h a (List.mem_range.2 ha)
  exact this
theorem gm_lt (a b : Nat) : gm a b < 16 := Nat.mod_lt _ (by decide)
theorem pw_lt (n : Nat) : pw n < 16 := Nat.mod_lt _ (by decide)
theorem t_mul : (all16 fun a => all16 fun b => fi_GfMul (Int.ofNat a) (Int.ofNat b) == some (Int.ofNat (gm a b))) = true := by kernel_rfl
theorem t_pow : ((List.range 31).all fun n => fi_GfPow 2 (Int.ofNat n) == some (Int.ofNat (pw n))) = true := by kernel_rfl
theorem t_xor : (all16 fun a => all16 fun b => decide (bits .xor .i64 (Int.ofNat a) (Int.ofNat b) = Int.ofNat (a ^^^ b)) && Nat.blt (a ^^^ b) 16) = true := by kernel_rfl
theorem t_lin : (all16 fun a => all16 fun b => all16 fun c => Nat.beq (gm (a ^^^ b) c) (gm a c ^^^ gm b c)) = true := by kernel_rfl
theorem t_one : (all16 fun a => Nat.beq (gm a 1) a && Nat.beq (gm 0 a) 0) = true := by kernel_rfl
theorem p_mul {a b : Nat} (ha : a < 16) (hb : b < 16) : fi_GfMul (a : Int) (b : Int) = some (gm a b : Int) := by
  have h := all16_ok (all16_ok t_mul ha) hb
  exact eq_of_beq h
theorem p_pow {n : Nat} (h : n < 31) : fi_GfPow 2 (n : Int) = some (pw n : Int) := eq_of_beq (List.all_eq_true.1 t_pow n (List.mem_range.2 h))
theorem p_xor {a b : Nat} (ha : a < 16) (hb : b < 16) : bits .xor .i64 (a : Int) (b : Int) = ((a ^^^ b : Nat) : Int) := by
  have h := all16_ok (all16_ok t_xor ha) hb
  rw [Bool.and_eq_true] at h
  exact of_decide_eq_true h.1
theorem xor_lt {a b : Nat} (ha : a < 16) (hb : b < 16) : a ^^^ b < 16 := by
  have h := all16_ok (all16_ok t_xor ha) hb
  rw [Bool.and_eq_true] at h
  exact Nat.le_of_ble_eq_true h.2
theorem gm_xor {a b c : Nat} (ha : a < 16) (hb : b < 16) (hc : c < 16) : gm (a ^^^ b) c = gm a c ^^^ gm b c := Nat.eq_of_beq_eq_true (all16_ok (all16_ok (all16_ok t_lin ha) hb) hc)
theorem gm_one {a : Nat} (ha : a < 16) : gm a 1 = a := by
  have h := all16_ok t_one ha
  rw [Bool.and_eq_true] at h
  exact Nat.eq_of_beq_eq_true h.1
theorem gm_zero {a : Nat} (ha : a < 16) : gm 0 a = 0 := by
  have h := all16_ok t_one ha
  rw [Bool.and_eq_true] at h
  exact Nat.eq_of_beq_eq_true h.2
abbrev toI (w : List Nat) : List Int := w.map fun (n : Nat) => (n : Int)
def Wd16 (w : List Nat) : Prop := ∀ x ∈ w, x < 16
theorem toI_len (w : List Nat) : (toI w).length = w.length := by simp [toI]
theorem toI_get {w : List Nat} {k : Nat} (h : k < (toI w).length) : (toI w)[k] = ((w.getD k 0 : Nat) : Int) := by
  have h' : k < w.length := by rw [toI_len] at h; exact h
  simp [toI, List.getD_eq_getElem?_getD, List.getElem?_eq_getElem h']
theorem Wd16.get {w : List Nat} (h : Wd16 w) (k : Nat) : w.getD k 0 < 16 := by
  by_cases hk : k < w.length
  · simp only [List.getD_eq_getElem?_getD, List.getElem?_eq_getElem hk, Option.getD_some]
    exact h _ (List.getElem_mem hk)
  · simp [List.getD_eq_getElem?_getD, List.getElem?_eq_none (Nat.le_of_not_lt hk)]
theorem p_symbols {w : List Nat} (hw : Wd16 w) (hl : w.length < 1000) (n : Int) : fi_SymbolsOk (toI w) n = some ((w.length : Int) == n) := by
  unfold fi_SymbolsOk
  have e := iter_run (step := Lfi_SymbolsOk_0) (fun i => ((toI w, n, toI w, ((toI w).length : Int), (i : Int), ()), ())) (z := .inr (.inl ((toI w, n, ()), ()))) w.length 0 big (fun k _ hk => ?_) ?_ (by unfold big; omega)
  · have e : iter Lfi_SymbolsOk_0 big ((toI w, n, toI w, ((toI w).length : Int), (0 : Int), ()), ()) = _ := e
    rw [e]
    show some (((toI w).length : Int) == n) = _
    rw [toI_len]
  · have hk : k < (toI w).length := by rw [toI_len]; omega
    unfold Lfi_SymbolsOk_0
    dsimp only
    have c1 : decide ((k : Int) < ((toI w).length : Int)) = true := decide_eq_true (by omega)
    have c2 : 0 ≤ (k : Int) ∧ (k : Int).toNat < (toI w).length := ⟨by omega, by simpa using hk⟩
    rw [c1, cond_true, dif_pos c2]
    have c3 : (toI w)[(k : Int).toNat]'c2.2 = ((w.getD k 0 : Nat) : Int) := toI_get hk
    rw [c3]
    have := hw.get k
    unfold fi_isElement
    rw [p_between_t (by omega) (by omega), bindS, bindS, wrap_succ (by omega)]
    rfl
  · unfold Lfi_SymbolsOk_0
    dsimp only
    have c1 : decide (((0 + w.length : Nat) : Int) < ((toI w).length : Int)) = false := decide_eq_false (by rw [toI_len]; omega)
    rw [c1, cond_false]
def synp (w : List Nat) (j : Nat) : Nat → Nat
  | 0 => 0
  | i + 1 => synp w j i ^^^ gm (w.getD i 0) (pw (i * j))
theorem synp_lt (w : List Nat) (j : Nat) : ∀ i, synp w j i < 16
  | 0 => Nat.zero_lt_succ _
  | i + 1 => xor_lt (synp_lt w j i) (gm_lt _ _)
theorem p_synIn {w : List Nat} (hw : Wd16 w) (hl : w.length = 11) (j : Nat) (hj : j < 3) (a b : Int) (o : List Int) (ho : j < o.length) (h0 : o.set j 0 = o) :
    iter Lfi_Syndromes_2 big ((toI w, (), (j : Int), a, b, toI w, ((toI w).length : Int), (0 : Int), ()), (o, ())) = some (.inl ((toI w, (), a, b, ()), (o.set j (synp w j 11 : Int), ()))) := by
  have e := iter_run (step := Lfi_Syndromes_2) (fun i => ((toI w, (), (j : Int), a, b, toI w, ((toI w).length : Int), (i : Int), ()), (o.set j (synp w j i : Int), ()))) (z := .inl ((toI w, (), a, b, ()), (o.set j (synp w j 11 : Int), ()))) 11 0 big (fun k _ hk => ?_) ?_ (by unfold big; omega)
  · have e : iter Lfi_Syndromes_2 big ((toI w, (), (j : Int), a, b, toI w, ((toI w).length : Int), (0 : Int), ()), (o.set j 0, ())) = _ := e
    rw [h0] at e
    exact e
  · have hk : k < (toI w).length := by rw [toI_len]; omega
    unfold Lfi_Syndromes_2
    dsimp only
    have c1 : decide ((k : Int) < ((toI w).length : Int)) = true := decide_eq_true (by omega)
    have c2 : 0 ≤ (k : Int) ∧ (k : Int).toNat < (toI w).length := ⟨by omega, by simpa using hk⟩
    have c4 : 0 ≤ (j : Int) ∧ (j : Int).toNat < (o.set j (synp w j k : Int)).length := ⟨by omega, by simpa using ho⟩
    have c3 : (toI w)[(k : Int).toNat]'c2.2 = ((w.getD k 0 : Nat) : Int) := toI_get hk
    have c5 : (o.set j (synp w j k : Int))[(j : Int).toNat]'c4.2 = (synp w j k : Int) := List.getElem_set_self _
    rw [c1, cond_true, dif_pos c2, dif_pos c4, dif_pos c4.2, c3, c5]
    have hkj : k * j ≤ 20 := Nat.le_trans (Nat.mul_le_mul (show k ≤ 10 by omega) (show j ≤ 2 by omega)) (by decide)
    have c6 : IntKind.i64.wrap ((k : Int) * (j : Int)) = ((k * j : Nat) : Int) := by
      rw [← Int.natCast_mul, w64 (by omega) (by omega)]
    rw [c6, p_pow (by omega), bindS, p_mul (hw.get k) (pw_lt _), bindS, dif_pos c4, dif_pos c4.2, p_xor (synp_lt _ _ _) (gm_lt _ _), wrap_succ (by omega)]
    have c7 : (o.set j (synp w j k : Int)).set (j : Int).toNat ((synp w j k ^^^ gm (w.getD k 0) (pw (k * j)) : Nat) : Int) = o.set j (synp w j (k + 1) : Int) := List.set_set ..
    rw [c7]
  · unfold Lfi_Syndromes_2
    dsimp only
    have c1 : decide (((0 + 11 : Nat) : Int) < ((toI w).length : Int)) = false := decide_eq_false (by rw [toI_len]; omega)
    rw [c1, cond_false]
def outS (w : List Nat) : Nat → List Int
  | 0 => [0, 0, 0]
  | 1 => [(synp w 0 11 : Int), 0, 0]
  | 2 => [(synp w 0 11 : Int), (synp w 1 11 : Int), 0]
  | _ => [(synp w 0 11 : Int), (synp w 1 11 : Int), (synp w 2 11 : Int)]
theorem p_syn {w : List Nat} (hw : Wd16 w) (hl : w.length = 11) : fi_Syndromes (toI w) = some [(synp w 0 11 : Int), (synp w 1 11 : Int), (synp w 2 11 : Int)] := by
  unfold fi_Syndromes
  have c0 : ((w.length : Int) == (11 : Int)) = true := by rw [hl]; rfl
  rw [p_symbols hw (by omega), c0, bindS]
  have e := iter_run (step := Lfi_Syndromes_0) (fun j => ((toI w, (), (3 : Int), (j : Int), ()), (outS w j, ()))) (z := .inl (((), ()), (outS w 3, ()))) 3 0 big (fun k _ hk => ?_) ?_ (by unfold big; omega)
  · have e : iter Lfi_Syndromes_0 big ((toI w, (), ((List.replicate (3 : Int).toNat (0 : Int)).length : Int), (0 : Int), ()), (List.replicate (3 : Int).toNat (0 : Int), ())) = _ := e
    rw [show (!true) = false from rfl, cond_false, if_pos (by decide), e]
    rfl
  · unfold Lfi_Syndromes_0
    dsimp only
    have c1 : decide ((k : Int) < (3 : Int)) = true := decide_eq_true (by omega)
    have e2 : outS w k = (outS w k).set k 0 ∧ k < (outS w k).length ∧ (outS w k).set k (synp w k 11 : Int) = outS w (k + 1) := by
      have : k = 0 ∨ k = 1 ∨ k = 2 := by omega
      rcases this with rfl | rfl | rfl
      · exact ⟨rfl, by simp [outS], rfl⟩
      · exact ⟨rfl, by simp [outS], rfl⟩
      · exact ⟨rfl, by simp [outS], rfl⟩
    rw [c1, cond_true, p_synIn hw hl k (by omega) (3 : Int) (k : Int) (outS w k) e2.2.1 e2.1.symm, e2.2.2]
    show some (Sum.inl ((toI w, (), (3 : Int), IntKind.i64.wrap ((k : Int) + 1), ()), (outS w (k + 1), ()))) = _
    rw [wrap_succ (by omega)]
  · unfold Lfi_Syndromes_0
    dsimp only
    rfl
theorem p_wordOk {w : List Nat} (hw : Wd16 w) (hl : w.length = 11) : fi_WordOk (toI w) = some (Nat.beq (synp w 0 11) 0 && (Nat.beq (synp w 1 11) 0 && Nat.beq (synp w 2 11) 0)) := by
  unfold fi_WordOk
  rw [p_syn hw hl, bindS]
  generalize synp w 0 11 = a
  generalize synp w 1 11 = b
  generalize synp w 2 11 = c
  have q : ∀ n : Nat, ((n : Int) == (0 : Int)) = Nat.beq n 0 := by
    intro n
    cases n with
    | zero => rfl
    | succ n => rfl
  show (bif ((a : Int) == (0 : Int)) then (bif ((b : Int) == (0 : Int)) then some ((c : Int) == (0 : Int)) else some false) else some false) = _
  rw [q, q, q]
  cases Nat.beq a 0 <;> cases Nat.beq b 0 <;> rfl
theorem synp_set {w : List Nat} (hw : Wd16 w) {k e : Nat} (he : e < 16) (hk : k < w.length) (j : Nat) : ∀ i, synp (w.set k (w.getD k 0 ^^^ e)) j i = if i ≤ k then synp w j i else synp w j i ^^^ gm e (pw (k * j))
  | 0 => by rw [if_pos (Nat.zero_le _)]; rfl
  | i + 1 => by
    have ih := synp_set hw he hk j i
    have hg : (w.set k (w.getD k 0 ^^^ e)).getD i 0 = if i = k then w.getD k 0 ^^^ e else w.getD i 0 := by
      simp only [List.getD_eq_getElem?_getD, List.getElem?_set]
      by_cases h : i = k
      · subst h; simp [hk]
      · simp [h, Ne.symm h]
    show synp (w.set k (w.getD k 0 ^^^ e)) j i ^^^ gm ((w.set k (w.getD k 0 ^^^ e)).getD i 0) (pw (i * j)) = _
    rw [ih, hg]
    by_cases h1 : i < k
    · rw [if_pos (by omega), if_neg (by omega), if_pos (by omega)]; rfl
    · by_cases h2 : i = k
      · subst h2
        rw [if_pos (Nat.le_refl _), if_pos rfl, if_neg (by omega), gm_xor (hw.get _) he (pw_lt _), ← Nat.xor_assoc]
        rfl
      · rw [if_neg (by omega), if_neg h2, if_neg (by omega)]
        show _ = synp w j i ^^^ gm (w.getD i 0) (pw (i * j)) ^^^ gm e (pw (k * j))
        rw [Nat.xor_assoc, Nat.xor_comm (gm e _), ← Nat.xor_assoc]
theorem Wd16.set {w : List Nat} (h : Wd16 w) {k v : Nat} (hv : v < 16) : Wd16 (w.set k v) := by
  intro x hx
  rcases List.mem_or_eq_of_mem_set hx with hx | rfl
  · exact h x hx
  · exact hv
def ivT : Nat := 9460475325918865680
def iv (a : Nat) : Nat := (ivT / 2 ^ (4 * a)) % 16
theorem iv_lt (a : Nat) : iv a < 16 := Nat.mod_lt _ (by decide)
theorem t_iv : (all16 fun a => Nat.beq a 0 || fi_GfInv (Int.ofNat a) == some (Int.ofNat (iv a))) = true := by kernel_rfl
def byL : List Nat := [8, 14, 7, 1]
theorem t_div : ((List.range 8).all fun m => all16 fun f => (List.range 3).all fun j =>
    Nat.beq (gm (gm 8 f) (pw (m * j)) ^^^ (gm (gm 14 f) (pw ((m + 1) * j)) ^^^ (gm (gm 7 f) (pw ((m + 2) * j)) ^^^ gm f (pw ((m + 3) * j))))) 0) = true := by kernel_rfl
theorem t_smul : (all16 fun a => all16 fun b => fs_GfMul (Int.ofNat a) (Int.ofNat b) == some (Int.ofNat (gm a b))) = true := by kernel_rfl
theorem p_smul {a b : Nat} (ha : a < 16) (hb : b < 16) : fs_GfMul (a : Int) (b : Int) = some (gm a b : Int) := by
  have h := all16_ok (all16_ok t_smul ha) hb
  exact eq_of_beq h
theorem t_by (W : List Int) : iter Lfs_EncodeSymbols_0 big (((), (), (1 : Int), ()), (W, ([(1 : Int), (1 : Int)] : List Int), ())) = some (.inl (((), (), ()), (W, toI byL, ()))) := by kernel_rfl
theorem p_ssymbols {w : List Nat} (hw : Wd16 w) (hl : w.length < 1000) (n : Int) : fs_SymbolsOk (toI w) n = some ((w.length : Int) == n) := by
  unfold fs_SymbolsOk
  have e := iter_run (step := Lfs_SymbolsOk_0) (fun i => ((toI w, n, (i : Int), ()), ())) (z := .inr (.inl ((toI w, n, ()), ()))) w.length 0 big (fun k _ hk => ?_) ?_ (by unfold big; omega)
  · have e : iter Lfs_SymbolsOk_0 big ((toI w, n, (0 : Int), ()), ()) = _ := e
    rw [e]
    show some (((toI w).length : Int) == n) = _
    rw [toI_len]
  · have hk : k < (toI w).length := by rw [toI_len]; omega
    unfold Lfs_SymbolsOk_0
    dsimp only
    have c1 : decide ((k : Int) < ((toI w).length : Int)) = true := decide_eq_true (by omega)
    have c2 : 0 ≤ (k : Int) ∧ (k : Int).toNat < (toI w).length := ⟨by omega, by simpa using hk⟩
    rw [c1, cond_true, dif_pos c2]
    have c3 : (toI w)[(k : Int).toNat]'c2.2 = ((w.getD k 0 : Nat) : Int) := toI_get hk
    rw [c3]
    have := hw.get k
    unfold fs_l11Is
    rw [p_in_t (by omega) (by omega), bindS, bindS, wrap_succ (by omega)]
    rfl
  · unfold Lfs_SymbolsOk_0
    dsimp only
    have c1 : decide (((0 + w.length : Nat) : Int) < ((toI w).length : Int)) = false := decide_eq_false (by rw [toI_len]; omega)
    rw [c1, cond_false]
def byG (k : Nat) : Nat := byL.getD k 0
theorem byG_lt (k : Nat) : byG k < 16 := by
  have : Wd16 byL := by
    intro x hx
    simp only [byL, List.mem_cons, List.not_mem_nil, or_false] at hx
    omega
  exact this.get k
/-- One turn of the inner loop, in row m (i = m + 3). -/
def inn (r : List Nat) (m f : Nat) : Nat → List Nat
  | 0 => r
  | k + 1 => (inn r m f k).set (m + k) ((inn r m f k).getD (m + k) 0 ^^^ gm (byG k) f)
theorem inn_len (r : List Nat) (m f : Nat) : ∀ k, (inn r m f k).length = r.length
  | 0 => rfl
  | k + 1 => by show (List.set _ _ _).length = _; rw [List.length_set, inn_len r m f k]
theorem inn_wd {r : List Nat} (hr : Wd16 r) (m f : Nat) : ∀ k, Wd16 (inn r m f k)
  | 0 => hr
  | k + 1 => (inn_wd hr m f k).set (xor_lt ((inn_wd hr m f k).get _) (gm_lt _ _))
theorem toI_set (w : List Nat) (k v : Nat) : (toI w).set k (v : Int) = toI (w.set k v) := (List.map_set ..).symm
theorem p_inn {r : List Nat} (hr : Wd16 r) (hl : r.length = 11) {m f : Nat} (hm : m < 8) (hf : f < 16) (W : List Int) :
    iter Lfs_EncodeSymbols_6 big (((), (), (), ((m + 3 : Nat) : Int), (f : Int), (0 : Int), ()), (W, toI byL, toI r, ())) = some (.inl (((), (), (), ((m + 3 : Nat) : Int), ()), (W, toI byL, toI (inn r m f 4), ()))) := by
  have e := iter_run (step := Lfs_EncodeSymbols_6) (fun k => (((), (), (), ((m + 3 : Nat) : Int), (f : Int), (k : Int), ()), (W, toI byL, toI (inn r m f k), ()))) (z := .inl (((), (), (), ((m + 3 : Nat) : Int), ()), (W, toI byL, toI (inn r m f 4), ()))) 4 0 big (fun k _ hk => ?_) ?_ (by unfold big; omega)
  · exact e
  · unfold Lfs_EncodeSymbols_6
    dsimp only
    have c1 : decide ((k : Int) < ((toI byL).length : Int)) = true := decide_eq_true (by show (k : Int) < 4; omega)
    have c2 : IntKind.i64.wrap (IntKind.i64.wrap (((m + 3 : Nat) : Int) - 3) + (k : Int)) = ((m + k : Nat) : Int) := by
      rw [w64 (n := ((m + 3 : Nat) : Int) - 3) (by omega) (by omega), w64 (by omega) (by omega)]; omega
    have hk1 : m + k < (toI (inn r m f k)).length := by rw [toI_len, inn_len, hl]; omega
    have c3 : 0 ≤ ((m + k : Nat) : Int) ∧ ((m + k : Nat) : Int).toNat < (toI (inn r m f k)).length := ⟨by omega, hk1⟩
    have hk2 : k < (toI byL).length := by show k < 4; omega
    have c4 : 0 ≤ (k : Int) ∧ (k : Int).toNat < (toI byL).length := ⟨by omega, hk2⟩
    have c5 : (toI (inn r m f k))[((m + k : Nat) : Int).toNat]'c3.2 = (((inn r m f k).getD (m + k) 0 : Nat) : Int) := toI_get hk1
    have c6 : (toI byL)[(k : Int).toNat]'c4.2 = ((byG k : Nat) : Int) := toI_get hk2
    rw [c1, cond_true]
    simp only [c2]
    rw [dif_pos c3, dif_pos c3.2]
    rw [dif_pos c4, dif_pos c4.2, c6, p_smul (byG_lt k) hf, bindS, dif_pos c3, dif_pos c3.2, c5, p_xor ((inn_wd hr m f k).get _) (gm_lt _ _), wrap_succ (by omega)]
    have c7 : (toI (inn r m f k)).set ((m + k : Nat) : Int).toNat (((inn r m f k).getD (m + k) 0 ^^^ gm (byG k) f : Nat) : Int) = toI (inn r m f (k + 1)) := toI_set _ _ _
    rw [c7]
  · unfold Lfs_EncodeSymbols_6
    dsimp only
    have c1 : decide (((0 + 4 : Nat) : Int) < ((toI byL).length : Int)) = false := rfl
    rw [c1, cond_false]
/-- Behind t rows. -/
def out (r : List Nat) : Nat → List Nat
  | 0 => r
  | t + 1 => inn (out r t) (7 - t) ((out r t).getD (10 - t) 0) 4
theorem out_len (r : List Nat) : ∀ t, (out r t).length = r.length
  | 0 => rfl
  | t + 1 => by show (inn _ _ _ _).length = _; rw [inn_len, out_len r t]
theorem out_wd {r : List Nat} (hr : Wd16 r) : ∀ t, Wd16 (out r t)
  | 0 => hr
  | t + 1 => inn_wd (out_wd hr t) _ _ _
theorem p_out {r : List Nat} (hr : Wd16 r) (hl : r.length = 11) (W : List Int) :
    iter Lfs_EncodeSymbols_4 big (((), (), (), (10 : Int), ()), (W, toI byL, toI r, ())) = some (.inl (((), (), ()), (W, toI (out r 8), ()))) := by
  have e := iter_run (step := Lfs_EncodeSymbols_4) (fun t => (((), (), (), (10 : Int) - (t : Int), ()), (W, toI byL, toI (out r t), ()))) (z := .inl (((), (), ()), (W, toI (out r 8), ()))) 8 0 big (fun t _ ht => ?_) ?_ (by unfold big; omega)
  · exact e
  · unfold Lfs_EncodeSymbols_4
    dsimp only
    have hi : (10 : Int) - (t : Int) = ((7 - t + 3 : Nat) : Int) := by omega
    have c1 : decide ((10 : Int) - (t : Int) ≥ 3) = true := decide_eq_true (by omega)
    have hk1 : 7 - t + 3 < (toI (out r t)).length := by rw [toI_len, out_len, hl]; omega
    have c3 : 0 ≤ ((7 - t + 3 : Nat) : Int) ∧ ((7 - t + 3 : Nat) : Int).toNat < (toI (out r t)).length := ⟨by omega, hk1⟩
    have c5 : (toI (out r t))[((7 - t + 3 : Nat) : Int).toNat]'c3.2 = (((out r t).getD (10 - t) 0 : Nat) : Int) := (toI_get hk1).trans (by rw [show 7 - t + 3 = 10 - t by omega])
    rw [c1, cond_true]
    simp only [hi]
    rw [dif_pos c3, dif_pos c3.2, c5, p_inn (out_wd hr t) (by rw [out_len, hl]) (by omega) ((out_wd hr t).get _)]
    show some (Sum.inl (((), (), (), IntKind.i64.wrap (((7 - t + 3 : Nat) : Int) - 1), ()), (W, toI byL, toI (out r (t + 1)), ()))) = _
    rw [w64 (by omega) (by omega), show ((7 - t + 3 : Nat) : Int) - 1 = 10 - ((t + 1 : Nat) : Int) by omega]
  · unfold Lfs_EncodeSymbols_4
    dsimp only
    rfl
theorem t_onel : (all16 fun a => Nat.beq (gm 1 a) a) = true := by kernel_rfl
theorem gm_onel {a : Nat} (ha : a < 16) : gm 1 a = a := Nat.eq_of_beq_eq_true (all16_ok t_onel ha)
theorem synp_upd {r : List Nat} (hr : Wd16 r) (hl : r.length = 11) {k e : Nat} (he : e < 16) (hk : k < 11) (j : Nat) : synp (r.set k (r.getD k 0 ^^^ e)) j 11 = synp r j 11 ^^^ gm e (pw (k * j)) := by
  rw [synp_set hr he (by omega) j 11, if_neg (by omega)]
theorem synp_inn {r : List Nat} (hr : Wd16 r) (hl : r.length = 11) {m f j : Nat} (hm : m < 8) (hf : f < 16) (hj : j < 3) : synp (inn r m f 4) j 11 = synp r j 11 := by
  have st : ∀ k, k < 4 → synp (inn r m f (k + 1)) j 11 = synp (inn r m f k) j 11 ^^^ gm (gm (byG k) f) (pw ((m + k) * j)) := fun k hk =>
    synp_upd (inn_wd hr m f k) (by rw [inn_len, hl]) (gm_lt _ _) (by omega) j
  have h := List.all_eq_true.1 (all16_ok (List.all_eq_true.1 t_div m (List.mem_range.2 hm)) hf) j (List.mem_range.2 hj)
  have h : gm (gm (byG 0) f) (pw ((m + 0) * j)) ^^^ (gm (gm (byG 1) f) (pw ((m + 1) * j)) ^^^ (gm (gm (byG 2) f) (pw ((m + 2) * j)) ^^^ gm (gm (byG 3) f) (pw ((m + 3) * j)))) = 0 := by
    have e3 : gm (byG 3) f = f := gm_onel hf
    rw [e3]
    exact Nat.eq_of_beq_eq_true h
  rw [st 3 (by decide), st 2 (by decide), st 1 (by decide), st 0 (by decide), Nat.xor_assoc, Nat.xor_assoc, Nat.xor_assoc, h, Nat.xor_zero]
  rfl
theorem synp_out {r : List Nat} (hr : Wd16 r) (hl : r.length = 11) {j : Nat} (hj : j < 3) : ∀ t, t ≤ 8 → synp (out r t) j 11 = synp r j 11
  | 0, _ => rfl
  | t + 1, ht => (synp_inn (out_wd hr t) (by rw [out_len, hl]) (by omega) ((out_wd hr t).get _) hj).trans (synp_out hr hl hj t (by omega))
theorem getD_set (r : List Nat) (k v n : Nat) : (r.set k v).getD n 0 = if n = k ∧ k < r.length then v else r.getD n 0 := by
  simp only [List.getD_eq_getElem?_getD, List.getElem?_set]
  by_cases h : n = k
  · subst h
    by_cases h' : n < r.length
    · simp [h']
    · simp [h']
  · simp [h, Ne.symm h]
theorem inn_hi (r : List Nat) (m f : Nat) : ∀ k n, m + k ≤ n → (inn r m f k).getD n 0 = r.getD n 0
  | 0, n, _ => rfl
  | k + 1, n, h => by
    show (List.set _ _ _).getD n 0 = _
    rw [getD_set, if_neg (by omega), inn_hi r m f k n (by omega)]
theorem inn_top {r : List Nat} {m f : Nat} (h : m + 3 < r.length) : (inn r m f 4).getD (m + 3) 0 = r.getD (m + 3) 0 ^^^ gm (byG 3) f := by
  show (List.set _ _ _).getD (m + 3) 0 = _
  rw [getD_set, if_pos ⟨rfl, by rw [inn_len]; exact h⟩, inn_hi r m f 3 (m + 3) (Nat.le_refl _)]
theorem out_zero {r : List Nat} (hr : Wd16 r) (hl : r.length = 11) : ∀ t, t ≤ 8 → ∀ n, 10 - t < n → n < 11 → (out r t).getD n 0 = 0
  | 0, _, n, h, h' => by omega
  | t + 1, ht, n, h, h' => by
    show (inn (out r t) (7 - t) ((out r t).getD (10 - t) 0) 4).getD n 0 = 0
    by_cases hn : n = 10 - t
    · have e : n = 7 - t + 3 := by omega
      subst e
      rw [inn_top (by rw [out_len, hl]; omega), ← hn]
      have : gm (byG 3) ((out r t).getD (7 - t + 3) 0) = (out r t).getD (7 - t + 3) 0 := gm_onel ((out_wd hr t).get _)
      rw [this, Nat.xor_self]
    · rw [inn_hi _ _ _ 4 n (by omega)]
      exact out_zero hr hl t (by omega) n (by omega) h'
def cpy (w r : List Nat) : Nat → List Nat
  | 0 => w
  | k + 1 => (cpy w r k).set k (r.getD k 0)
theorem cpy_len (w r : List Nat) : ∀ k, (cpy w r k).length = w.length
  | 0 => rfl
  | k + 1 => by show (List.set _ _ _).length = _; rw [List.length_set, cpy_len w r k]
theorem p_cpy {w r : List Nat} (hw : w.length = 11) (hr : r.length = 11) :
    iter Lfs_EncodeSymbols_8 big (((), (), (0 : Int), ()), (toI w, toI r, ())) = some (.inl (((), ()), (toI (cpy w r 3), ()))) := by
  have e := iter_run (step := Lfs_EncodeSymbols_8) (fun i => (((), (), (i : Int), ()), (toI (cpy w r i), toI r, ()))) (z := .inl (((), ()), (toI (cpy w r 3), ()))) 3 0 big (fun k _ hk => ?_) ?_ (by unfold big; omega)
  · exact e
  · unfold Lfs_EncodeSymbols_8
    dsimp only
    have c1 : decide ((k : Int) < (3 : Int)) = true := decide_eq_true (by omega)
    have hk1 : k < (toI r).length := by rw [toI_len]; omega
    have hk2 : k < (toI (cpy w r k)).length := by rw [toI_len, cpy_len]; omega
    have c2 : 0 ≤ (k : Int) ∧ (k : Int).toNat < (toI r).length := ⟨by omega, hk1⟩
    have c3 : 0 ≤ (k : Int) ∧ (k : Int).toNat < (toI (cpy w r k)).length := ⟨by omega, hk2⟩
    have c4 : (toI r)[(k : Int).toNat]'c2.2 = ((r.getD k 0 : Nat) : Int) := toI_get hk1
    rw [c1, cond_true, dif_pos c2, dif_pos c2.2, c4, dif_pos c3, dif_pos c3.2, wrap_succ (by omega)]
    have c5 : (toI (cpy w r k)).set (k : Int).toNat ((r.getD k 0 : Nat) : Int) = toI (cpy w r (k + 1)) := toI_set _ _ _
    rw [c5]
  · unfold Lfs_EncodeSymbols_8
    dsimp only
    rfl
theorem p_senc {d : List Nat} (hd : Wd16 d) (hl : d.length = 8) : ∃ w, fs_EncodeSymbols (toI d) = some (toI w) ∧ w.length = 11 ∧ Wd16 w ∧ synp w 0 11 = 0 ∧ synp w 1 11 = 0 ∧ synp w 2 11 = 0 := by
  have hz : Wd16 (0 :: 0 :: 0 :: d) := by
    intro x hx
    simp only [List.mem_cons] at hx
    rcases hx with rfl | rfl | rfl | hx
    · decide
    · decide
    · decide
    · exact hd x hx
  have hzl : (0 :: 0 :: 0 :: d).length = 11 := by simp [hl]
  have e1 : fs_EncodeSymbols (toI d) = some (toI (cpy (0 :: 0 :: 0 :: d) (out (0 :: 0 :: 0 :: d) 8) 3)) := by
    unfold fs_EncodeSymbols
    have c0 : ((d.length : Int) == (8 : Int)) = true := by rw [hl]; rfl
    have c1 : okLen ((List.replicate (3 : Int).toNat (0 : Int)).length + (toI d).length) = true := by
      rw [toI_len, hl]; rfl
    have c2 : okLen (([] : List Int).length + (toI (0 :: 0 :: 0 :: d)).length) = true := by
      rw [toI_len, hzl]; rfl
    have c3 : IntKind.i64.wrap (((toI (0 :: 0 :: 0 :: d)).length : Int) - (1 : Int)) = 10 := by
      rw [toI_len, hzl]; rfl
    have eW : List.replicate (3 : Int).toNat (0 : Int) ++ toI d = toI (0 :: 0 :: 0 :: d) := rfl
    rw [p_ssymbols hd (by omega), bindS, c0, show (!true) = false from rfl, cond_false, if_pos (by decide), c1, cond_true, eW, t_by, bindS, Sum.elim_inl]
    dsimp only
    rw [List.nil_append, c2, cond_true, c3, p_out hz hzl, bindS, Sum.elim_inl]
    dsimp only
    rw [p_cpy hzl (by rw [out_len, hzl]), bindS, Sum.elim_inl]
  have ho := out_wd hz 8
  have syn : ∀ j, j < 3 → synp (cpy (0 :: 0 :: 0 :: d) (out (0 :: 0 :: 0 :: d) 8) 3) j 11 = 0 := by
    intro j hj
    have h1 := synp_out hz hzl hj 8 (Nat.le_refl _)
    have z := out_zero hz hzl 8 (Nat.le_refl _)
    revert h1 z
    generalize out (0 :: 0 :: 0 :: d) 8 = r
    intro h1 z
    have h2 : synp (cpy (0 :: 0 :: 0 :: d) r 3) j 11 = gm (r.getD 0 0) (pw (0 * j)) ^^^ (gm (r.getD 1 0) (pw (1 * j)) ^^^ (gm (r.getD 2 0) (pw (2 * j)) ^^^ synp (0 :: 0 :: 0 :: d) j 11)) := by
      show synp (r.getD 0 0 :: r.getD 1 0 :: r.getD 2 0 :: d) j 11 = _
      simp only [synp, List.getD_cons_zero, List.getD_cons_succ, Nat.xor_assoc, Nat.zero_xor, gm_zero (pw_lt _)]
    have h3 : synp r j 11 = gm (r.getD 0 0) (pw (0 * j)) ^^^ (gm (r.getD 1 0) (pw (1 * j)) ^^^ gm (r.getD 2 0) (pw (2 * j))) := by
      simp only [synp, z 3 (by decide) (by decide), z 4 (by decide) (by decide), z 5 (by decide) (by decide), z 6 (by decide) (by decide), z 7 (by decide) (by decide), z 8 (by decide) (by decide), z 9 (by decide) (by decide), z 10 (by decide) (by decide), Nat.xor_assoc, Nat.zero_xor, Nat.xor_zero, gm_zero (pw_lt _)]
    rw [h2, ← h1, h3, ← Nat.xor_assoc (gm (r.getD 1 0) _) (gm (r.getD 2 0) _), ← Nat.xor_assoc (gm (r.getD 0 0) _), Nat.xor_self]
  refine ⟨_, e1, by rw [cpy_len, hzl], ?_, syn 0 (by decide), syn 1 (by decide), syn 2 (by decide)⟩
  exact ((hz.set (ho.get _)).set (ho.get _)).set (ho.get _)
def symB (s : Int) : Bool := inR s 0 15
def symsOk (l : List Int) (n : Int) : Bool := l.all symB && decide ((l.length : Int) = n)
theorem m_SymbolsOk (l : List Int) (n : Int) (hl : l.length < 1073741824) : fi_SymbolsOk l n = some (symsOk l n) := by
  unfold fi_SymbolsOk symsOk
  have e := iter_all (step := Lfi_SymbolsOk_0) l symB (fun i => ((l, n, l, (l.length : Int), (i : Int), ()), ())) (.inl ((false, ()), ())) (.inr (.inl ((l, n, ()), ()))) big (fun k h => by
    unfold Lfi_SymbolsOk_0 fi_isElement
    simp (disch := omega) [h, wrapS, m_between, symB]
    cases inR l[k] 0 15 <;> rfl) (by unfold Lfi_SymbolsOk_0; simp) (bigLt hl)
  rw [Int.natCast_zero] at e
  rw [e]
  cases l.all symB <;> simp
  rfl
theorem m_sSymbolsOk (l : List Int) (n : Int) (hl : l.length < 1073741824) : fs_SymbolsOk l n = some (symsOk l n) := by
  unfold fs_SymbolsOk symsOk
  have e := iter_all (step := Lfs_SymbolsOk_0) l symB (fun i => ((l, n, (i : Int), ()), ())) (.inl ((false, ()), ())) (.inr (.inl ((l, n, ()), ()))) big (fun k h => by
    unfold Lfs_SymbolsOk_0 fs_l11Is
    simp (disch := omega) [h, wrapS, m_in, symB]
    cases inR l[k] 0 15 <;> rfl) (by unfold Lfs_SymbolsOk_0; simp) (bigLt hl)
  rw [Int.natCast_zero] at e
  rw [e]
  cases l.all symB <;> simp
  rfl
/-- Eleven elements of the field. -/
def Sy (l : List Int) : Prop := l.length = 11 ∧ ∀ s ∈ l, 0 ≤ s ∧ s ≤ 15
theorem Sy.ok {l : List Int} (h : Sy l) : symsOk l 11 = true := by
  simp only [symsOk, Bool.and_eq_true, List.all_eq_true, decide_eq_true_eq, symB, inR_iff]
  exact ⟨fun x hx => h.2 x hx, by rw [h.1]; rfl⟩
theorem Sy.of {l : List Int} (h : symsOk l 11 = true) : Sy l := by
  simp only [symsOk, Bool.and_eq_true, List.all_eq_true, decide_eq_true_eq, symB, inR_iff] at h
  exact ⟨by omega, h.1⟩
theorem xor15 {a b : Int} (ha : 0 ≤ a ∧ a ≤ 15) (hb : 0 ≤ b ∧ b ≤ 15) : 0 ≤ bits .xor .i64 a b ∧ bits .xor .i64 a b ≤ 15 ∧ bits .xor .i64 (bits .xor .i64 a b) b = a := by
  obtain ⟨x, rfl⟩ := Int.eq_ofNat_of_zero_le ha.1
  obtain ⟨y, rfl⟩ := Int.eq_ofNat_of_zero_le hb.1
  have hx : x < 16 := by omega
  have hy : y < 16 := by omega
  have := xor_lt hx hy
  rw [p_xor hx hy]
  rw [p_xor this hy]
  refine ⟨by omega, by omega, ?_⟩
  rw [Nat.xor_assoc, Nat.xor_self, Nat.xor_zero]
theorem Sy.set {l : List Int} (h : Sy l) {k : Nat} {v : Int} (hv : 0 ≤ v ∧ v ≤ 15) : Sy (l.set k v) := by
  refine ⟨by simp [h.1], fun s hs => ?_⟩
  rcases List.mem_or_eq_of_mem_set hs with hs | rfl
  · exact h.2 s hs
  · exact hv
theorem Sy.get {l : List Int} (h : Sy l) {k : Nat} (hk : k < l.length) : 0 ≤ l[k] ∧ l[k] ≤ 15 := h.2 _ (List.getElem_mem hk)
/-- A valid array whose ages are at most B. -/
structure Aok (g : DGeometry) (B : Int) (a : DArray) : Prop where
  cells : (a.cells.length : Int) = linesN g
  syms : ∀ c ∈ a.cells, Sy c.symbols
  age : (a.age.length : Int) = rowsN g
  hits : (a.hits.length : Int) = rowsN g
  ages : ∀ x ∈ a.age, 0 ≤ x ∧ x ≤ B
  hit : ∀ x ∈ a.hits, 0 ≤ x ∧ x ≤ 100000
theorem Aok.mono {g : DGeometry} {B C : Int} {a : DArray} (h : Aok g B a) (hB : B ≤ C) : Aok g C a :=
  ⟨h.cells, h.syms, h.age, h.hits, fun x hx => ⟨(h.ages x hx).1, Int.le_trans (h.ages x hx).2 hB⟩, h.hit⟩
theorem m_copyCell (c : DCell) (h : c.symbols.length < 1073741824) : fi_copyCell c = some c := by
  unfold fi_copyCell
  simp [okLen, h]
theorem m_sCell (c : DCell) (h : c.symbols.length < 1073741824) : fs_l14Cell c = some c := by
  unfold fs_l14Cell
  simp [okLen, h]
theorem m_copyArray (a : DArray) (h1 : a.cells.length < 1073741823) (h2 : a.age.length < 1073741824) (h3 : a.hits.length < 1073741824) (h4 : ∀ c ∈ a.cells, c.symbols.length < 1073741824) : fi_copyArray a = some a := by
  unfold fi_copyArray
  have e := iter_to (step := Lfi_copyArray_0) a.cells.length (fun i => (((), (), a.cells, (a.cells.length : Int), (i : Int), ()), (((), (), (), ()), ((), (), (), ()), ([] : List DCell), ([] : List Int), ([] : List Int), a.cells.take i, (([] : List Int) ++ a.age), (([] : List Int) ++ a.hits), ())))
    (.inl (((), (), ()), (((), (), (), ()), ((), (), (), ()), ([] : List DCell), ([] : List Int), ([] : List Int), a.cells, (([] : List Int) ++ a.age), (([] : List Int) ++ a.hits), ()))) big (fun k h => by
    unfold Lfi_copyArray_0
    have hk : min k a.cells.length = k := by omega
    have ho : okLen (k + 1) = true := okLen_t (by omega)
    simp (disch := omega) [h, wrapS, m_copyCell _ (h4 _ (List.getElem_mem h)), hk, ho]) (by unfold Lfi_copyArray_0; simp) (bigLt (by omega))
  rw [Int.natCast_zero, List.take_zero] at e
  rw [e]
  simp [okLen, h2, h3]
theorem m_sCopy (a : DArray) (h1 : a.cells.length < 1073741823) (h2 : a.age.length < 1073741824) (h3 : a.hits.length < 1073741824) (h4 : ∀ c ∈ a.cells, c.symbols.length < 1073741824) : fs_l14Copy a = some a := by
  unfold fs_l14Copy
  have e := iter_to (step := Lfs_l14Copy_0) a.cells.length (fun i => (((), (), (), (i : Int), ()), ((a.cells, a.age, a.hits, ()), ((), (), (), ()), ((), (), (), ()), ([] : List DCell), ([] : List Int), ([] : List Int), a.cells.take i, (([] : List Int) ++ a.age), (([] : List Int) ++ a.hits), ())))
    (.inl (((), (), ()), (((), (), (), ()), ((), (), (), ()), ([] : List DCell), ([] : List Int), ([] : List Int), a.cells, (([] : List Int) ++ a.age), (([] : List Int) ++ a.hits), ()))) big (fun k h => by
    unfold Lfs_l14Copy_0
    have hk : min k a.cells.length = k := by omega
    have ho : okLen (k + 1) = true := okLen_t (by omega)
    simp (disch := omega) [h, wrapS, m_sCell _ (h4 _ (List.getElem_mem h)), hk, ho]) (by unfold Lfs_l14Copy_0; simp) (bigLt (by omega))
  rw [Int.natCast_zero, List.take_zero] at e
  rw [e]
  simp [okLen, h2, h3]
theorem Aok.lens {g : DGeometry} {B : Int} {a : DArray} (h : Aok g B a) : a.cells.length < 1073741823 ∧ a.age.length < 1073741824 ∧ a.hits.length < 1073741824 ∧ ∀ c ∈ a.cells, c.symbols.length < 1073741824 := by
  have h1 := h.cells
  have h2 := h.age
  have h3 := h.hits
  have b1 := linesN_b g
  have b2 := rowsN_b g
  exact ⟨by omega, by omega, by omega, fun c hc => by rw [(h.syms c hc).1]; omega⟩
theorem Aok.copy {g : DGeometry} {B : Int} {a : DArray} (h : Aok g B a) : fi_copyArray a = some a :=
  let ⟨h1, h2, h3, h4⟩ := h.lens; m_copyArray a h1 h2 h3 h4
theorem Aok.scopy {g : DGeometry} {B : Int} {a : DArray} (h : Aok g B a) : fs_l14Copy a = some a :=
  let ⟨h1, h2, h3, h4⟩ := h.lens; m_sCopy a h1 h2 h3 h4
def cellB (c : DCell) : Bool := symsOk c.symbols 11
def ageB (p : Int × Int) : Bool := inR p.1 0 100000 && inR p.2 0 100000
def arrOk (g : DGeometry) (a : DArray) : Bool := geoOk g && (decide ((a.cells.length : Int) = linesN g) && (decide ((a.age.length : Int) = rowsN g) && (decide ((a.hits.length : Int) = rowsN g) && (a.cells.all cellB && (a.age.zip a.hits).all ageB))))
theorem m_ArrayOk (g : DGeometry) (a : DArray) (h4 : ∀ c ∈ a.cells, c.symbols.length < 1073741824) : fi_ArrayOk g a = some (arrOk g a) := by
  unfold fi_ArrayOk arrOk
  rw [m_BankCount, bindS, m_GeometryOk, bindS, m_LineCount]
  cases hg : geoOk g with
  | false => rfl
  | true =>
    have b1 := linesN_b g
    have b2 := rowsN_b g
    have er : banksN g * g.rows = rowsN g := by simp [rowsN, hg]
    simp only [Bool.not_true, cond_false, bindS, Bool.true_and, er]
    rw [w64 (by omega) (by omega)]
    by_cases e1 : (a.cells.length : Int) = linesN g
    · by_cases e2 : (a.age.length : Int) = rowsN g
      · by_cases e3 : (a.hits.length : Int) = rowsN g
        · have hl : a.age.length = a.hits.length := by omega
          have l1 := iter_all (step := Lfi_ArrayOk_0) a.cells cellB (fun i => (((), a.cells, (a.cells.length : Int), (i : Int), ()), ((a.cells, a.age, a.hits, ()), ()))) (.inl ((false, ()), ())) (.inr (.inl (((), ()), ((a.cells, a.age, a.hits, ()), ())))) big (fun k h => by
            unfold Lfi_ArrayOk_0
            simp (disch := omega) [h, wrapS, m_SymbolsOk _ 11 (h4 _ (List.getElem_mem h)), cellB]
            cases symsOk a.cells[k].symbols 11 <;> rfl) (by unfold Lfi_ArrayOk_0; simp) (bigLt (by omega))
          have l2 := iter_all (step := Lfi_ArrayOk_2) (a.age.zip a.hits) ageB (fun i => (((), (a.age.length : Int), (i : Int), ()), ((a.cells, a.age, a.hits, ()), ()))) (.inl ((false, ()), ())) (.inr (.inl ((), ()))) big (fun k h => by
            have h' : k < a.age.length := by simp at h; omega
            have h'' : k < a.hits.length := by omega
            unfold Lfi_ArrayOk_2
            simp (disch := omega) [h', h'', wrapS, m_between, ageB]
            cases inR a.age[k] 0 100000 <;> cases inR a.hits[k] 0 100000 <;> rfl) (by unfold Lfi_ArrayOk_2; simp [hl]) (bigLt (by simp; omega))
          rw [Int.natCast_zero] at l1 l2
          simp only [e1, e2, e3, bne_self_eq_false, cond_false, decide_true, Bool.true_and]
          rw [← e1, l1]
          cases h1 : a.cells.all cellB with
          | false => simp
          | true =>
            simp only [cond_true, Option.bind_some, Sum.elim_inr, Sum.elim_inl]
            rw [l2]
            cases (a.age.zip a.hits).all ageB <;> simp
        · simp [e1, e2, neI e3, e3]
      · simp [e1, neI e2, e2]
    · simp [neI e1, e1]
theorem Aok.ok {g : DGeometry} {B : Int} {a : DArray} (h : Aok g B a) (hg : geoOk g = true) (hB : B ≤ 100000) : fi_ArrayOk g a = some true := by
  rw [m_ArrayOk g a (fun c hc => by rw [(h.syms c hc).1]; omega)]
  have h1 := h.cells
  have h2 := h.age
  have h3 := h.hits
  have c1 : a.cells.all cellB = true := List.all_eq_true.2 fun c hc => (h.syms c hc).ok
  have c2 : (a.age.zip a.hits).all ageB = true := List.all_eq_true.2 fun p hp => by
    obtain ⟨x, y⟩ := p
    have hm := List.of_mem_zip hp
    have a1 := h.ages x hm.1
    have a2 := h.hit y hm.2
    simp only [ageB, Bool.and_eq_true, inR_iff]
    omega
  simp [arrOk, hg, h1, h2, h3, c1, c2]
structure SG (g : DGeometry) : Prop where
  groups : g.groups = 1
  banks : 1 ≤ g.banks ∧ g.banks ≤ 2
  rows : 2 ≤ g.rows ∧ g.rows ≤ 4
  cols : 1 ≤ g.cols ∧ g.cols ≤ 2
theorem SG.ok {g : DGeometry} (h : SG g) : geoOk g = true := by
  obtain ⟨h1, h2, h3, h4⟩ := h
  simp only [geoOk, Bool.and_eq_true, inR_iff]
  omega
theorem p_l14Small {b : List Int} {c : DCur} (hc : Cok b c) : Dr b (fs_l14Small c) SG := by
  unfold fs_l14Small
  rw [hc.eq]
  refine (p_below hc 2).bind fun x1 k1 hx1 hk1 => ?_
  dsimp only
  rw [hk1.eta]
  refine (p_below hk1 3).bind fun x2 k2 hx2 hk2 => ?_
  dsimp only
  rw [hk2.eta]
  refine (p_below hk2 2).bind fun x3 k3 hx3 hk3 => ?_
  dsimp only
  rw [hk3.eta]
  have a1 := hx1.2.2 (by omega)
  have a2 := hx2.2.2 (by omega)
  have a3 := hx3.2.2 (by omega)
  rw [w64 (by omega) (by omega), w64 (by omega) (by omega), w64 (by omega) (by omega)]
  exact Dr.pure hk3 ⟨rfl, by dsimp only; omega, by dsimp only; omega, by dsimp only; omega⟩
theorem p_pick {b : List Int} {c : DCur} (hc : Cok b c) (l : List Int) (hl : 0 < l.length) : Dr b (fs_l01PickInt c l) fun x => x ∈ l := by
  unfold fs_l01PickInt
  rw [hc.eq]
  refine (p_below hc _).bind fun x1 k1 hx1 hk1 => ?_
  have a1 := hx1.2.2 (by omega)
  rw [dif_pos ⟨hx1.1, by dsimp only; omega⟩]
  dsimp only
  rw [hk1.eta]
  exact Dr.pure hk1 (List.getElem_mem _)
theorem p_once {b : List Int} {c : DCur} (hc : Cok b c) (n : Int) : Dr b (fs_l01Once c n) fun _ => True := by
  unfold fs_l01Once
  rw [hc.eq]
  refine (p_below hc _).bind fun x1 k1 hx1 hk1 => ?_
  dsimp only
  rw [hk1.eta]
  exact Dr.pure hk1 trivial
theorem p_l14Limits {b : List Int} {c : DCur} (hc : Cok b c) : Dr b (fs_l14Limits c) fun _ => True := by
  unfold fs_l14Limits
  rw [hc.eq]
  refine (p_pick hc _ (by simp)).bind fun x1 k1 hx1 hk1 => ?_
  dsimp only
  rw [hk1.eta]
  refine (p_pick hk1 _ (by simp)).bind fun x2 k2 hx2 hk2 => ?_
  dsimp only
  rw [hk2.eta]
  exact Dr.pure hk2 trivial
theorem eta_g (g : DGeometry) : (⟨g.groups, g.banks, g.rows, g.cols⟩ : DGeometry) = g := rfl
theorem m_ArrayNew {g : DGeometry} (hg : geoOk g = true) : fs_ArrayNew g = some ⟨List.replicate (linesN g).toNat ⟨List.replicate 11 0, false⟩, List.replicate (rowsN g).toNat 0, List.replicate (rowsN g).toNat 0⟩ := by
  have b1 := linesN_b g
  have b2 := rowsN_b g
  have er : banksN g * g.rows = rowsN g := by simp [rowsN, hg]
  obtain ⟨n, hn⟩ := Int.eq_ofNat_of_zero_le b1.1
  unfold fs_ArrayNew
  have e := iter_to (step := Lfs_ArrayNew_0) n (fun i => (((), (), (), (i : Int), ()), ((g.groups, g.banks, g.rows, g.cols, ()), ((), (), (), ()), ((), (), (), ()), ([] : List DCell), ([] : List Int), ([] : List Int), List.replicate i (⟨List.replicate 11 0, false⟩ : DCell), ([] : List Int), ([] : List Int), ())))
    (.inl (((), (), (), ()), ((g.groups, g.banks, g.rows, g.cols, ()), ((), (), (), ()), ((), (), (), ()), ([] : List DCell), ([] : List Int), ([] : List Int), List.replicate n (⟨List.replicate 11 0, false⟩ : DCell), ([] : List Int), ([] : List Int), ()))) big (fun k h => by
    unfold Lfs_ArrayNew_0
    have ho : okLen (k + 1) = true := okLen_t (by omega)
    simp (disch := omega) [m_sLineCount, eta_g, hn, h, wrapS, ho, List.replicate_succ']) (by
    unfold Lfs_ArrayNew_0
    simp [m_sLineCount, eta_g, hn]) (bigLt (by omega))
  rw [Int.natCast_zero, List.replicate_zero] at e
  rw [e]
  have c1 : decide (rowsN g < 0) = false := decide_eq_false (by omega)
  have c2 : rowsN g < 1073741824 := by omega
  simp [m_sBankCount, m_sGeometryOk, eta_g, hg, er, hn, w64 (n := rowsN g) (by omega) (by omega), c1, c2, b2.1]
theorem new_ok {g : DGeometry} (hg : geoOk g = true) : Aok g 0 ⟨List.replicate (linesN g).toNat ⟨List.replicate 11 0, false⟩, List.replicate (rowsN g).toNat 0, List.replicate (rowsN g).toNat 0⟩ := by
  have b1 := linesN_b g
  have b2 := rowsN_b g
  refine ⟨by simp; omega, fun c hc => ?_, by simp; omega, by simp; omega, fun x hx => ?_, fun x hx => ?_⟩
  · obtain rfl := List.eq_of_mem_replicate hc
    exact ⟨by simp, fun s hs => by obtain rfl := List.eq_of_mem_replicate hs; omega⟩
  · obtain rfl := List.eq_of_mem_replicate hx; omega
  · obtain rfl := List.eq_of_mem_replicate hx; omega
theorem p_l03Addr {b : List Int} {c : DCur} (hc : Cok b c) {g : DGeometry} (hg : geoOk g = true) : Dr b (fs_l03Addr c g) fun a => addrOk g a = true := by
  have hp := banksN_pos hg
  obtain ⟨_, _, _, _, g5, g6, g7, g8⟩ := geo_b hg
  unfold fs_l03Addr
  rw [m_sBankCount, bindS, hc.eq]
  refine (p_below hc _).bind fun x1 k1 hx1 hk1 => ?_
  dsimp only
  rw [hk1.eta]
  refine (p_below hk1 _).bind fun x2 k2 hx2 hk2 => ?_
  dsimp only
  rw [hk2.eta]
  refine (p_below hk2 _).bind fun x3 k3 hx3 hk3 => ?_
  dsimp only
  rw [hk3.eta]
  exact Dr.pure hk3 (addr_mk hg hx1.1 (hx1.2.2 (by omega)) hx2.1 (hx2.2.2 (by omega)) hx3.1 (hx3.2.2 (by omega)))
def older (n x : Int) : Int := if 100000 < x + n then 100000 else x + n
theorem m_l14Time (a : DArray) (n : Int) (hl : a.age.length < 1073741824) (ha : ∀ x ∈ a.age, 0 ≤ x ∧ x ≤ 100000) (h0 : 0 ≤ n) (h1 : n ≤ 100000) : fs_l14Time a n = some ((), (⟨a.cells, a.age.map (older n), a.hits⟩, ())) := by
  unfold fs_l14Time
  have e := iter_to (step := Lfs_l14Time_0) a.age.length (fun i => (((), n, (i : Int), ()), (((), (), (), ()), a.cells, upto (older n) a.age i, a.hits, ()))) (.inl ((), (((), (), (), ()), a.cells, a.age.map (older n), a.hits, ()))) big (fun k h => by
    unfold Lfs_l14Time_0
    have hx := ha _ (List.getElem_mem h)
    have hs := upto_set (older n) a.age k h
    have hg := upto_get (older n) a.age k h (by rw [upto_len]; exact h)
    simp (disch := omega) [upto_len, h, hg, w64]
    rw [← hs]
    rfl) (by unfold Lfs_l14Time_0; simp [upto_all]) (bigLt hl)
  rw [Int.natCast_zero, upto_zero] at e
  rw [e]
  rfl
theorem p_l12Data {b : List Int} {c : DCur} (hc : Cok b c) : Dr b (fs_l12Data c) fun d => d.length = 8 ∧ ∀ s ∈ d, 0 ≤ s ∧ s ≤ 15 := by
  unfold fs_l12Data
  rw [hc.eq]
  obtain ⟨z, h1, c', out, rfl, h3, h4, h5⟩ := iter_inv (step := Lfs_l12Data_0) 8
    (fun k x => ∃ (c' : DCur) (out : List Int), x = (((), (), (k : Int), ()), (((), c'.i, c'.h, ()), out, b, ())) ∧ Cok b c' ∧ out.length = k ∧ ∀ s ∈ out, 0 ≤ s ∧ s ≤ 15)
    (fun z => ∃ (c' : DCur) (out : List Int), z = .inl (((), ()), (out, ((), c'.i, c'.h, ()), b, ())) ∧ Cok b c' ∧ out.length = 8 ∧ ∀ s ∈ out, 0 ≤ s ∧ s ≤ 15)
    (x := (((), (), ((0 : Nat) : Int), ()), (((), c.i, c.h, ()), ([] : List Int), b, ()))) big ⟨c, [], rfl, hc, rfl, by simp⟩ (by
      rintro k hk x ⟨c', out, rfl, h3, h4, h5⟩
      obtain ⟨x1, k1, e1, hk1, hx0, _, hx1⟩ := p_below h3 16
      have hx1 := hx1 (by omega)
      have c1 : (k : Int) < 8 := by omega
      have ho : okLen (out.length + 1) = true := okLen_t (by omega)
      refine ⟨(((), (), ((k + 1 : Nat) : Int), ()), (((), k1.i, k1.h, ()), out ++ [x1], b, ())), ?_, k1, out ++ [x1], rfl, hk1, by simp [h4], fun s hs => ?_⟩
      · unfold Lfs_l12Data_0
        simp (disch := omega) [c1, h3.eta, e1, ho, wrapS]
      · rcases List.mem_append.1 hs with hs | hs
        · exact h5 s hs
        · rw [List.mem_singleton.1 hs]; omega) (by
      rintro x ⟨c', out, rfl, h3, h4, h5⟩
      refine ⟨_, ?_, c', out, rfl, h3, h4, h5⟩
      unfold Lfs_l12Data_0
      simp) (bigLt (by omega))
  rw [Int.natCast_zero] at h1
  rw [h1]
  simp only [Option.bind_some, Sum.elim_inl, h3.eta]
  exact Dr.pure h3 ⟨h4, h5⟩
theorem toI_of (l : List Int) (h : ∀ s ∈ l, 0 ≤ s ∧ s ≤ 15) : toI (l.map Int.toNat) = l ∧ Wd16 (l.map Int.toNat) := by
  constructor
  · induction l with
    | nil => rfl
    | cons x l ih =>
      have hx := h x (.head _)
      have := ih fun s hs => h s (.tail _ hs)
      simp only [toI, List.map_cons] at this ⊢
      rw [this]
      congr 1
      omega
  · intro x hx
    obtain ⟨s, hs, rfl⟩ := List.mem_map.1 hx
    have := h s hs
    omega
theorem toI_sy {w : List Nat} (hw : Wd16 w) (hl : w.length = 11) : Sy (toI w) := by
  refine ⟨by rw [toI_len, hl], fun s hs => ?_⟩
  simp only [toI, List.mem_map] at hs
  obtain ⟨x, hx, rfl⟩ := hs
  have := hw x hx
  omega
theorem p_sEnc {d : List Int} (h : d.length = 8) (hd : ∀ s ∈ d, 0 ≤ s ∧ s ≤ 15) : ∃ w, fs_EncodeSymbols d = some w ∧ Sy w := by
  obtain ⟨h1, h2⟩ := toI_of d hd
  obtain ⟨w, h3, h4, h5, _⟩ := p_senc h2 (by simp [h])
  rw [h1] at h3
  exact ⟨_, h3, toI_sy h5 h4⟩
theorem p_l12Bent {b : List Int} {c : DCur} (hc : Cok b c) : Dr b (fs_l12Bent c) Sy := by
  unfold fs_l12Bent
  refine (p_l12Data hc).bind fun d k0 hd hk0 => ?_
  obtain ⟨w0, e0, hw0⟩ := p_sEnc hd.1 hd.2
  dsimp only
  rw [e0, bindS, hc.eq]
  obtain ⟨z, h1, c', w, rfl, h3, h4⟩ := iter_inv' (step := Lfs_l12Bent_0) 4
    (fun k x => ∃ (c' : DCur) (w : List Int), x = (((), (), (k : Int), ()), (((), c'.i, c'.h, ()), w, b, ())) ∧ Cok b c' ∧ Sy w)
    (fun z => ∃ (c' : DCur) (w : List Int), z = .inl (((), ()), (w, ((), c'.i, c'.h, ()), b, ())) ∧ Cok b c' ∧ Sy w)
    (x := (((), (), ((0 : Nat) : Int), ()), (((), k0.i, k0.h, ()), w0, b, ()))) big ⟨k0, w0, rfl, hk0, hw0⟩ (by
      rintro k hk x ⟨c', w, rfl, h3, h4⟩
      obtain ⟨x1, k1, e1, hk1, hx0, _, hx1⟩ := p_below h3 4
      by_cases hlt : (k : Int) < x1
      · left
        obtain ⟨x2, k2, e2, hk2, hy0, _, hy1⟩ := p_below hk1 (w.length : Int)
        have hy1 := hy1 (by rw [h4.1]; omega)
        obtain ⟨x3, k3, e3, hk3, hz0, _, hz1⟩ := p_below hk2 15
        have hz1 := hz1 (by omega)
        have hlt2 : x2.toNat < w.length := by omega
        have hg := h4.get hlt2
        have hx := xor15 hg (b := 1 + x3) ⟨by omega, by omega⟩
        refine ⟨(((), (), ((k + 1 : Nat) : Int), ()), (((), k3.i, k3.h, ()), w.set x2.toNat (bits .xor .i64 w[x2.toNat] (1 + x3)), b, ())), ?_, k3, _, rfl, hk3, h4.set ⟨hx.1, hx.2.1⟩⟩
        unfold Lfs_l12Bent_0
        simp (disch := omega) [h3.eta, e1, hlt, hk1.eta, e2, hk2.eta, e3, hy0, hy1, w64 (n := 1 + x3), wrapS]
      · right
        refine ⟨_, ?_, k1, w, rfl, hk1, h4⟩
        unfold Lfs_l12Bent_0
        simp [h3.eta, e1, hlt]) (by
      rintro x ⟨c', w, rfl, h3, h4⟩
      obtain ⟨x1, k1, e1, hk1, hx0, _, hx1⟩ := p_below h3 4
      have hx1 := hx1 (by omega)
      have hlt : ¬ (4 : Int) < x1 := by omega
      refine ⟨_, ?_, k1, w, rfl, hk1, h4⟩
      unfold Lfs_l12Bent_0
      simp [h3.eta, e1, hlt]) (bigLt (by omega))
  rw [Int.natCast_zero] at h1
  rw [h1]
  simp only [Option.bind_some, Sum.elim_inl, h3.eta]
  exact Dr.pure h3 h4
theorem Sy.mem {l : List DCell} (h : ∀ c ∈ l, Sy c.symbols) {k : Nat} (hk : k < l.length) : Sy l[k].symbols := h _ (List.getElem_mem hk)
theorem Sy.upd {l : List DCell} (h : ∀ c ∈ l, Sy c.symbols) {k : Nat} {d : DCell} (hd : Sy d.symbols) : ∀ c ∈ l.set k d, Sy c.symbols := by
  intro c hc
  rcases List.mem_or_eq_of_mem_set hc with hc | rfl
  · exact h c hc
  · exact hd
theorem mem_upd {l : List Int} {B C : Int} (h : ∀ x ∈ l, B ≤ x ∧ x ≤ C) {k : Nat} {v : Int} (hv : B ≤ v ∧ v ≤ C) : ∀ x ∈ l.set k v, B ≤ x ∧ x ≤ C := by
  intro x hx
  rcases List.mem_or_eq_of_mem_set hx with hx | rfl
  · exact h x hx
  · exact hv
theorem p_l14SenseL {g : DGeometry} (hg : geoOk g = true) (row i : Int) (cells : List DCell) (age hits : List Int) (hc : (cells.length : Int) = linesN g) (hs : ∀ c ∈ cells, Sy c.symbols) (h0 : 0 ≤ i) (h1 : i < rowsN g) :
    ∃ cells', iter Lfs_l14Sense_0 big (((), row, (), i, (0 : Int), ()), (((), (), (), ()), (g.groups, g.banks, g.rows, g.cols, ()), cells, age, hits, ())) = some (.inl (((), row, (), i, ()), (((), (), (), ()), (g.groups, g.banks, g.rows, g.cols, ()), cells', age, hits, ()))) ∧ (cells'.length : Int) = linesN g ∧ ∀ c ∈ cells', Sy c.symbols := by
  obtain ⟨_, _, _, _, g5, g6, g7, g8⟩ := geo_b hg
  have b1 := linesN_b g
  obtain ⟨n, hn⟩ := Int.eq_ofNat_of_zero_le (show 0 ≤ g.cols by omega)
  obtain ⟨z, h2, cs, rfl, h3, h4⟩ := iter_inv (step := Lfs_l14Sense_0) n
    (fun k x => ∃ cs : List DCell, x = (((), row, (), i, (k : Int), ()), (((), (), (), ()), (g.groups, g.banks, g.rows, g.cols, ()), cs, age, hits, ())) ∧ (cs.length : Int) = linesN g ∧ ∀ c ∈ cs, Sy c.symbols)
    (fun z => ∃ cs : List DCell, z = .inl (((), row, (), i, ()), (((), (), (), ()), (g.groups, g.banks, g.rows, g.cols, ()), cs, age, hits, ())) ∧ (cs.length : Int) = linesN g ∧ ∀ c ∈ cs, Sy c.symbols)
    (x := (((), row, (), i, ((0 : Nat) : Int), ()), (((), (), (), ()), (g.groups, g.banks, g.rows, g.cols, ()), cells, age, hits, ()))) big ⟨cells, rfl, hc, hs⟩ (by
      rintro k hk x ⟨cs, rfl, h3, h4⟩
      obtain ⟨r0, r1, r2⟩ := row_b h0 h1 (show 0 ≤ (k : Int) by omega) (show (k : Int) < g.cols by omega)
      have er : rowsN g * g.cols = linesN g := by simp [rowsN, linesN, hg]
      rw [er] at r2
      obtain ⟨j, hj⟩ := Int.eq_ofNat_of_zero_le r1
      have hlt : j < cs.length := by omega
      have s1 := Sy.mem h4 hlt
      have hx0 := xor15 (s1.get (k := 0) (by rw [s1.1]; omega)) (b := 5) ⟨by omega, by omega⟩
      have s2 := s1.set (k := 0) ⟨hx0.1, hx0.2.1⟩
      have hx1 := xor15 (s2.get (k := 1) (by rw [s2.1]; omega)) (b := 10) ⟨by omega, by omega⟩
      have s3 := s2.set (k := 1) ⟨hx1.1, hx1.2.1⟩
      refine ⟨(((), row, (), i, ((k + 1 : Nat) : Int), ()), (((), (), (), ()), (g.groups, g.banks, g.rows, g.cols, ()), cs.set j ⟨_, cs[j].poison⟩, age, hits, ())), ?_, _, rfl, by simpa using h3, Sy.upd h4 s3⟩
      have e1 : IntKind.i64.wrap (i * g.cols) = i * g.cols := w64 (by omega) (by omega)
      have e2 : IntKind.i64.wrap (i * g.cols + k) = (j : Int) := by rw [hj]; exact w64 (by omega) (by omega)
      have c1 : (k : Int) < g.cols := by omega
      have l1 : (0 : Nat) < cs[j].symbols.length := by rw [s1.1]; omega
      have l2 : (1 : Nat) < cs[j].symbols.length := by rw [s1.1]; omega
      unfold Lfs_l14Sense_0
      simp (disch := omega) [c1, e1, e2, hlt, wrapS, l1, l2]) (by
      rintro x ⟨cs, rfl, h3, h4⟩
      refine ⟨_, ?_, cs, rfl, h3, h4⟩
      unfold Lfs_l14Sense_0
      simp [hn]) (bigLt (by omega))
  exact ⟨cs, h2, h3, h4⟩
def goneB (l : DLimits) (a : DArray) (i : Nat) : Bool := decide (a.age.getD i 0 > l.age) || decide (a.hits.getD i 0 > l.hits)
theorem m_l14Gone (g : DGeometry) (l : DLimits) (a : DArray) (i : Nat) (h1 : i < a.age.length) (h2 : i < a.hits.length) : fs_l14Gone g l a (i : Int) = some (goneB l a i) := by
  unfold fs_l14Gone goneB
  simp only [List.getD_eq_getElem?_getD, List.getElem?_eq_getElem h1, List.getElem?_eq_getElem h2, Option.getD_some]
  by_cases h : a.age[i] > l.age <;> simp [h1, h2, h]
theorem getD_b {l : List Int} {B C : Int} (h : ∀ x ∈ l, B ≤ x ∧ x ≤ C) (k : Nat) (h0 : B ≤ 0 ∧ 0 ≤ C) : B ≤ l.getD k 0 ∧ l.getD k 0 ≤ C := by
  rw [List.getD_eq_getElem?_getD]
  cases hk : l[k]? with
  | none => exact h0
  | some x => exact h x (List.mem_of_getElem? hk)
theorem older_b {x : Int} (h : 0 ≤ x ∧ x ≤ 100000) {n : Int} (hn : 0 ≤ n) : 0 ≤ older n x ∧ older n x ≤ 100000 := by
  unfold older
  split <;> omega
/-- One more disturbance. -/
def bump (k : Nat) (h : List Int) : List Int := h.set k (older 1 (h.getD k 0))
theorem bump_len (k : Nat) (h : List Int) : (bump k h).length = h.length := by simp [bump]
theorem bump_b {k : Nat} {h : List Int} (hb : ∀ x ∈ h, 0 ≤ x ∧ x ≤ 100000) : ∀ x ∈ bump k h, 0 ≤ x ∧ x ≤ 100000 :=
  mem_upd hb (older_b (getD_b hb k ⟨by omega, by omega⟩) (by omega))
theorem bump_eq {k : Nat} {h : List Int} (hk : k < h.length) : bump k h = h.set k (older 1 h[k]) := by
  unfold bump
  rw [List.getD_eq_getElem?_getD, List.getElem?_eq_getElem hk]
  rfl
/-- The counts of disturbances behind the sensing of a row. -/
def hits1 (row : Int) (i : Nat) (h : List Int) : List Int := bif decide (0 < row) then bump (i - 1) (h.set i 0) else h.set i 0
def senseHits (R row : Int) (i : Nat) (h : List Int) : List Int := bif decide (row < R - 1) then bump (i + 1) (hits1 row i h) else hits1 row i h
theorem hits1_len (row : Int) (i : Nat) (h : List Int) : (hits1 row i h).length = h.length := by
  unfold hits1
  cases decide (0 < row) <;> simp [bump_len]
theorem senseHits_len (R row : Int) (i : Nat) (h : List Int) : (senseHits R row i h).length = h.length := by
  unfold senseHits
  cases decide (row < R - 1) <;> simp [bump_len, hits1_len]
theorem hits1_b {row : Int} {i : Nat} {h : List Int} (hb : ∀ x ∈ h, 0 ≤ x ∧ x ≤ 100000) : ∀ x ∈ hits1 row i h, 0 ≤ x ∧ x ≤ 100000 := by
  have b1 := mem_upd hb (k := i) (v := 0) ⟨by omega, by omega⟩
  unfold hits1
  cases decide (0 < row)
  · exact b1
  · exact bump_b b1
theorem senseHits_b {R row : Int} {i : Nat} {h : List Int} (hb : ∀ x ∈ h, 0 ≤ x ∧ x ≤ 100000) : ∀ x ∈ senseHits R row i h, 0 ≤ x ∧ x ≤ 100000 := by
  have b1 := hits1_b (row := row) (i := i) hb
  unfold senseHits
  cases decide (row < R - 1)
  · exact b1
  · exact bump_b b1
theorem p_l14Sense {g : DGeometry} (hg : geoOk g = true) (l : DLimits) {B : Int} (hB : 0 ≤ B) {a : DArray} (ha : Aok g B a) {bank row : Int} (h1 : 0 ≤ bank) (h2 : bank < banksN g) (h3 : 0 ≤ row) (h4 : row < g.rows) :
    ∃ cells, fs_l14Sense g l a bank row = some ((), (⟨cells, a.age.set (bank * g.rows + row).toNat 0, senseHits g.rows row (bank * g.rows + row).toNat a.hits⟩, ())) ∧ Aok g B ⟨cells, a.age.set (bank * g.rows + row).toNat 0, senseHits g.rows row (bank * g.rows + row).toNat a.hits⟩ := by
  obtain ⟨_, _, _, _, g5, g6, g7, g8⟩ := geo_b hg
  have b2 := rowsN_b g
  have er : banksN g * g.rows = rowsN g := by simp [rowsN, hg]
  obtain ⟨r0, r1, r2⟩ := row_b h1 h2 h3 h4
  rw [er] at r2
  have a1 := ha.age
  have a2 := ha.hits
  have e1 : IntKind.i64.wrap (bank * g.rows) = bank * g.rows := w64 (by omega) (by omega)
  have e2 : IntKind.i64.wrap (bank * g.rows + row) = bank * g.rows + row := w64 (by omega) (by omega)
  have hlo : 0 < row → 1 ≤ bank * g.rows + row := fun h => by omega
  have hhi : row < g.rows - 1 → bank * g.rows + row + 1 < rowsN g := fun h => by
    have := (row_b h1 h2 (show 0 ≤ row + 1 by omega) (show row + 1 < g.rows by omega)).2.2
    omega
  obtain ⟨i, hi⟩ := Int.eq_ofNat_of_zero_le r1
  unfold fs_l14Sense
  rw [e1, e2]
  rw [hi] at r2 hlo hhi
  rw [hi, Int.toNat_natCast]
  have i1 : i < a.age.length := by omega
  have i2 : i < a.hits.length := by omega
  have w1 : IntKind.i64.wrap ((i : Int) - 1) = (i : Int) - 1 := w64 (by omega) (by omega)
  have w2 : IntKind.i64.wrap ((i : Int) + 1) = (i : Int) + 1 := w64 (by omega) (by omega)
  have w3 : IntKind.i64.wrap (g.rows - 1) = g.rows - 1 := w64 (by omega) (by omega)
  have bh := ha.hit
  have wb : ∀ x : Int, 0 ≤ x ∧ x ≤ 100000 → IntKind.i64.wrap (x + 1) = x + 1 := fun x hx => w64 (by omega) (by omega)
  rw [m_l14Gone g l a i i1 i2, bindS]
  have fin : ∀ cells, (cells.length : Int) = linesN g → (∀ c ∈ cells, Sy c.symbols) → Aok g B ⟨cells, a.age.set i 0, senseHits g.rows row i a.hits⟩ := fun cells c1 c2 =>
    ⟨c1, c2, by simp [a1], by simp [senseHits_len, a2], mem_upd ha.ages ⟨by omega, by omega⟩, senseHits_b ha.hit⟩
  obtain ⟨cs, e3, c1, c2⟩ := p_l14SenseL hg row (i : Int) a.cells a.age a.hits ha.cells ha.syms (by omega) r2
  have b1 := mem_upd bh (k := i) (v := 0) ⟨by omega, by omega⟩
  have hL : (a.hits.set i 0).length = a.hits.length := by simp
  cases goneB l a i with
  | false =>
    refine ⟨a.cells, ?_, fin _ ha.cells ha.syms⟩
    simp only [cond_false, Int.toNat_natCast, w1, w2, w3]
    simp only [senseHits, hits1]
    obtain ⟨H, hH⟩ : ∃ H, a.hits.set i 0 = H := ⟨_, rfl⟩
    rw [hH] at b1 hL
    simp only [hH]
    by_cases p1 : 0 < row
    · have p1' := hlo p1
      have q1 : ((i : Int) - 1).toNat = i - 1 := by omega
      have q2 : i - 1 < H.length := by omega
      have k1 := b1 _ (List.getElem_mem q2)
      by_cases p2 : row < g.rows - 1
      · have p2' := hhi p2
        have q5 : i + 1 < H.length := by omega
        have k2 := b1 _ (List.getElem_mem q5)
        have e5 : ∀ v : Int, bump (i + 1) (H.set (i - 1) v) = (H.set (i - 1) v).set (i + 1) (older 1 H[i + 1]) := fun v => by
          rw [bump_eq (by simp; omega), List.getElem_set_ne (by omega)]
        simp only [p1, p2, decide_true, cond_true, q1, bump_eq q2, e5, wb _ k1]
        simp [q2, i1, i2, hL, wb _ k2, older]
        omega
      · simp only [p1, p2, decide_true, decide_false, cond_true, cond_false, q1, bump_eq q2, wb _ k1]
        simp [q2, i1, i2, hL, older]
        omega
    · by_cases p2 : row < g.rows - 1
      · have p2' := hhi p2
        have q5 : i + 1 < H.length := by omega
        have k2 := b1 _ (List.getElem_mem q5)
        simp only [p1, p2, decide_true, decide_false, cond_true, cond_false, bump_eq q5]
        simp [q5, i1, i2, hL, wb _ k2, older, p1]
        try omega
      · simp only [p1, p2, decide_false, cond_false]
        simp [i1, i2, hL, p1]
  | true =>
    refine ⟨cs, ?_, fin _ c1 c2⟩
    rw [cond_true, e3]
    simp only [Option.bind_some, Sum.elim_inl, Int.toNat_natCast, w1, w2, w3]
    simp only [senseHits, hits1]
    obtain ⟨H, hH⟩ : ∃ H, a.hits.set i 0 = H := ⟨_, rfl⟩
    rw [hH] at b1 hL
    simp only [hH]
    by_cases p1 : 0 < row
    · have p1' := hlo p1
      have q1 : ((i : Int) - 1).toNat = i - 1 := by omega
      have q2 : i - 1 < H.length := by omega
      have k1 := b1 _ (List.getElem_mem q2)
      by_cases p2 : row < g.rows - 1
      · have p2' := hhi p2
        have q5 : i + 1 < H.length := by omega
        have k2 := b1 _ (List.getElem_mem q5)
        have e5 : ∀ v : Int, bump (i + 1) (H.set (i - 1) v) = (H.set (i - 1) v).set (i + 1) (older 1 H[i + 1]) := fun v => by
          rw [bump_eq (by simp; omega), List.getElem_set_ne (by omega)]
        simp only [p1, p2, decide_true, cond_true, q1, bump_eq q2, e5, wb _ k1]
        simp [q2, i1, i2, hL, wb _ k2, older]
        omega
      · simp only [p1, p2, decide_true, decide_false, cond_true, cond_false, q1, bump_eq q2, wb _ k1]
        simp [q2, i1, i2, hL, older]
        omega
    · by_cases p2 : row < g.rows - 1
      · have p2' := hhi p2
        have q5 : i + 1 < H.length := by omega
        have k2 := b1 _ (List.getElem_mem q5)
        simp only [p1, p2, decide_true, decide_false, cond_true, cond_false, bump_eq q5]
        simp [q5, i1, i2, hL, wb _ k2, older, p1]
        try omega
      · simp only [p1, p2, decide_false, cond_false]
        simp [i1, i2, hL, p1]
theorem Aok.older {g : DGeometry} {B : Int} {a : DArray} (h : Aok g B a) {n m : Int} (h0 : 0 ≤ n) (h1 : n ≤ m) (hb : B + m ≤ 100000) : Aok g (B + m) ⟨a.cells, a.age.map (Proofs.Ytnmllpfchcfonaa.older n), a.hits⟩ := by
  refine ⟨h.cells, h.syms, by simp [h.age], h.hits, fun x hx => ?_, h.hit⟩
  obtain ⟨y, hy, rfl⟩ := List.mem_map.1 hx
  have := h.ages y hy
  unfold Proofs.Ytnmllpfchcfonaa.older
  split <;> omega
theorem p_l14Case {b : List Int} {c : DCur} (hc : Cok b c) : Dr b (fs_l14Case c) fun r => SG r.1 ∧ Aok r.1 600 r.2.2 := by
  unfold fs_l14Case
  refine (p_l14Small hc).bind fun g k1 hsg hk1 => ?_
  have hg := hsg.ok
  dsimp only
  rw [hc.eq, hk1.eta]
  refine (p_l14Limits hk1).bind fun l k2 _ hk2 => ?_
  dsimp only
  rw [m_ArrayNew hg, bindS]
  have hnew := new_ok hg
  generalize (⟨List.replicate (linesN g).toNat ⟨List.replicate 11 0, false⟩, List.replicate (rowsN g).toNat 0, List.replicate (rowsN g).toNat 0⟩ : DArray) = a0 at hnew
  obtain ⟨z, h1, c', a, rfl, h3, h4⟩ := iter_inv' (step := Lfs_l14Case_0) 19
    (fun k x => ∃ (c' : DCur) (a : DArray), x = (((), (), (), (), (), (), (), (k : Int), ()), (((), c'.i, c'.h, ()), ((0 : Int), (0 : Int), (0 : Int), (0 : Int), ()), ((0 : Int), (0 : Int), ()), ((), (), (), ()), (g.groups, g.banks, g.rows, g.cols, ()), (l.age, l.hits, ()), ((), (), (), ()), b, ([] : List DCell), ([] : List Int), ([] : List Int), a.cells, a.age, a.hits, ())) ∧ Cok b c' ∧ Aok g (30 * (k : Int)) a)
    (fun z => ∃ (c' : DCur) (a : DArray), z = .inl (((), (), (), (), (), (), ()), (((0 : Int), (0 : Int), (0 : Int), (0 : Int), ()), ((0 : Int), (0 : Int), ()), ((), (), (), ()), (g.groups, g.banks, g.rows, g.cols, ()), (l.age, l.hits, ()), ((), (), (), ()), ((), c'.i, c'.h, ()), ([] : List DCell), ([] : List Int), ([] : List Int), a.cells, a.age, a.hits, b, ())) ∧ Cok b c' ∧ Aok g 600 a)
    (x := (((), (), (), (), (), (), (), ((0 : Nat) : Int), ()), (((), k2.i, k2.h, ()), ((0 : Int), (0 : Int), (0 : Int), (0 : Int), ()), ((0 : Int), (0 : Int), ()), ((), (), (), ()), (g.groups, g.banks, g.rows, g.cols, ()), (l.age, l.hits, ()), ((), (), (), ()), b, ([] : List DCell), ([] : List Int), ([] : List Int), a0.cells, a0.age, a0.hits, ()))) big ⟨k2, a0, rfl, hk2, hnew.mono (by omega)⟩ (by
      rintro k hk x ⟨c', a, rfl, h3, h4⟩
      obtain ⟨x1, k1, e1, hk1, hx0, _, hx1⟩ := p_below h3 20
      have hx1 := hx1 (by omega)
      have hB : 30 * (k : Int) ≤ 30 * ((k + 1 : Nat) : Int) := by omega
      by_cases hlt : (k : Int) < x1
      · left
        obtain ⟨at_, k2, e2, hk2, hat⟩ := p_l03Addr hk1 hg
        obtain ⟨_, t1, t2, t3, t4, t5, t6⟩ := addr_b hat
        obtain ⟨x3, k3, e3, hk3, hz0, _, hz1⟩ := p_below hk2 4
        have ea : ∀ a : DArray, (⟨a.cells, a.age, a.hits⟩ : DArray) = a := fun _ => rfl
        have el : (⟨l.age, l.hits⟩ : DLimits) = l := rfl
        by_cases q0 : x3 = 0
        · subst q0
          obtain ⟨x4, k4, e4, hk4, hw0, _, hw1⟩ := p_below hk3 30
          have hw1 := hw1 (by omega)
          have b2 := rowsN_b g
          have a1 := h4.age
          have e5 := m_l14Time a x4 (by omega) (fun x hx => ⟨(h4.ages x hx).1, by have := (h4.ages x hx).2; omega⟩) hw0 (by omega)
          refine ⟨_, ?_, k4, ⟨a.cells, a.age.map (older x4), a.hits⟩, rfl, hk4, ?_⟩
          · unfold Lfs_l14Case_0
            simp (disch := omega) [h3.eta, e1, hlt, hk1.eta, eta_g, e2, hk2.eta, e3, hk3.eta, e4, ea, e5, wrapS]
          · have := h4.older hw0 (show x4 ≤ 30 by omega) (by omega)
            rw [show 30 * ((k + 1 : Nat) : Int) = 30 * (k : Int) + 30 by omega]
            exact this
        · by_cases q1 : x3 = 1
          · subst q1
            obtain ⟨w, k4, e4, hk4, hw⟩ := p_l12Bent hk3
            obtain ⟨p, k5, e5, hk5, _⟩ := p_once hk4 5
            have ix := addrIx_b hat
            obtain ⟨j, hj⟩ := Int.eq_ofNat_of_zero_le ix.1
            have a1 := h4.cells
            have hjl : j < a.cells.length := by omega
            refine ⟨_, ?_, k5, ⟨a.cells.set j ⟨w, p⟩, a.age, a.hits⟩, rfl, hk5, ?_⟩
            · unfold Lfs_l14Case_0
              simp (disch := omega) [h3.eta, e1, hlt, hk1.eta, eta_g, e2, hk2.eta, e3, hk3.eta, m_sAddrIndex, hj, e4, hk4.eta, e5, hjl, wrapS]
            · have h5 := h4.mono hB
              exact ⟨by simp [h5.cells], Sy.upd h5.syms hw, h5.age, h5.hits, h5.ages, h5.hit⟩
          · obtain ⟨cells, e4, h5⟩ := p_l14Sense hg l (show 0 ≤ 30 * (k : Int) by omega) h4 t1 t2 t3 t4
            refine ⟨_, ?_, k3, _, rfl, hk3, h5.mono hB⟩
            unfold Lfs_l14Case_0
            simp (disch := omega) [h3.eta, e1, hlt, hk1.eta, eta_g, e2, hk2.eta, e3, beI q0, beI q1, ea, el, e4, wrapS]
      · right
        refine ⟨_, ?_, k1, a, rfl, hk1, h4.mono (by omega)⟩
        unfold Lfs_l14Case_0
        simp [h3.eta, e1, hlt]) (by
      rintro x ⟨c', a, rfl, h3, h4⟩
      obtain ⟨x1, k1, e1, hk1, hx0, _, hx1⟩ := p_below h3 20
      have hx1 := hx1 (by omega)
      have hlt : ¬ (19 : Int) < x1 := by omega
      refine ⟨_, ?_, k1, a, rfl, hk1, h4.mono (by omega)⟩
      unfold Lfs_l14Case_0
      simp [h3.eta, e1, hlt]) (bigLt (by omega))
  rw [Int.natCast_zero] at h1
  rw [h1]
  simp only [Option.bind_some, Sum.elim_inl, h3.eta]
  exact Dr.pure h3 ⟨hsg, h4⟩
theorem p_DrawArray (l : List Int) (h : l.length ≤ 1073741823) : ∃ g lim a, fs_DrawArray l = some (g, lim, a) ∧ SG g ∧ Aok g 600 a := by
  unfold fs_DrawArray
  obtain ⟨h0, e0⟩ := p_new l h
  rw [e0, bindS]
  obtain ⟨x, c, e1, _, hx⟩ := p_l14Case (new_cok l h0 h)
  exact ⟨x.1, x.2.1, x.2.2, by rw [e1]; rfl, hx.1, hx.2⟩
theorem m_sArrayOk (g : DGeometry) (a : DArray) (h4 : ∀ c ∈ a.cells, c.symbols.length < 1073741824) : fs_ArrayOk g a = some (arrOk g a) := by
  unfold fs_ArrayOk arrOk
  rw [m_sGeometryOk, bindS, m_sLineCount, m_sBankCount]
  cases hg : geoOk g with
  | false => rfl
  | true =>
    have b1 := linesN_b g
    have b2 := rowsN_b g
    have er : banksN g * g.rows = rowsN g := by simp [rowsN, hg]
    simp only [Bool.not_true, cond_false, bindS, Bool.true_and, er]
    rw [w64 (by omega) (by omega)]
    by_cases e1 : (a.cells.length : Int) = linesN g
    · by_cases e2 : (a.age.length : Int) = rowsN g
      · by_cases e3 : (a.hits.length : Int) = rowsN g
        · have hl : a.age.length = a.hits.length := by omega
          have l1 := iter_all (step := Lfs_ArrayOk_0) a.cells cellB (fun i => (((), (i : Int), ()), ((a.cells, a.age, a.hits, ()), ()))) (.inl ((false, ()), ())) (.inr (.inl (((), ()), ((a.cells, a.age, a.hits, ()), ())))) big (fun k h => by
            unfold Lfs_ArrayOk_0
            simp (disch := omega) [h, wrapS, m_sSymbolsOk _ 11 (h4 _ (List.getElem_mem h)), cellB]
            cases symsOk a.cells[k].symbols 11 <;> rfl) (by unfold Lfs_ArrayOk_0; simp) (bigLt (by omega))
          have l2 := iter_all (step := Lfs_ArrayOk_2) (a.age.zip a.hits) ageB (fun i => (((), (i : Int), ()), ((a.cells, a.age, a.hits, ()), ()))) (.inl ((false, ()), ())) (.inr (.inl ((), ()))) big (fun k h => by
            have h' : k < a.age.length := by simp at h; omega
            have h'' : k < a.hits.length := by omega
            unfold Lfs_ArrayOk_2
            simp (disch := omega) [h', h'', wrapS, m_in, ageB]
            cases inR a.age[k] 0 100000 <;> cases inR a.hits[k] 0 100000 <;> rfl) (by unfold Lfs_ArrayOk_2; simp [hl]) (bigLt (by simp; omega))
          rw [Int.natCast_zero] at l1 l2
          simp only [e1, e2, e3, bne_self_eq_false, cond_false, decide_true, Bool.true_and]
          rw [l1]
          cases h1 : a.cells.all cellB with
          | false => simp
          | true =>
            simp only [cond_true, Option.bind_some, Sum.elim_inr, Sum.elim_inl]
            rw [l2]
            cases (a.age.zip a.hits).all ageB <;> simp
        · simp [e1, e2, neI e3, e3]
      · have e4 : ¬ (a.hits.length : Int) = (a.age.length : Int) ∨ True := .inr trivial
        simp [e1, neI e2, e2]
    · simp [neI e1, e1]
theorem Aok.sok {g : DGeometry} {B : Int} {a : DArray} (h : Aok g B a) (hg : geoOk g = true) (hB : B ≤ 100000) : fs_ArrayOk g a = some true := by
  have h1 := h.ok hg hB
  have h4 : ∀ c ∈ a.cells, c.symbols.length < 1073741824 := fun c hc => by rw [(h.syms c hc).1]; omega
  rw [m_ArrayOk g a h4] at h1
  rw [m_sArrayOk g a h4, h1]
theorem p_sameCell (c : DCell) (h : c.symbols.length < 1073741823) : fl_sameCell c c = some true := by
  unfold fl_sameCell
  rw [p_sameInts _ h]
  simp
theorem and15 (y : Int) : 0 ≤ bits .and .i64 y 15 ∧ bits .and .i64 y 15 ≤ 15 := by
  have e : bits .and .i64 y 15 = IntKind.i64.wrap ((BitVec.ofInt 64 y &&& BitVec.ofInt 64 15).toNat : Int) := rfl
  have h : (BitVec.ofInt 64 y &&& BitVec.ofInt 64 15).toNat ≤ 15 := by
    rw [BitVec.toNat_and]
    exact Nat.le_trans Nat.and_le_right (by decide)
  rw [e, IntKind.wrap_i64]
  omega
theorem u64w {n : Int} (h1 : 0 ≤ n) (h2 : n < 18446744073709551616) : IntKind.u64.wrap n = n := by
  have : IntKind.u64.wrap n = n % 18446744073709551616 := rfl
  rw [this]; omega
theorem p_SymbolsOfWord {x : Int} (h0 : 0 ≤ x) (h1 : x ≤ 4294967295) : ∃ l, fs_SymbolsOfWord x = some l ∧ l.length = 8 ∧ ∀ s ∈ l, 0 ≤ s ∧ s ≤ 15 := by
  have c1 : inR x 0 4294967295 = true := by rw [inR_iff]; omega
  unfold fs_SymbolsOfWord
  obtain ⟨z, h2, l, rfl, h3, h4⟩ := iter_inv (step := Lfs_SymbolsOfWord_0) 8
    (fun k s => ∃ l : List Int, s = ((x, (), (k : Int), ()), (l, ())) ∧ l.length = k ∧ ∀ s ∈ l, 0 ≤ s ∧ s ≤ 15)
    (fun z => ∃ l : List Int, z = .inl (((), ()), (l, ())) ∧ l.length = 8 ∧ ∀ s ∈ l, 0 ≤ s ∧ s ≤ 15)
    (x := ((x, (), ((0 : Nat) : Int), ()), (([] : List Int), ()))) big ⟨[], rfl, rfl, by simp⟩ (by
      rintro k hk s ⟨l, rfl, h3, h4⟩
      have hlt : (k : Int) < 8 := by omega
      have ho : okLen (l.length + 1) = true := okLen_t (by omega)
      have e1 : IntKind.i64.wrap (4 * (k : Int)) = 4 * (k : Int) := w64 (by omega) (by omega)
      have e2 : IntKind.u64.wrap (4 * (k : Int)) = 4 * (k : Int) := u64w (by omega) (by omega)
      have hz : ¬ 4 * (k : Int) < 0 := by omega
      refine ⟨((x, (), ((k + 1 : Nat) : Int), ()), (l ++ [bits .and .i64 (x.fdiv (2 ^ (min (4 * (k : Int)).toNat IntKind.i64.bits))) 15], ())), ?_, _, rfl, by simp [h3], fun s hs => ?_⟩
      · unfold Lfs_SymbolsOfWord_0 fs_IsWord
        simp (disch := omega) [hlt, m_in, c1, e1, e2, hz, ho, wrapS]
      · rcases List.mem_append.1 hs with hs | hs
        · exact h4 s hs
        · rw [List.mem_singleton.1 hs]; exact and15 _) (by
      rintro s ⟨l, rfl, h3, h4⟩
      refine ⟨_, ?_, l, rfl, h3, h4⟩
      unfold Lfs_SymbolsOfWord_0
      simp) (bigLt (by omega))
  rw [Int.natCast_zero] at h2
  rw [h2]
  exact ⟨l, rfl, h3, h4⟩
theorem p_EncodeLine {x : Int} (h0 : 0 ≤ x) (h1 : x ≤ 4294967295) : ∃ w, fs_EncodeLine x = some w ∧ Sy w := by
  obtain ⟨l, e1, h2, h3⟩ := p_SymbolsOfWord h0 h1
  obtain ⟨w, e2, h4⟩ := p_sEnc h2 h3
  exact ⟨w, by unfold fs_EncodeLine; rw [e1, bindS, e2]; rfl, h4⟩
def lg (a : Nat) : Nat := (14688061253356765440 / 2 ^ (4 * a)) % 16
def okB (s0 s1 s2 i : Nat) : Bool := !Nat.beq s0 0 && (Nat.beq (gm s0 (pw i)) s1 && Nat.beq (gm s1 (pw i)) s2)
/-- The place of the one wrong symbol, if there is one. -/
def loc (s0 s1 s2 : Nat) : Option Nat := (List.range 11).find? (okB s0 s1 s2)
def optN : Option Nat → Nat
  | some n => n
  | none => 99
theorem t_lg : (all16 fun a => Nat.beq a 0 || fi_GfLog (Int.ofNat a) == some (Int.ofNat (lg a))) = true := by kernel_rfl
theorem t_loc : (all16 fun s0 => all16 fun s1 => all16 fun s2 => bif Nat.beq s0 0 || Nat.beq s1 0 then Nat.beq (optN (loc s0 s1 s2)) 99 else
    (fun x => !Nat.beq x 0 && Nat.beq (optN (loc s0 s1 s2)) (bif Nat.blt (lg x) 11 && Nat.beq (gm s1 x) s2 then lg x else 99)) (gm s1 (iv s0))) = true := by kernel_rfl
theorem t_spow : ((List.range 11).all fun n => fs_GfPow 2 (Int.ofNat n) == some (Int.ofNat (pw n))) = true := by kernel_rfl
theorem p_spow {n : Nat} (h : n < 11) : fs_GfPow 2 (n : Int) = some (pw n : Int) := eq_of_beq (List.all_eq_true.1 t_spow n (List.mem_range.2 h))
theorem t_pwm : ((List.range 11).all fun i => (List.range 3).all fun j => Nat.beq (gm (pw (i * j)) (pw i)) (pw (i * (j + 1)))) = true := by kernel_rfl
theorem pw_mul {i j : Nat} (hi : i < 11) (hj : j < 3) : gm (pw (i * j)) (pw i) = pw (i * (j + 1)) := Nat.eq_of_beq_eq_true (List.all_eq_true.1 (List.all_eq_true.1 t_pwm i (List.mem_range.2 hi)) j (List.mem_range.2 hj))
def synO (w : List Nat) (i : Nat) : List Int := [(synp w 0 i : Int), (synp w 1 i : Int), (synp w 2 i : Int)]
def synM (w : List Nat) (i : Nat) : Nat → List Int
  | 0 => [(synp w 0 i : Int), (synp w 1 i : Int), (synp w 2 i : Int)]
  | 1 => [(synp w 0 (i + 1) : Int), (synp w 1 i : Int), (synp w 2 i : Int)]
  | 2 => [(synp w 0 (i + 1) : Int), (synp w 1 (i + 1) : Int), (synp w 2 i : Int)]
  | _ => [(synp w 0 (i + 1) : Int), (synp w 1 (i + 1) : Int), (synp w 2 (i + 1) : Int)]
theorem p_ssynIn {w : List Nat} (hw : Wd16 w) (hl : w.length = 11) {i : Nat} (hi : i < 11) : iter Lfs_Syndromes_2 big ((toI w, (), (i : Int), (1 : Int), (pw i : Int), (0 : Int), ()), (synO w i, ())) = some (.inl ((toI w, (), (i : Int), ()), (synO w (i + 1), ()))) := by
  have hlt : i < (toI w).length := by rw [toI_len]; omega
  have hg : (toI w)[i] = ((w.getD i 0 : Nat) : Int) := toI_get hlt
  have hwi := hw.get i
  have hx : ∀ j, bits .xor .i64 ((synp w j i : Nat) : Int) ((gm (w.getD i 0) (pw (i * j)) : Nat) : Int) = ((synp w j (i + 1) : Nat) : Int) := fun j => by
    rw [p_xor (synp_lt w j i) (gm_lt _ _)]; rfl
  have m1 := fun j => p_smul hwi (pw_lt (i * j))
  have m2 : ∀ j, j < 3 → fs_GfMul ((pw (i * j) : Nat) : Int) ((pw i : Nat) : Int) = some ((pw (i * (j + 1)) : Nat) : Int) := fun j hj => by
    rw [p_smul (pw_lt (i * j)) (pw_lt i), pw_mul hi hj]
  generalize toI w = W at *
  generalize w.getD i 0 = c at *
  have e := iter_to (step := Lfs_Syndromes_2) 3 (fun j => ((W, (), (i : Int), (pw (i * j) : Int), (pw i : Int), (j : Int), ()), (synM w i j, ()))) (.inl ((W, (), (i : Int), ()), (synO w (i + 1), ()))) big (fun j hj => by
    have m1 := m1 j
    have m2 := m2 j hj
    have hx := hx j
    generalize pw (i * (j + 1)) = a at m2 ⊢
    generalize pw (i * j) = d at m1 m2 hx ⊢
    unfold Lfs_Syndromes_2
    rcases (by omega : j = 0 ∨ j = 1 ∨ j = 2) with rfl | rfl | rfl <;> simp [synM, hlt, hg, m1, m2, hx] <;> rfl) (by unfold Lfs_Syndromes_2; simp [synM, synO]) (bigLt (by omega))
  have e0 : pw (i * 0) = 1 := by rw [Nat.mul_zero]; rfl
  rw [Int.natCast_zero, e0] at e
  exact e
theorem p_ssyn {w : List Nat} (hw : Wd16 w) (hl : w.length = 11) : fs_Syndromes (toI w) = some (synO w 11) := by
  have hs := (toI_sy hw hl).ok
  unfold fs_Syndromes
  rw [m_sSymbolsOk _ _ (by rw [toI_len]; omega), hs, bindS]
  have e := iter_to (step := Lfs_Syndromes_0) 11 (fun i => ((toI w, (), (i : Int), ()), (synO w i, ()))) (.inl (((), ()), (synO w 11, ()))) big (fun i hi => by
    have hlt : i < w.length := by omega
    unfold Lfs_Syndromes_0
    simp (disch := omega) [toI_len, hlt, p_spow hi, p_ssynIn hw hl hi, wrapS]) (by unfold Lfs_Syndromes_0; simp [toI_len, hl]) (bigLt (by omega))
  rw [Int.natCast_zero] at e
  have e2 : (List.replicate (3 : Int).toNat (0 : Int)) = synO w 0 := rfl
  simp only [Bool.not_true, cond_false]
  rw [e2, e]
  rfl
def zeroB (w : List Nat) : Bool := Nat.beq (synp w 0 11) 0 && (Nat.beq (synp w 1 11) 0 && Nat.beq (synp w 2 11) 0)
/-- What correcting a word gives. -/
def corr (w : List Nat) : List Nat × Int × Int := bif zeroB w then (w, 0, -1) else match loc (synp w 0 11) (synp w 1 11) (synp w 2 11) with
  | some k => (w.set k (w.getD k 0 ^^^ synp w 0 11), 1, (k : Int))
  | none => (w, 2, -1)
theorem beqN (n m : Nat) : ((n : Int) == (m : Int)) = Nat.beq n m := by
  cases h : Nat.beq n m with
  | true => obtain rfl := Nat.eq_of_beq_eq_true h; simp
  | false =>
    have : n ≠ m := by rintro rfl; simp at h
    simp; omega
theorem m_sWordOk {w : List Nat} (hw : Wd16 w) (hl : w.length = 11) : fs_WordOk (toI w) = some (zeroB w) := by
  have hs := (toI_sy hw hl).ok
  unfold fs_WordOk fs_l12Zero
  rw [m_sSymbolsOk _ _ (by rw [toI_len]; omega), hs, bindS, p_ssyn hw hl]
  have h0 : ∀ n : Nat, ((n : Int) == (0 : Int)) = Nat.beq n 0 := fun n => beqN n 0
  simp only [cond_true, bindS, zeroB]
  cases h1 : Nat.beq (synp w 0 11) 0 <;> cases h2 : Nat.beq (synp w 1 11) 0 <;> simp [synO, h0, h1, h2]
theorem loc_none {s0 s1 s2 : Nat} (h : loc s0 s1 s2 = none) : ∀ i, i < 11 → okB s0 s1 s2 i = false := by
  intro i hi
  have := List.find?_eq_none.1 h i (List.mem_range.2 hi)
  simpa using this
theorem loc_some {s0 s1 s2 k : Nat} (h : loc s0 s1 s2 = some k) : k < 11 ∧ okB s0 s1 s2 k = true ∧ ∀ i, i < k → okB s0 s1 s2 i = false := by
  refine ⟨List.mem_range.1 (List.mem_of_find?_eq_some h), List.find?_some h, fun i hi => ?_⟩
  obtain ⟨h1, l1, l2, h2, h3⟩ := List.find?_eq_some_iff_append.1 h
  have hk : l1.length = k ∧ l1 = List.range k := by
    have e1 : (List.range 11)[l1.length]? = some k := by rw [h2]; simp
    have hlt : l1.length < 11 := by have := congrArg List.length h2; simp at this; omega
    rw [List.getElem?_range hlt] at e1
    injection e1 with e1
    refine ⟨e1, ?_⟩
    have e2 : (List.range 11).take l1.length = l1 := by rw [h2]; simp
    rw [List.take_range, Nat.min_eq_left (by omega), e1] at e2
    exact e2.symm
  have := h3 i (by rw [hk.2]; exact List.mem_range.2 hi)
  simpa using this
theorem m_sCorrect {w : List Nat} (hw : Wd16 w) (hl : w.length = 11) : fs_CorrectWord (toI w) = some (toI (corr w).1, (corr w).2.1, (corr w).2.2) := by
  have hs := (toI_sy hw hl).ok
  have ho : okLen w.length = true := okLen_t (by omega)
  have h0 : ∀ n : Nat, ((n : Int) == (0 : Int)) = Nat.beq n 0 := fun n => beqN n 0
  have hb0 := synp_lt w 0 11
  have hb1 := synp_lt w 1 11
  unfold fs_CorrectWord fs_l12Zero
  rw [m_sSymbolsOk _ _ (by rw [toI_len]; omega), hs, bindS, p_ssyn hw hl]
  have e0 : fs_l12Zero (synO w 11) = some (zeroB w) := by
    unfold fs_l12Zero zeroB
    cases h1 : Nat.beq (synp w 0 11) 0 <;> cases h2 : Nat.beq (synp w 1 11) 0 <;> simp [synO, h0, h1, h2]
  have hgi : ∀ i (h : i < (toI w).length), (toI w)[i] = ((w.getD i 0 : Nat) : Int) := fun i h => toI_get h
  have hset : ∀ k, (toI w).set k (bits .xor .i64 ((w.getD k 0 : Nat) : Int) ((synp w 0 11 : Nat) : Int)) = toI (w.set k (w.getD k 0 ^^^ synp w 0 11)) := fun k => by
    rw [p_xor (hw.get k) hb0, toI_set]
  have hlen : (toI w).length = 11 := by rw [toI_len, hl]
  unfold fs_l12Zero at e0
  unfold corr zeroB at *
  simp only [Bool.not_true, cond_false, bindS]
  rw [e0, bindS, okLen_t (by simp [hlen])]
  cases hz : (Nat.beq (synp w 0 11) 0 && (Nat.beq (synp w 1 11) 0 && Nat.beq (synp w 2 11) 0)) with
  | true => simp
  | false =>
    simp only [cond_false, cond_true, List.nil_append]
    unfold synO
    generalize hW : toI w = W at hgi hset hlen ⊢
    generalize hg0 : synp w 0 11 = s0 at *
    generalize hg1 : synp w 1 11 = s1 at *
    generalize hg2 : synp w 2 11 = s2 at *
    have step : ∀ i : Nat, i < 11 → Lfs_CorrectWord_0 (((), (), (i : Int), ()), (W, [(s0 : Int), (s1 : Int), (s2 : Int)], ())) = some (bif okB s0 s1 s2 i then .inr (.inl (((), 1, (i : Int), ()), (toI (w.set i (w.getD i 0 ^^^ s0)), ()))) else .inl (((), (), ((i + 1 : Nat) : Int), ()), (W, [(s0 : Int), (s1 : Int), (s2 : Int)], ()))) := by
      intro i hi
      have hlt : i < W.length := by omega
      have c1 : (i : Int) < 11 := by omega
      have m1 := p_smul hb0 (pw_lt i)
      have m2 := p_smul hb1 (pw_lt i)
      have hgi := hgi i hlt
      have hset := hset i
      generalize w.getD i 0 = c at hgi hset ⊢
      generalize toI (w.set i (c ^^^ s0)) = R at hset ⊢
      unfold Lfs_CorrectWord_0 okB
      have hne : ((s0 : Int) != (0 : Int)) = !Nat.beq s0 0 := by rw [bne, h0]
      cases q0 : Nat.beq s0 0 with
      | true => simp (disch := omega) [c1, p_spow hi, hne, q0, wrapS]
      | false =>
        cases q1 : Nat.beq (gm s0 (pw i)) s1 with
        | false => simp (disch := omega) [c1, p_spow hi, hne, q0, m1, beqN, q1, wrapS]
        | true =>
          cases q2 : Nat.beq (gm s1 (pw i)) s2 with
          | false => simp (disch := omega) [c1, p_spow hi, hne, q0, m1, m2, beqN, q1, q2, wrapS]
          | true => simp (disch := omega) [c1, p_spow hi, hne, q0, m1, m2, beqN, q1, q2, hlt, hgi, hset]
    cases hloc : loc s0 s1 s2 with
    | none =>
      have hn := loc_none hloc
      have e := iter_to (step := Lfs_CorrectWord_0) 11 (fun i => (((), (), (i : Int), ()), (W, [(s0 : Int), (s1 : Int), (s2 : Int)], ()))) (.inr (.inl (((), ()), (W, ())))) big (fun i hi => by rw [step i hi, hn i hi]; rfl) (by unfold Lfs_CorrectWord_0; simp) (bigLt (by omega))
      rw [Int.natCast_zero] at e
      rw [e]
      simp only [Option.bind_some, Sum.elim_inr, Sum.elim_inl]
      rw [hW]
    | some k =>
      obtain ⟨hk, hok, hlo⟩ := loc_some hloc
      have e := iter_to (step := Lfs_CorrectWord_0) k (fun i => (((), (), (i : Int), ()), (W, [(s0 : Int), (s1 : Int), (s2 : Int)], ()))) (.inl (((), 1, (k : Int), ()), (toI (w.set k (w.getD k 0 ^^^ s0)), ()))) big (fun i hi => by rw [step i (by omega), hlo i hi]; rfl) (by rw [step k hk, hok]; rfl) (bigLt (by omega))
      rw [Int.natCast_zero] at e
      rw [e]
      rfl
theorem loc_zero {s0 s1 s2 : Nat} (h0 : s0 < 16) (h1 : s1 < 16) (h2 : s2 < 16) (h : s0 = 0 ∨ s1 = 0) : loc s0 s1 s2 = none := by
  have t := all16_ok (all16_ok (all16_ok t_loc h0) h1) h2
  have hc : (Nat.beq s0 0 || Nat.beq s1 0) = true := by rcases h with rfl | rfl <;> simp
  dsimp only at t
  rw [hc, cond_true] at t
  have t := Nat.eq_of_beq_eq_true t
  cases hl : loc s0 s1 s2 with
  | none => rfl
  | some k =>
    rw [hl] at t
    have := (loc_some hl).1
    simp only [optN] at t
    omega
theorem loc_eq {s0 s1 s2 : Nat} (h0 : s0 < 16) (h1 : s1 < 16) (h2 : s2 < 16) (n0 : s0 ≠ 0) (n1 : s1 ≠ 0) : gm s1 (iv s0) ≠ 0 ∧ loc s0 s1 s2 = bif Nat.blt (lg (gm s1 (iv s0))) 11 && Nat.beq (gm s1 (gm s1 (iv s0))) s2 then some (lg (gm s1 (iv s0))) else none := by
  have t := all16_ok (all16_ok (all16_ok t_loc h0) h1) h2
  have c0 : Nat.beq s0 0 = false := by cases h : Nat.beq s0 0 with | false => rfl | true => exact absurd (Nat.eq_of_beq_eq_true h) n0
  have c1 : Nat.beq s1 0 = false := by cases h : Nat.beq s1 0 with | false => rfl | true => exact absurd (Nat.eq_of_beq_eq_true h) n1
  dsimp only at t
  rw [c0, c1, Bool.or_false, cond_false, Bool.and_eq_true] at t
  obtain ⟨t1, t2⟩ := t
  have t2 := Nat.eq_of_beq_eq_true t2
  refine ⟨(by rintro e; rw [e] at t1; cases t1), ?_⟩
  cases hb : (Nat.blt (lg (gm s1 (iv s0))) 11 && Nat.beq (gm s1 (gm s1 (iv s0))) s2) with
  | true =>
    rw [hb, cond_true] at t2
    rw [Bool.and_eq_true] at hb
    have hlt : lg (gm s1 (iv s0)) < 11 := Nat.le_of_ble_eq_true hb.1
    cases hl : loc s0 s1 s2 with
    | none => rw [hl] at t2; simp only [optN] at t2; omega
    | some k => rw [hl] at t2; simp only [optN] at t2; rw [t2]; rfl
  | false =>
    rw [hb, cond_false] at t2
    cases hl : loc s0 s1 s2 with
    | none => rfl
    | some k =>
      have := (loc_some hl).1
      rw [hl] at t2
      simp only [optN] at t2
      omega
theorem p_inv {a : Nat} (h : a < 16) (h0 : a ≠ 0) : fi_GfInv (a : Int) = some (iv a : Int) := by
  have t := all16_ok t_iv h
  rw [Bool.or_eq_true] at t
  rcases t with t | t
  · exact absurd (Nat.eq_of_beq_eq_true t) h0
  · exact eq_of_beq t
theorem p_lg {a : Nat} (h : a < 16) (h0 : a ≠ 0) : fi_GfLog (a : Int) = some (lg a : Int) := by
  have t := all16_ok t_lg h
  rw [Bool.or_eq_true] at t
  rcases t with t | t
  · exact absurd (Nat.eq_of_beq_eq_true t) h0
  · exact eq_of_beq t
theorem m_Correct {w : List Nat} (hw : Wd16 w) (hl : w.length = 11) : fi_CorrectWord (toI w) = some (toI (corr w).1, (corr w).2.1, (corr w).2.2) := by
  have ho : okLen (([] : List Int).length + (toI w).length) = true := okLen_t (by simp [toI_len, hl])
  have h0 : ∀ n : Nat, ((n : Int) == (0 : Int)) = Nat.beq n 0 := fun n => beqN n 0
  have hb0 := synp_lt w 0 11
  have hb1 := synp_lt w 1 11
  have hb2 := synp_lt w 2 11
  have hgi : ∀ i (h : i < (toI w).length), (toI w)[i] = ((w.getD i 0 : Nat) : Int) := fun i h => toI_get h
  have hset : ∀ k, (toI w).set k (bits .xor .i64 ((w.getD k 0 : Nat) : Int) ((synp w 0 11 : Nat) : Int)) = toI (w.set k (w.getD k 0 ^^^ synp w 0 11)) := fun k => by
    rw [p_xor (hw.get k) hb0, toI_set]
  have hlen : (toI w).length = 11 := by rw [toI_len, hl]
  unfold fi_CorrectWord
  rw [p_syn hw hl, bindS, p_wordOk hw hl, ho]
  have hemp : isEmp [((synp w 0 11 : Nat) : Int), ((synp w 1 11 : Nat) : Int), ((synp w 2 11 : Nat) : Int)] = false := rfl
  rw [hemp, cond_false, cond_true, bindS]
  unfold corr zeroB
  cases hz : (Nat.beq (synp w 0 11) 0 && (Nat.beq (synp w 1 11) 0 && Nat.beq (synp w 2 11) 0)) with
  | true => simp
  | false =>
    simp only [cond_false, List.nil_append]
    generalize hW : toI w = W at hgi hset hlen ⊢
    generalize hg0 : synp w 0 11 = s0 at *
    generalize hg1 : synp w 1 11 = s1 at *
    generalize hg2 : synp w 2 11 = s2 at *
    have hne : ∀ n : Nat, ((n : Int) != (0 : Int)) = !Nat.beq n 0 := fun n => by rw [bne, h0]
    by_cases n0 : s0 = 0
    · rw [loc_zero hb0 hb1 hb2 (.inl n0)]
      subst n0
      simp [hW]
    · have c0 : Nat.beq s0 0 = false := by cases h : Nat.beq s0 0 with | false => rfl | true => exact absurd (Nat.eq_of_beq_eq_true h) n0
      by_cases n1 : s1 = 0
      · rw [loc_zero hb0 hb1 hb2 (.inr n1)]
        subst n1
        simp [hne, c0, hW]
      · have c1 : Nat.beq s1 0 = false := by cases h : Nat.beq s1 0 with | false => rfl | true => exact absurd (Nat.eq_of_beq_eq_true h) n1
        obtain ⟨nx, hloc⟩ := loc_eq hb0 hb1 hb2 n0 n1
        have e1 := p_inv hb0 n0
        have e2 := p_mul hb1 (iv_lt s0)
        rw [hloc]
        generalize hx : gm s1 (iv s0) = x at *
        have hx16 : x < 16 := by rw [← hx]; exact gm_lt _ _
        have e3 := p_lg hx16 nx
        have e4 := p_mul hb1 hx16
        generalize hn : lg x = n at *
        by_cases q1 : n < 11
        · have d1 : Nat.blt n 11 = true := Nat.ble_eq_true_of_le q1
          have d2 : (n : Int) < 11 := by omega
          have hlt : n < W.length := by omega
          have hgi := hgi n hlt
          have hset := hset n
          cases q2 : Nat.beq (gm s1 x) s2 with
          | true =>
            simp only [d1, Bool.true_and, cond_true]
            generalize w.getD n 0 = c at hgi hset ⊢
            generalize toI (w.set n (c ^^^ s0)) = R at hset ⊢
            simp [hne, c0, c1, e1, e2, e3, e4, d2, beqN, q2, hlt, hgi, hset]
          | false =>
            simp only [d1, Bool.true_and, cond_false]
            simp [hne, c0, c1, e1, e2, e3, e4, d2, beqN, q2, hW]
        · have d1 : Nat.blt n 11 = false := by
            cases h : Nat.blt n 11 with
            | false => rfl
            | true => exact absurd (Nat.le_of_ble_eq_true h) (by omega)
          have d2 : ¬ (n : Int) < 11 := by omega
          simp only [d1, Bool.false_and, cond_false]
          simp [hne, c0, c1, e1, e2, e3, d2, hW]
theorem corr_ok {w : List Nat} (hw : Wd16 w) (hl : w.length = 11) : (corr w).1.length = 11 ∧ Wd16 (corr w).1 ∧ ((corr w).2.1 = 0 ∨ (corr w).2.1 = 1 ∨ (corr w).2.1 = 2) := by
  have hb0 := synp_lt w 0 11
  unfold corr
  cases zeroB w with
  | true => exact ⟨hl, hw, .inl rfl⟩
  | false =>
    simp only [cond_false]
    cases loc (synp w 0 11) (synp w 1 11) (synp w 2 11) with
    | none => exact ⟨hl, hw, .inr (.inr rfl)⟩
    | some k => exact ⟨by simp [hl], hw.set (xor_lt (hw.get k) hb0), .inr (.inl rfl)⟩
theorem t_pw2 : (all16 fun a => (List.range 11).all fun k => Nat.beq (gm (gm a (pw k)) (pw k)) (gm a (pw (k * 2)))) = true := by kernel_rfl
/-- What was corrected is a word. -/
theorem corr_zero {w : List Nat} (hw : Wd16 w) (hl : w.length = 11) (h : (corr w).2.1 ≠ 2) : zeroB (corr w).1 = true := by
  unfold corr at h ⊢
  cases hz : zeroB w with
  | true => rw [cond_true]; exact hz
  | false =>
    rw [hz, cond_false] at h
    simp only [cond_false]
    cases hloc : loc (synp w 0 11) (synp w 1 11) (synp w 2 11) with
    | none => rw [hloc] at h; exact absurd rfl h
    | some k =>
      obtain ⟨hk, hok, _⟩ := loc_some hloc
      have hb0 := synp_lt w 0 11
      simp only [okB, Bool.and_eq_true] at hok
      have k1 := Nat.eq_of_beq_eq_true hok.2.1
      have k2 := Nat.eq_of_beq_eq_true hok.2.2
      have u := fun j => synp_upd hw hl hb0 hk j
      have p0 : gm (synp w 0 11) (pw (k * 0)) = synp w 0 11 := by rw [Nat.mul_zero]; exact gm_one hb0
      have p2 : gm (synp w 0 11) (pw (k * 2)) = synp w 2 11 := by
        rw [← Nat.eq_of_beq_eq_true (List.all_eq_true.1 (all16_ok t_pw2 hb0) k (List.mem_range.2 hk)), k1, k2]
      simp only [zeroB, Bool.and_eq_true]
      rw [u 0, u 1, u 2, p0, Nat.mul_one, k1, p2, Nat.xor_self, Nat.xor_self, Nat.xor_self]
      exact ⟨rfl, rfl, rfl⟩
theorem corr_same {w : List Nat} (h : zeroB w = true) : corr w = (w, 0, -1) := by simp [corr, h]
theorem p_dataOf {w : List Nat} (hw : Wd16 w) (hl : w.length = 11) : fi_DataOf (toI w) = some (toI (w.drop 3)) := by
  unfold fi_DataOf
  have c0 : ((w.length : Int) == (11 : Int)) = true := by rw [hl]; rfl
  have hl' : (toI w).length = 11 := by rw [toI_len, hl]
  rw [p_symbols hw (by omega), bindS, c0, show (!true) = false from rfl, cond_false, hl', if_pos (by decide)]
  have e : ((toI w).take ((11 : Nat) : Int).toNat).drop (3 : Int).toNat = toI (w.drop 3) := by
    show ((toI w).take 11).drop 3 = _
    rw [List.take_of_length_le (by omega)]
    exact (List.map_drop ..).symm
  have c1 : okLen (([] : List Int).length + (toI (w.drop 3)).length) = true := by
    rw [toI_len, List.length_drop, hl]; rfl
  rw [e, c1, cond_true]
  rfl
/-- The place of the first request with a number. -/
def place (l : List DReq) (id : Int) : Int := match l.findIdx? (fun r => r.id == id) with
  | some i => (i : Int)
  | none => -1
/-- The word of some symbols, up to the i-th. -/
def wv (l : List Int) : Nat → Int
  | 0 => 0
  | i + 1 => bits .or .i64 (wv l i) (IntKind.i64.wrap (l.getD i 0 * 2 ^ (min (4 * (i : Int)).toNat IntKind.i64.bits)))
theorem symsOk8 {l : List Int} (h : l.length = 8) (hd : ∀ s ∈ l, 0 ≤ s ∧ s ≤ 15) : symsOk l 8 = true := by
  simp only [symsOk, Bool.and_eq_true, List.all_eq_true, decide_eq_true_eq, symB, inR_iff]
  exact ⟨fun x hx => hd x hx, by rw [h]; rfl⟩
theorem m_WordOf {l : List Int} (h : l.length = 8) (hd : ∀ s ∈ l, 0 ≤ s ∧ s ≤ 15) : fi_WordOfSymbols l = some (wv l 8, true) := by
  unfold fi_WordOfSymbols
  rw [m_SymbolsOk _ _ (by omega), symsOk8 h hd, bindS]
  have e := iter_to (step := Lfi_WordOfSymbols_0) 8 (fun i => ((wv l i, l, (l.length : Int), (i : Int), ()), ())) (.inl ((wv l 8, ()), ())) big (fun i hi => by
    have hlt : i < l.length := by omega
    have e1 : IntKind.i64.wrap (4 * (i : Int)) = 4 * (i : Int) := w64 (by omega) (by omega)
    have hz : ¬ 4 * (i : Int) < 0 := by omega
    have eg : l.getD i 0 = l[i] := by rw [List.getD_eq_getElem?_getD, List.getElem?_eq_getElem hlt]; rfl
    have ew : wv l (i + 1) = bits .or .i64 (wv l i) (IntKind.i64.wrap (l.getD i 0 * 2 ^ (min (4 * (i : Int)).toNat IntKind.i64.bits))) := rfl
    unfold Lfi_WordOfSymbols_0
    rw [ew, eg]
    simp (disch := omega) [hlt, e1, hz, wrapS]) (by unfold Lfi_WordOfSymbols_0; simp [h]) (bigLt (by omega))
  rw [Int.natCast_zero] at e
  simp only [Bool.not_true, cond_false]
  have e0 : wv l 0 = 0 := rfl
  rw [e0] at e
  rw [e]
  rfl
theorem m_sWordOf {l : List Int} (h : l.length = 8) (hd : ∀ s ∈ l, 0 ≤ s ∧ s ≤ 15) : fs_WordOfSymbols l = some (wv l 8, true) := by
  unfold fs_WordOfSymbols
  rw [m_sSymbolsOk _ _ (by omega), symsOk8 h hd, bindS]
  have e := iter_to (step := Lfs_WordOfSymbols_0) 8 (fun i => ((l, wv l i, (i : Int), ()), ())) (.inl ((wv l 8, ()), ())) big (fun i hi => by
    have hlt : i < l.length := by omega
    have e1 : IntKind.i64.wrap (4 * (i : Int)) = 4 * (i : Int) := w64 (by omega) (by omega)
    have e2 : IntKind.u64.wrap (4 * (i : Int)) = 4 * (i : Int) := u64w (by omega) (by omega)
    have hz : ¬ 4 * (i : Int) < 0 := by omega
    have eg : l.getD i 0 = l[i] := by rw [List.getD_eq_getElem?_getD, List.getElem?_eq_getElem hlt]; rfl
    have ew : wv l (i + 1) = bits .or .i64 (wv l i) (IntKind.i64.wrap (l.getD i 0 * 2 ^ (min (4 * (i : Int)).toNat IntKind.i64.bits))) := rfl
    unfold Lfs_WordOfSymbols_0
    rw [ew, eg]
    simp (disch := omega) [hlt, e1, e2, hz, wrapS]) (by unfold Lfs_WordOfSymbols_0; simp [h]) (bigLt (by omega))
  rw [Int.natCast_zero] at e
  simp only [Bool.not_true, cond_false]
  have e0 : wv l 0 = 0 := rfl
  rw [e0] at e
  rw [e]
  rfl
theorem m_sDataOf {w : List Nat} (hw : Wd16 w) (hl : w.length = 11) : fs_DataOf (toI w) = some (toI (w.drop 3)) := by
  have hs := (toI_sy hw hl).ok
  have hlen : (toI w).length = 11 := by rw [toI_len, hl]
  have hd : (toI w).drop 3 = toI (w.drop 3) := by simp [toI, List.map_drop]
  unfold fs_DataOf
  rw [m_sSymbolsOk _ _ (by rw [toI_len]; omega), hs, bindS]
  generalize toI w = W at hlen hd ⊢
  rw [← hd]
  have h1 : W.take 11 = W := by rw [← hlen, List.take_length]
  simp [hlen, okLen, h1]
theorem drop_ok {w : List Nat} (hw : Wd16 w) (hl : w.length = 11) : (toI (w.drop 3)).length = 8 ∧ ∀ s ∈ toI (w.drop 3), 0 ≤ s ∧ s ≤ 15 := by
  refine ⟨by rw [toI_len]; simp [hl], fun s hs => ?_⟩
  simp only [toI, List.mem_map] at hs
  obtain ⟨x, hx, rfl⟩ := hs
  have := hw x (List.mem_of_mem_drop hx)
  omega
/-- What a word is read as. -/
def decW (w : List Nat) : Int := bif (corr w).2.1 == 2 then 0 else wv (toI ((corr w).1.drop 3)) 8
theorem m_Decode {w : List Nat} (hw : Wd16 w) (hl : w.length = 11) : fi_DecodeLine (toI w) = some (decW w, (corr w).2.1, (corr w).2.2) := by
  obtain ⟨c1, c2, _⟩ := corr_ok hw hl
  obtain ⟨d1, d2⟩ := drop_ok c2 c1
  unfold fi_DecodeLine decW
  rw [m_Correct hw hl, bindS]
  dsimp only
  cases h : (corr w).2.1 == 2 with
  | true => simp
  | false =>
    rw [cond_false, cond_false, p_dataOf c2 c1, bindS, m_WordOf d1 d2]
    rfl
theorem m_sDecode {w : List Nat} (hw : Wd16 w) (hl : w.length = 11) : fs_DecodeLine (toI w) = some (decW w, (corr w).2.1, (corr w).2.2) := by
  obtain ⟨c1, c2, _⟩ := corr_ok hw hl
  obtain ⟨d1, d2⟩ := drop_ok c2 c1
  unfold fs_DecodeLine decW
  rw [m_sCorrect hw hl, bindS]
  dsimp only
  cases h : (corr w).2.1 == 2 with
  | true => simp
  | false =>
    rw [cond_false, cond_false, m_sDataOf c2 c1, bindS, m_sWordOf d1 d2]
    rfl
theorem p_EncodeAny (x : Int) : ∃ w, fs_EncodeLine x = some w := by
  by_cases h : 0 ≤ x ∧ x ≤ 4294967295
  · obtain ⟨w, e, _⟩ := p_EncodeLine h.1 h.2
    exact ⟨w, e⟩
  · have c1 : inR x 0 4294967295 = false := by
      cases hb : inR x 0 4294967295 with
      | false => rfl
      | true => exact absurd (inR_iff.1 hb) h
    have e := iter_to (step := Lfs_SymbolsOfWord_0) 0 (fun _ => ((x, (), (0 : Int), ()), (([] : List Int), ()))) (.inl (((), ()), (([] : List Int), ()))) big (fun k hk => by omega) (by
      unfold Lfs_SymbolsOfWord_0 fs_IsWord
      simp [m_in, c1]) (bigLt (by omega))
    unfold fs_EncodeLine fs_SymbolsOfWord
    rw [e]
    refine ⟨[], ?_⟩
    unfold fs_EncodeSymbols
    simp [m_sSymbolsOk, symsOk]
def nw (c : DCell) : List Nat := c.symbols.map Int.toNat
theorem nw_ok {c : DCell} (h : Sy c.symbols) : toI (nw c) = c.symbols ∧ Wd16 (nw c) ∧ (nw c).length = 11 := by
  obtain ⟨h1, h2⟩ := toI_of c.symbols h.2
  exact ⟨h1, h2, by simp [nw, h.1]⟩
def ecode (c : DCell) : Int := bif c.poison then 2 else (corr (nw c)).2.1
def scr (c : DCell) : DCell := bif c.poison then c else bif (corr (nw c)).2.1 == 1 then ⟨toI (corr (nw c)).1, c.poison⟩ else bif (corr (nw c)).2.1 == 2 then ⟨c.symbols, true⟩ else c
theorem set_same {l : List DCell} {j : Nat} (h : j < l.length) : l.set j l[j] = l := List.set_getElem_self h
theorem m_fetch {a : DArray} {j : Nat} (hj : j < a.cells.length) (hs : Sy a.cells[j].symbols) : ∃ v, fi_fetch a (j : Int) = some ((v, ecode a.cells[j]), (⟨a.cells.set j (scr a.cells[j]), a.age, a.hits⟩, ())) := by
  obtain ⟨n1, n2, n3⟩ := nw_ok hs
  have e1 := m_Correct n2 n3
  have e2 := m_Decode n2 n3
  rw [n1] at e1 e2
  have ea : (⟨a.cells, a.age, a.hits⟩ : DArray) = a := rfl
  have ec := set_same hj
  unfold fi_fetch ecode scr
  cases hp : a.cells[j].poison with
  | true => exact ⟨0, by simp [hj, hp, ea]⟩
  | false =>
    refine ⟨decW (nw a.cells[j]), ?_⟩
    rcases (corr_ok n2 n3).2.2 with q | q | q
    · simp [hj, hp, e1, e2, q, ea]
    · simp [hj, hp, e1, e2, q]
    · simp [hj, hp, e1, e2, q]
theorem m_sGet {a : DArray} {j : Nat} (hj : j < a.cells.length) (hs : Sy a.cells[j].symbols) : ∃ v c, fs_l25Get a (j : Int) = some ((v, ecode a.cells[j]), (⟨a.cells.set j c, a.age, a.hits⟩, ())) := by
  obtain ⟨n1, n2, n3⟩ := nw_ok hs
  have e2 := m_sDecode n2 n3
  rw [n1] at e2
  have ea : (⟨a.cells, a.age, a.hits⟩ : DArray) = a := rfl
  have ec := set_same hj
  unfold fs_l25Get ecode
  cases hp : a.cells[j].poison with
  | true => exact ⟨0, a.cells[j], by simp [hj, hp, ea]⟩
  | false =>
    rcases (corr_ok n2 n3).2.2 with q | q | q
    · exact ⟨decW (nw a.cells[j]), a.cells[j], by simp [hj, hp, e2, q, ea]⟩
    · obtain ⟨w, e3⟩ := p_EncodeAny (decW (nw a.cells[j]))
      exact ⟨decW (nw a.cells[j]), ⟨w, a.cells[j].poison⟩, by simp [hj, hp, e2, q, e3]⟩
    · exact ⟨decW (nw a.cells[j]), ⟨a.cells[j].symbols, true⟩, by simp [hj, hp, e2, q]⟩
/-- How many cells give a code. -/
def cnt (n : Int) (l : List DCell) : Int := ((l.countP fun c => ecode c == n : Nat) : Int)
theorem cnt_take (n : Int) {l : List DCell} {k : Nat} (h : k < l.length) : cnt n (l.take (k + 1)) = cnt n (l.take k) + (bif ecode l[k] == n then 1 else 0) := by
  unfold cnt
  rw [List.take_succ_eq_append_getElem h, List.countP_append, List.countP_singleton]
  cases ecode l[k] == n <;> simp
theorem cnt_b (n : Int) (l : List DCell) : 0 ≤ cnt n l ∧ cnt n l ≤ l.length := by
  unfold cnt
  have := List.countP_le_length (p := fun c => ecode c == n) (l := l)
  omega
theorem scr_sy {c : DCell} (h : Sy c.symbols) : Sy (scr c).symbols := by
  obtain ⟨n1, n2, n3⟩ := nw_ok h
  obtain ⟨c1, c2, _⟩ := corr_ok n2 n3
  unfold scr
  cases c.poison with
  | true => exact h
  | false =>
    cases (corr (nw c)).2.1 == 1 with
    | true => exact toI_sy c2 c1
    | false => cases (corr (nw c)).2.1 == 2 <;> exact h
theorem m_ScrubAll {g : DGeometry} (hg : geoOk g = true) {B : Int} {a : DArray} (ha : Aok g B a) (hB : B ≤ 100000) : fi_ScrubAll g a = some (⟨a.cells.map scr, a.age, a.hits⟩, cnt 1 a.cells, cnt 2 a.cells) := by
  have b1 := linesN_b g
  have a1 := ha.cells
  unfold fi_ScrubAll
  rw [ha.copy, bindS, ha.ok hg hB, bindS]
  have e := iter_to (step := Lfi_ScrubAll_0) a.cells.length (fun i => (((), (), cnt 1 (a.cells.take i), cnt 2 (a.cells.take i), (a.cells.length : Int), (i : Int), ()), (((), (), (), ()), ((), (), (), ()), ([] : List DCell), ([] : List Int), ([] : List Int), upto scr a.cells i, a.age, a.hits, ())))
    (.inl (((), (), cnt 1 a.cells, cnt 2 a.cells, ()), (((), (), (), ()), ((), (), (), ()), ([] : List DCell), ([] : List Int), ([] : List Int), a.cells.map scr, a.age, a.hits, ()))) big (fun i hi => by
      have hu : i < (upto scr a.cells i).length := by rw [upto_len]; exact hi
      have hg := upto_get scr a.cells i hi hu
      have hst := upto_set scr a.cells i hi
      have hs := Sy.mem ha.syms hi
      obtain ⟨v, e1⟩ := m_fetch (a := ⟨upto scr a.cells i, a.age, a.hits⟩) (j := i) hu (by dsimp only; rw [hg]; exact hs)
      dsimp only at e1
      rw [hg, hst] at e1
      rw [cnt_take 1 hi, cnt_take 2 hi]
      have t1 := cnt_b 1 (a.cells.take i)
      have t2 := cnt_b 2 (a.cells.take i)
      rw [List.length_take] at t1 t2
      unfold Lfi_ScrubAll_0
      cases q1 : ecode a.cells[i] == 1 with
      | true =>
        have q2 : (ecode a.cells[i] == 2) = false := by have := eq_of_beq q1; rw [this]; rfl
        simp (disch := omega) [hi, e1, q1, q2, wrapS, w64]
      | false => cases q2 : ecode a.cells[i] == 2 <;> simp (disch := omega) [hi, e1, q1, q2, wrapS, w64]) (by
      unfold Lfi_ScrubAll_0
      simp [upto_all]) (bigLt (by omega))
  rw [Int.natCast_zero, upto_zero, List.take_zero] at e
  have z1 : ∀ n, cnt n [] = 0 := fun _ => rfl
  rw [z1, z1] at e
  simp only [Bool.not_true, cond_false]
  rw [e]
  rfl
theorem p_sScrubAll {g : DGeometry} (hg : geoOk g = true) {B : Int} {a : DArray} (ha : Aok g B a) (hB : B ≤ 100000) : ∃ y, fs_ScrubAll g a = some (y, cnt 1 a.cells, cnt 2 a.cells) := by
  have b1 := linesN_b g
  have a1 := ha.cells
  have eok := ha.sok hg hB
  have ea : (⟨a.cells, a.age, a.hits⟩ : DArray) = a := rfl
  unfold fs_ScrubAll
  rw [ha.scopy, bindS]
  obtain ⟨z, h1, cs, rfl⟩ := iter_inv (step := Lfs_ScrubAll_0) a.cells.length
    (fun i x => ∃ cs : List DCell, x = (((), (), (), (), cnt 1 (a.cells.take i), cnt 2 (a.cells.take i), (i : Int), ()), ((g.groups, g.banks, g.rows, g.cols, ()), (a.cells, a.age, a.hits, ()), ((), (), (), ()), ((), (), (), ()), ([] : List DCell), ([] : List Int), ([] : List Int), cs, a.age, a.hits, ())) ∧ cs.length = a.cells.length ∧ ∀ j, i ≤ j → cs[j]? = a.cells[j]?)
    (fun z => ∃ cs : List DCell, z = .inl (((), (), cnt 1 a.cells, cnt 2 a.cells, ()), (((), (), (), ()), ((), (), (), ()), ([] : List DCell), ([] : List Int), ([] : List Int), cs, a.age, a.hits, ())))
    (x := (((), (), (), (), (0 : Int), (0 : Int), ((0 : Nat) : Int), ()), ((g.groups, g.banks, g.rows, g.cols, ()), (a.cells, a.age, a.hits, ()), ((), (), (), ()), ((), (), (), ()), ([] : List DCell), ([] : List Int), ([] : List Int), a.cells, a.age, a.hits, ()))) big ⟨a.cells, rfl, rfl, fun _ _ => rfl⟩ (by
      rintro i hi x ⟨cs, rfl, h2, h3⟩
      have hc : i < cs.length := by omega
      have hg : cs[i] = a.cells[i] := by
        have := h3 i (Nat.le_refl _)
        rw [List.getElem?_eq_getElem hc, List.getElem?_eq_getElem hi] at this
        injection this
      obtain ⟨v, c, e1⟩ := m_sGet (a := ⟨cs, a.age, a.hits⟩) (j := i) hc (by dsimp only; rw [hg]; exact Sy.mem ha.syms hi)
      dsimp only at e1
      rw [hg] at e1
      have t1 := cnt_b 1 (a.cells.take i)
      have t2 := cnt_b 2 (a.cells.take i)
      rw [List.length_take] at t1 t2
      refine ⟨(((), (), (), (), cnt 1 (a.cells.take (i + 1)), cnt 2 (a.cells.take (i + 1)), ((i + 1 : Nat) : Int), ()), ((g.groups, g.banks, g.rows, g.cols, ()), (a.cells, a.age, a.hits, ()), ((), (), (), ()), ((), (), (), ()), ([] : List DCell), ([] : List Int), ([] : List Int), cs.set i c, a.age, a.hits, ())), ?_, cs.set i c, rfl, by simp [h2], fun j hj => ?_⟩
      · rw [cnt_take 1 hi, cnt_take 2 hi]
        unfold Lfs_ScrubAll_0
        cases q1 : ecode a.cells[i] == 1 with
        | true =>
          have q2 : (ecode a.cells[i] == 2) = false := by have := eq_of_beq q1; rw [this]; rfl
          simp (disch := omega) [eta_g, ea, eok, hi, e1, q1, q2, wrapS, w64]
        | false => cases q2 : ecode a.cells[i] == 2 <;> simp (disch := omega) [eta_g, ea, eok, hi, e1, q1, q2, wrapS, w64]
      · rw [List.getElem?_set_ne (by omega)]
        exact h3 j (by omega)) (by
      rintro x ⟨cs, rfl, h2, h3⟩
      refine ⟨_, ?_, cs, rfl⟩
      unfold Lfs_ScrubAll_0
      simp [eta_g, ea, eok]) (bigLt (by omega))
  rw [Int.natCast_zero] at h1
  rw [h1]
  exact ⟨_, rfl⟩
/-- The places of the poisoned cells. -/
def pois : Nat → List DCell → List Int
  | _, [] => []
  | i, c :: cs => bif c.poison then (i : Int) :: pois (i + 1) cs else pois (i + 1) cs
theorem pois_append (i : Nat) (a b : List DCell) : pois i (a ++ b) = pois i a ++ pois (i + a.length) b := by
  induction a generalizing i with
  | nil => simp [pois]
  | cons x a ih =>
    simp only [List.cons_append, pois, List.length_cons]
    rw [ih, show i + 1 + a.length = i + (a.length + 1) by omega]
    cases x.poison <;> rfl
theorem pois_len (i : Nat) (l : List DCell) : (pois i l).length = l.countP (·.poison) := by
  induction l generalizing i with
  | nil => rfl
  | cons x a ih =>
    simp only [pois, List.countP_cons]
    cases x.poison <;> simp [ih]
theorem m_Poisoned {g : DGeometry} (hg : geoOk g = true) {B : Int} {a : DArray} (ha : Aok g B a) (hB : B ≤ 100000) : fi_Poisoned g a = some (pois 0 a.cells) := by
  have b1 := linesN_b g
  have a1 := ha.cells
  unfold fi_Poisoned
  rw [ha.ok hg hB, bindS]
  have e := iter_to (step := Lfi_Poisoned_0) a.cells.length (fun i => (((), a.cells, (a.cells.length : Int), (i : Int), ()), (pois 0 (a.cells.take i), ()))) (.inl (((), ()), (pois 0 a.cells, ()))) big (fun i hi => by
    have hl := pois_len 0 (a.cells.take i)
    have hl2 := List.countP_le_length (p := fun c : DCell => c.poison) (l := a.cells.take i)
    rw [List.length_take] at hl2
    have ho : okLen ((pois 0 (a.cells.take i)).length + 1) = true := okLen_t (by omega)
    rw [List.take_succ_eq_append_getElem hi, pois_append]
    have hm : min i a.cells.length = i := by omega
    unfold Lfi_Poisoned_0
    cases hp : a.cells[i].poison <;> simp (disch := omega) [hi, hp, pois, ho, wrapS, hm]) (by unfold Lfi_Poisoned_0; simp) (bigLt (by omega))
  rw [Int.natCast_zero, List.take_zero] at e
  simp only [Bool.not_true, cond_false]
  have e0 : pois 0 [] = [] := rfl
  rw [e0] at e
  rw [e]
  rfl
theorem nw_toI {w : List Nat} (p : Bool) : nw ⟨toI w, p⟩ = w := by
  simp only [nw, toI, List.map_map]
  conv => rhs; rw [← List.map_id w]
  exact List.map_congr_left fun x _ => by simp
/-- Behind a scrub: poisoned, or a word. -/
theorem scr_facts {c : DCell} (h : Sy c.symbols) : (scr c).poison = (ecode c == 2) ∧ ((scr c).poison = false → zeroB (nw (scr c)) = true) := by
  obtain ⟨n1, n2, n3⟩ := nw_ok h
  have hz := corr_zero n2 n3
  unfold scr ecode
  cases hp : c.poison with
  | true => simp [hp]
  | false =>
    rcases (corr_ok n2 n3).2.2 with q | q | q
    · rw [q] at hz ⊢
      have hz := hz (by omega)
      have hc : zeroB (nw c) = true := by
        cases hb : zeroB (nw c) with
        | true => rfl
        | false =>
          unfold corr at q
          rw [hb, cond_false] at q
          cases hl : loc (synp (nw c) 0 11) (synp (nw c) 1 11) (synp (nw c) 2 11) <;> rw [hl] at q <;> simp at q
      simp [hp, hc]
    · rw [q] at hz ⊢
      have hz := hz (by omega)
      simp [hp, nw_toI, hz]
    · rw [q]
      simp
theorem ecode_scr {c : DCell} (h : Sy c.symbols) : ecode (scr c) = bif ecode c == 2 then 2 else 0 := by
  obtain ⟨h1, h2⟩ := scr_facts h
  unfold ecode at h1 ⊢
  cases hp : (scr c).poison with
  | true => rw [hp] at h1; rw [← h1]; rfl
  | false =>
    rw [hp] at h1
    rw [← h1]
    simp only [cond_false]
    rw [corr_same (h2 hp)]
theorem scr_scr {c : DCell} (h : Sy c.symbols) : scr (scr c) = scr c := by
  obtain ⟨h1, h2⟩ := scr_facts h
  generalize scr c = d at h1 h2
  unfold scr
  cases hp : d.poison with
  | true => rfl
  | false =>
    rw [corr_same (h2 hp)]
    rfl
theorem p_sameArray (a : DArray) (h1 : a.cells.length < 1073741823) (h2 : a.age.length < 1073741823) (h3 : a.hits.length < 1073741823) (h4 : ∀ c ∈ a.cells, c.symbols.length < 1073741823) : fl_sameArray a a = some true := by
  have e := iter_to (step := Lfl_sameArray_0) a.cells.length (fun i => (((), (), (i : Int), ()), ((a.cells, a.age, a.hits, ()), (a.cells, a.age, a.hits, ()), ()))) (.inr (.inl ((), ()))) big (fun i hi => by
    unfold Lfl_sameArray_0
    simp (disch := omega) [hi, p_sameCell _ (h4 _ (List.getElem_mem hi)), wrapS]) (by unfold Lfl_sameArray_0; simp) (bigLt (by omega))
  rw [Int.natCast_zero] at e
  unfold fl_sameArray
  simp [p_sameInts a.age h2, p_sameInts a.hits h3, e]
theorem p_FnScrubbed (l : List Int) : fl_FnScrubbed l = some true := by
  unfold fl_FnScrubbed fl_big
  rw [bindS]
  by_cases hbig : (l.length : Int) > 1048576
  · rw [decide_eq_true hbig]; rfl
  · rw [decide_eq_false hbig, cond_false]
    obtain ⟨g, lim, a, e1, hsg, ha⟩ := p_DrawArray l (by omega)
    have hg := hsg.ok
    have a1 := ha.cells
    have b1 := linesN_b g
    have b2 := rowsN_b g
    have a2 := ha.age
    have a3 := ha.hits
    have f1 := m_ScrubAll hg ha (by omega)
    have hx : Aok g 600 ⟨a.cells.map scr, a.age, a.hits⟩ := ⟨by simp [a1], fun c hc => by
      obtain ⟨d, hd, rfl⟩ := List.mem_map.1 hc
      exact scr_sy (ha.syms d hd), ha.age, ha.hits, ha.ages, ha.hit⟩
    have f2 := m_ScrubAll hg hx (by omega)
    have f3 := m_Poisoned hg hx (by omega)
    have f4 := hx.ok hg (by omega)
    obtain ⟨y, f5⟩ := p_sScrubAll hg ha (by omega)
    have g1 : (a.cells.map scr).map scr = a.cells.map scr := by
      rw [List.map_map]
      exact List.map_congr_left fun c hc => scr_scr (ha.syms c hc)
    have g2 : cnt 1 (a.cells.map scr) = 0 := by
      unfold cnt
      rw [List.countP_map, List.countP_eq_zero.2]
      · rfl
      · intro c hc
        simp only [Function.comp]
        rw [ecode_scr (ha.syms c hc)]
        cases ecode c == 2 <;> simp
    have g3 : cnt 2 (a.cells.map scr) = cnt 2 a.cells := by
      unfold cnt
      rw [List.countP_map]
      congr 1
      refine List.countP_congr fun c hc => ?_
      simp only [Function.comp]
      rw [ecode_scr (ha.syms c hc)]
      cases ecode c == 2 <;> simp
    have g4 : ((pois 0 (a.cells.map scr)).length : Int) = cnt 2 a.cells := by
      unfold cnt
      rw [pois_len, List.countP_map]
      congr 1
      refine List.countP_congr fun c hc => ?_
      simp only [Function.comp]
      rw [(scr_facts (ha.syms c hc)).1]
    rw [g1, g2, g3] at f2
    have hs := p_sameArray ⟨a.cells.map scr, a.age, a.hits⟩ (by simp; omega) (by dsimp only; omega) (by dsimp only; omega) (fun c hc => by rw [(hx.syms c hc).1]; omega)
    have ea : (⟨a.cells, a.age, a.hits⟩ : DArray) = a := rfl
    have e := iter_to (step := Lfl_FnScrubbed_0) (a.cells.map scr).length (fun i => (((), (), (), cnt 1 a.cells, cnt 2 a.cells, (), (0 : Int), cnt 2 a.cells, (), (i : Int), ()), ((g.groups, g.banks, g.rows, g.cols, ()), ((), (), (), ()), ((), (), (), ()), ((), (), (), ()), pois 0 (a.cells.map scr), a.cells, a.age, a.hits, a.cells.map scr, a.age, a.hits, a.cells.map scr, a.age, a.hits, ())))
      (.inr (.inl (((), (), (), cnt 1 a.cells, cnt 2 a.cells, (), (0 : Int), cnt 2 a.cells, (), ()), ((g.groups, g.banks, g.rows, g.cols, ()), ((), (), (), ()), ((), (), (), ()), ((), (), (), ()), pois 0 (a.cells.map scr), a.cells, a.age, a.hits, a.cells.map scr, a.age, a.hits, a.cells.map scr, a.age, a.hits, ())))) big (fun i hi => by
        have hi' : i < a.cells.length := by simpa using hi
        have hsy := Sy.mem hx.syms hi
        obtain ⟨n1, n2, n3⟩ := nw_ok hsy
        have hw := m_sWordOk n2 n3
        rw [n1] at hw
        have hf := (scr_facts (Sy.mem ha.syms hi')).2
        dsimp only at hw
        simp only [List.getElem_map] at hw
        unfold Lfl_FnScrubbed_0
        cases hp : (scr a.cells[i]).poison with
        | true => simp (disch := omega) [hi', hp, wrapS]
        | false =>
          rw [hf hp] at hw
          simp (disch := omega) [hi', hp, hw, wrapS]) (by unfold Lfl_FnScrubbed_0; simp) (bigLt (by simp; omega))
    rw [Int.natCast_zero] at e
    simp [e1, f1, f2, f3, f4, e, eta_g, ea, f5, g4, hs]
theorem law_FnScrubbed (v0 : Value) (w : World) (r0 : RdL .u8 (fun x : Int => 0 ≤ x ∧ x ≤ 255) w v0) : Calls Try.prog 10 #[v0] w fun e w' => e = .returned (.bool true) ∧ Below w.heap.size w w' := by
  obtain ⟨l, hl, _, h0⟩ := r0
  exact law_of ok_fl_FnScrubbed (ctrT_run (ai := [(false, .sl .u8)]) (x := (l, ())) (by kernel_rfl) (p_FnScrubbed l)) (args1 h0)
end Go.Proofs.Ytnmllpfchcfonaa
