/-
  Plain laws. Nothing here is a claim.
-/
import Derived.Test.YtnmllpfchcfonaaDoorVZ
import Derived.Test.YtnmllpfchcfonaaDoorOpenV
import Derived.Test.YtnmllpfchcfonaaDoorG1
namespace Go.Proofs.YtnmllpfchcfonaaDoor
open Go.RowKit
set_option linter.unusedVariables false
set_option linter.unusedSimpArgs false
set_option maxRecDepth 100000

theorem w64 {n : Int} (h1 : -9223372036854775808 ≤ n) (h2 : n < 9223372036854775808) : IntKind.i64.wrap n = n := by
  rw [IntKind.wrap_i64]; omega
theorem iter_ind {α β : Type} {step : α → Option (α ⊕ β)} (I : α → Prop) (m : α → Nat) (Q : β → Prop)
    (h : ∀ x, I x → (∃ y, step x = some (.inl y) ∧ I y ∧ m y < m x) ∨ ∃ z, step x = some (.inr z) ∧ Q z) :
    ∀ (n : Nat) (x : α), I x → m x < n → ∃ z, iter step n x = some z ∧ Q z
  | 0, x, _, hm => by omega
  | n + 1, x, hx, hm => by
    unfold iter
    rcases h x hx with ⟨y, h1, h2, h3⟩ | ⟨z, h1, h2⟩
    · rw [h1]
      exact iter_ind I m Q h n y h2 (by omega)
    · rw [h1]
      exact ⟨z, rfl, h2⟩
theorem bindS {α β : Type} (x : α) (f : α → Option β) : (some x).bind f = f x := rfl
theorem okLen_t {n : Nat} (h : n < 1073741824) : okLen n = true := decide_eq_true h
theorem bigLt {n : Nat} (h : n < 1073741824) : n < big := by unfold big; omega
def inR (x a b : Int) : Bool := decide (a ≤ x) && decide (x ≤ b)
theorem inR_iff {x a b : Int} : inR x a b = true ↔ a ≤ x ∧ x ≤ b := by simp [inR]
theorem m_between (x a b : Int) : fi_between x a b = some (inR x a b) := by
  unfold fi_between inR
  by_cases h : a ≤ x <;> simp [h]
theorem m_in (x a b : Int) : fs_l01In x a b = some (inR x a b) := m_between x a b
theorem wrap_succ {i : Nat} (h : i < 4611686018427387904) : IntKind.i64.wrap ((i : Int) + 1) = ((i + 1 : Nat) : Int) := by
  rw [w64 (by omega) (by omega)]; simp
theorem and255 (y : Int) : 0 ≤ bits .and .i64 y 255 ∧ bits .and .i64 y 255 ≤ 255 := by
  have e : bits .and .i64 y 255 = IntKind.i64.wrap ((BitVec.ofInt 64 y &&& BitVec.ofInt 64 255).toNat : Int) := rfl
  have h : (BitVec.ofInt 64 y &&& BitVec.ofInt 64 255).toNat ≤ 255 := by
    rw [BitVec.toNat_and]
    exact Nat.le_trans Nat.and_le_right (by decide)
  rw [e, IntKind.wrap_i64]
  omega
/-- A cursor over some bytes. -/
structure Cok (b : List Int) (c : DCur) : Prop where
  eq : c.b = b
  lo : 0 ≤ c.i
  hi : c.i ≤ b.length
  len : b.length ≤ 1073741823
theorem Cok.eta {b : List Int} {c : DCur} (h : Cok b c) : (⟨b, c.i, c.h⟩ : DCur) = c := by
  obtain ⟨b', i, h'⟩ := c
  have := h.eq
  simp only at this
  subst this
  rfl
/-- A draw gives a value of P, and the cursor goes on. -/
def Dr {α : Type} (b : List Int) (f : Option (α × (DCur × Unit))) (P : α → Prop) : Prop := ∃ x c, f = some (x, (c, ())) ∧ Cok b c ∧ P x
theorem Dr.bind {α β : Type} {b : List Int} {f : Option (α × (DCur × Unit))} {g : α × (DCur × Unit) → Option (β × (DCur × Unit))} {P : α → Prop} {Q : β → Prop} (h : Dr b f P) (hg : ∀ x c, P x → Cok b c → Dr b (g (x, (c, ()))) Q) : Dr b (f.bind g) Q := by
  obtain ⟨x, c, h1, h2, h3⟩ := h
  rw [h1]
  exact hg x c h3 h2
theorem Dr.pure {α : Type} {b : List Int} {x : α} {c : DCur} {P : α → Prop} (hc : Cok b c) (hp : P x) : Dr b (some (x, (c, ()))) P := ⟨x, c, rfl, hc, hp⟩
/-- The same where the cursor is thrown away. -/
theorem Dr.last {α β : Type} {b : List Int} {f : Option (α × (DCur × Unit))} {g : α × (DCur × Unit) → Option β} {P : α → Prop} {Q : Option β → Prop} (h : Dr b f P) (hg : ∀ x c, P x → Cok b c → Q (g (x, (c, ())))) : Q (f.bind g) := by
  obtain ⟨x, c, h1, h2, h3⟩ := h
  rw [h1]
  exact hg x c h3 h2
theorem p_new (l : List Int) (h : l.length ≤ 1073741823) : ∃ y, fs_l01New l = some y := by
  unfold fs_l01New
  obtain ⟨z, h1, h2⟩ := iter_ind (step := Lfs_l01New_0)
    (fun x => ∃ (i : Nat) (y : Int), x = (((), y, (i : Int), ()), (l, ())) ∧ i ≤ l.length)
    (fun x => l.length - x.1.2.2.1.toNat) (fun z => ∃ y, (Sum.elim (fun z3 : ((Unit × Int × Unit) × ((List Int) × Unit)) => some z3.1.2.1) (fun z => nomatch z)) z = some y) (by
      rintro x ⟨i, y, rfl, hi⟩
      unfold Lfs_l01New_0
      dsimp only
      by_cases h' : i < l.length
      · have c1 : decide ((i : Int) < (l.length : Int)) = true := by simpa using h'
        have c2 : 0 ≤ (i : Int) ∧ (i : Int).toNat < l.length := ⟨by omega, by simpa using h'⟩
        rw [c1, cond_true]
        cases h4 : decide ((i : Int) < 4000) with
        | true =>
          rw [cond_true, dif_pos c2]
          left
          refine ⟨_, rfl, ⟨i + 1, _, by rw [wrap_succ (by omega)], by omega⟩, ?_⟩
          dsimp only
          rw [wrap_succ (by omega)]
          omega
        | false =>
          rw [cond_false]
          right
          exact ⟨_, rfl, _, rfl⟩
      · have c1 : decide ((i : Int) < (l.length : Int)) = false := by simpa using h'
        rw [c1, cond_false]
        right
        exact ⟨_, rfl, _, rfl⟩)
    big (((), (IntKind.i64.wrap ((97301 : Int) + (l.length : Int))), ((0 : Nat) : Int), ()), (l, ())) ⟨0, _, rfl, by omega⟩ (by dsimp only; unfold big; omega)
  have h1 : iter Lfs_l01New_0 big (((), (IntKind.i64.wrap ((97301 : Int) + (l.length : Int))), (0 : Int), ()), (l, ())) = some z := h1
  rw [h1]
  exact h2
theorem new_cok (l : List Int) (y : Int) (h : l.length ≤ 1073741823) : Cok l ⟨l, 0, y⟩ := ⟨rfl, Int.le_refl _, by simp, h⟩
theorem p_byte {b : List Int} {c : DCur} (hc : Cok b c) : Dr b (fs_l01Byte c) fun x => 0 ≤ x ∧ x ≤ 255 := by
  have hb := hc.eq
  have h1 := hc.lo
  have h2 := hc.hi
  have h3 := hc.len
  unfold fs_l01Byte
  by_cases h : c.i < (c.b.length : Int)
  · have c1 : decide (c.i < (c.b.length : Int)) = true := by simpa using h
    rw [c1, cond_true, dif_pos ⟨h1, by omega⟩]
    refine Dr.pure ⟨hb, ?_, ?_, h3⟩ (and255 _)
    · show 0 ≤ IntKind.i64.wrap (c.i + 1)
      rw [hb] at h
      rw [w64 (by omega) (by omega)]; omega
    · show IntKind.i64.wrap (c.i + 1) ≤ _
      rw [hb] at h
      rw [w64 (by omega) (by omega)]; omega
  · have c1 : decide (c.i < (c.b.length : Int)) = false := by simpa using h
    rw [c1, cond_false]
    exact Dr.pure ⟨hb, h1, h2, h3⟩ (and255 _)
theorem tmod_bd {x n : Int} (h : 0 ≤ x) (hn : 0 < n) : 0 ≤ x.tmod n ∧ x.tmod n < n := by
  rw [Int.tmod_eq_emod_of_nonneg h]
  exact ⟨Int.emod_nonneg _ (by omega), Int.emod_lt_of_pos _ hn⟩
theorem p_below {b : List Int} {c : DCur} (hc : Cok b c) (n : Int) : Dr b (fs_l01Below c n) fun x => 0 ≤ x ∧ (n ≤ 0 → x = 0) ∧ (0 < n → x < n) := by
  unfold fs_l01Below
  by_cases h0 : n ≤ 0
  · have c1 : decide (n ≤ 0) = true := by simpa using h0
    rw [c1, cond_true]
    exact Dr.pure hc ⟨Int.le_refl _, fun _ => rfl, fun h => by omega⟩
  · have c1 : decide (n ≤ 0) = false := by simpa using h0
    have hn : ¬ n = 0 := by omega
    rw [c1, cond_false]
    by_cases h1 : n ≤ 256
    · have c2 : decide (n ≤ 256) = true := by simpa using h1
      rw [c2, cond_true]
      refine (p_byte hc).bind fun x c' hx hc' => ?_
      rw [if_neg hn]
      dsimp only
      rw [hc.eq, hc'.eta]
      have := tmod_bd hx.1 (show 0 < n by omega)
      exact Dr.pure hc' ⟨this.1, fun h => by omega, fun _ => this.2⟩
    · have c2 : decide (n ≤ 256) = false := by simpa using h1
      rw [c2, cond_false, hc.eq]
      refine (p_byte hc).bind fun x1 k1 hx1 hk1 => ?_
      dsimp only
      rw [hk1.eta]
      refine (p_byte hk1).bind fun x2 k2 hx2 hk2 => ?_
      dsimp only
      rw [hk2.eta]
      refine (p_byte hk2).bind fun x3 k3 hx3 hk3 => ?_
      dsimp only
      rw [hk3.eta]
      refine (p_byte hk3).bind fun x4 k4 hx4 hk4 => ?_
      rw [if_neg hn]
      dsimp only
      rw [hk4.eta]
      rw [w64 (n := x1 * 16777216) (by omega) (by omega), w64 (n := x2 * 65536) (by omega) (by omega), w64 (n := x1 * 16777216 + x2 * 65536) (by omega) (by omega), w64 (n := x3 * 256) (by omega) (by omega), w64 (n := x1 * 16777216 + x2 * 65536 + x3 * 256) (by omega) (by omega), w64 (n := x1 * 16777216 + x2 * 65536 + x3 * 256 + x4) (by omega) (by omega)]
      have := tmod_bd (x := x1 * 16777216 + x2 * 65536 + x3 * 256 + x4) (by omega) (show 0 < n by omega)
      exact Dr.pure hk4 ⟨this.1, fun h => by omega, fun _ => this.2⟩
theorem p_pick {b : List Int} {c : DCur} (hc : Cok b c) (l : List Int) (hl : 0 < l.length) : Dr b (fs_l01PickInt c l) fun x => x ∈ l := by
  unfold fs_l01PickInt
  rw [hc.eq]
  refine (p_below hc _).bind fun x1 k1 hx1 hk1 => ?_
  have a1 := hx1.2.2 (by omega)
  rw [dif_pos ⟨hx1.1, by dsimp only; omega⟩]
  dsimp only
  rw [hk1.eta]
  exact Dr.pure hk1 (List.getElem_mem _)
theorem p_once {b : List Int} {c : DCur} (hc : Cok b c) (n : Int) : Dr b (fs_l01Once c n) fun _ => True := by
  unfold fs_l01Once
  rw [hc.eq]
  refine (p_below hc _).bind fun x1 k1 hx1 hk1 => ?_
  dsimp only
  rw [hk1.eta]
  exact Dr.pure hk1 trivial
/-- A value is given, and it is of P. -/
def Gv {γ : Type} (P : γ → Prop) (o : Option γ) : Prop := ∃ y, o = some y ∧ P y
theorem Gv.pure {γ : Type} {P : γ → Prop} {y : γ} (h : P y) : Gv P (some y) := ⟨y, rfl, h⟩
theorem Gv.cond {γ : Type} {P : γ → Prop} {b : Bool} {x y : Option γ} (h1 : b = true → Gv P x) (h2 : b = false → Gv P y) : Gv P (bif b then x else y) := by
  cases b
  · exact h2 rfl
  · exact h1 rfl
theorem Gv.bind {α γ : Type} {Q : α → Prop} {P : γ → Prop} {f : Option α} {g : α → Option γ} (h : Gv Q f) (hg : ∀ y, Q y → Gv P (g y)) : Gv P (f.bind g) := by
  obtain ⟨y, rfl, hy⟩ := h
  exact hg y hy
theorem Gv.ite {γ : Type} {P : γ → Prop} {c : Prop} [Decidable c] {x y : Option γ} (hc : c) (h : Gv P x) : Gv P (if c then x else y) := by
  rw [if_pos hc]; exact h
theorem Gv.ift {γ : Type} {P : γ → Prop} {c : Prop} [Decidable c] {x y : Option γ} (hc : ¬ c) (h : Gv P y) : Gv P (if c then x else y) := by
  rw [if_neg hc]; exact h
theorem Gv.dif {γ : Type} {P : γ → Prop} {c : Prop} [Decidable c] {x : c → Option γ} {y : ¬ c → Option γ} (hc : c) (h : Gv P (x hc)) : Gv P (if h : c then x h else y h) := by
  rw [dif_pos hc]; exact h
theorem Gv.loop {α β γ : Type} {step : α → Option (α ⊕ β)} (n : Nat) (I : Nat → α → Prop) {P : γ → Prop} {K : β → Option γ} {x : α} {fuel : Nat} (h0 : I 0 x) (hf : n < fuel) (hs : ∀ k, k ≤ n → ∀ x, I k x → Gv (Sum.elim (fun y => k < n ∧ I (k + 1) y) (fun z => Gv P (K z))) (step x)) : Gv P ((iter step fuel x).bind K) := by
  have key : ∀ (m i fuel : Nat) (x : α), i + m = n → m < fuel → I i x → Gv P ((iter step fuel x).bind K) := by
    intro m
    induction m with
    | zero =>
      intro i fuel x hi hf hx
      match fuel, hf with
      | f + 1, _ =>
        obtain ⟨y, h1, h2⟩ := hs i (by omega) x hx
        unfold iter
        rw [h1]
        cases y with
        | inl y => exact absurd h2.1 (by omega)
        | inr z => exact h2
    | succ m ih =>
      intro i fuel x hi hf hx
      match fuel, hf with
      | f + 1, hf =>
        obtain ⟨y, h1, h2⟩ := hs i (by omega) x hx
        unfold iter
        rw [h1]
        cases y with
        | inl y => exact ih (i + 1) f y (by omega) (by omega) h2.2
        | inr z => exact h2
  exact key n 0 fuel x (by omega) hf h0
def itoaB (n : Int) : ByteArray := ⟨(Lib.itoa n).toArray⟩
theorem bl_ext {a b : ByteArray} (h : a.data.toList = b.data.toList) : a = b := by
  obtain ⟨⟨a⟩⟩ := a
  obtain ⟨⟨b⟩⟩ := b
  have h : a = b := h
  rw [h]
theorem bl_app (a b : ByteArray) : (a ++ b).data.toList = a.data.toList ++ b.data.toList := by
  rw [ByteArray.data_append, Array.toList_append]
theorem sz_app (a b : ByteArray) : (a ++ b).size = a.size + b.size := by
  show (a ++ b).data.size = a.data.size + b.data.size
  rw [ByteArray.data_append, Array.size_append]
theorem itoa_len {n : Int} (h1 : -9223372036854775808 ≤ n) (h2 : n ≤ 9223372036854775807) : (itoaB n).size ≤ 21 := Lib.itoa_length_le n h1 h2
theorem a15 (y : Int) : 0 ≤ bits .and .i64 y 15 ∧ bits .and .i64 y 15 ≤ 15 := by
  have e : bits .and .i64 y 15 = IntKind.i64.wrap ((BitVec.ofInt 64 y &&& BitVec.ofInt 64 15).toNat : Int) := rfl
  have h : (BitVec.ofInt 64 y &&& BitVec.ofInt 64 15).toNat ≤ 15 := by
    rw [BitVec.toNat_and]
    exact Nat.le_trans Nat.and_le_right (by decide)
  rw [e, IntKind.wrap_i64]
  omega
/-- The figure of x with weight 16^(7-j). -/
def dg (x : Int) (j : Nat) : Int := bits .and .i64 (x.fdiv (2 ^ (28 - 4 * j))) 15
def hexb (d : Int) : Int := if d < 10 then 48 + d else 87 + d
def wordL (x : Int) (n : Nat) : List Int := (List.range n).map fun j => hexb (dg x j)
def wordB (x : Int) : ByteArray := strOfNums (wordL x 8)
theorem wordL_succ (x : Int) (n : Nat) : wordL x (n + 1) = wordL x n ++ [hexb (dg x n)] := by
  unfold wordL
  rw [List.range_succ, List.map_append]
  rfl
theorem strOf_app (a b : List Int) : strOfNums (a ++ b) = strOfNums a ++ strOfNums b := by
  refine bl_ext ?_
  rw [bl_app]
  show (List.map _ _).toArray.toList = (List.map _ _).toArray.toList ++ (List.map _ _).toArray.toList
  simp
theorem strOf_size (a : List Int) : (strOfNums a).size = a.length := by
  show (List.map _ _).toArray.size = _
  simp
theorem wordL_len (x : Int) (n : Nat) : (wordL x n).length = n := by simp [wordL]
theorem cutHex : ∀ d : Nat, d < 16 → ((ByteArray.mk #[48, 49, 50, 51, 52, 53, 54, 55, 56, 57, 97, 98, 99, 100, 101, 102]).extract d (d + 1)).data.toList = (strOfNums [hexb (d : Int)]).data.toList := by
  intro d hd
  have : d = 0 ∨ d = 1 ∨ d = 2 ∨ d = 3 ∨ d = 4 ∨ d = 5 ∨ d = 6 ∨ d = 7 ∨ d = 8 ∨ d = 9 ∨ d = 10 ∨ d = 11 ∨ d = 12 ∨ d = 13 ∨ d = 14 ∨ d = 15 := by omega
  rcases this with rfl | rfl | rfl | rfl | rfl | rfl | rfl | rfl | rfl | rfl | rfl | rfl | rfl | rfl | rfl | rfl <;> rfl
theorem m_sIsWord (x : Int) : fs_IsWord x = some (inR x 0 4294967295) := by
  unfold fs_IsWord
  rw [m_in, bindS]
theorem m_iIsWord (x : Int) : fi_IsWord x = some (inR x 0 4294967295) := by
  unfold fi_IsWord
  rw [m_between, bindS]
def fmtW (x : Int) : ByteArray := bif inR x 0 4294967295 then wordB x else ByteArray.mk #[]
theorem m_iFormatWord (x : Int) : fi_FormatWord x = some (fmtW x) := by
  suffices g : Gv (fun y => y = fmtW x) (fi_FormatWord x) by
    obtain ⟨y, e, rfl⟩ := g
    exact e
  unfold fi_FormatWord fmtW
  rw [m_iIsWord, bindS]
  cases hx : inR x 0 4294967295 with
  | false => exact Gv.pure rfl
  | true =>
    rw [Bool.not_true, cond_false, cond_true]
    refine Gv.loop 8 (fun j z => z = ((x, strOfNums (wordL x j), 28 - 4 * (j : Int), ()), ())) rfl (bigLt (by omega)) ?_
    rintro j hj z rfl
    unfold Lfi_FormatWord_0
    dsimp only
    refine Gv.cond (fun h => ?_) (fun h => ?_)
    · have hj : j ≤ 7 := by simp at h; omega
      have hsh : (28 - 4 * (j : Int)).toNat = 28 - 4 * j := by omega
      rw [hsh, show min (28 - 4 * j) IntKind.i64.bits = 28 - 4 * j from Nat.min_eq_left (by show _ ≤ 64; omega)]
      refine Gv.ift (by omega) ?_
      have hd := a15 (x.fdiv (2 ^ (28 - 4 * j)))
      have hdg : bits .and .i64 (x.fdiv (2 ^ (28 - 4 * j))) 15 = dg x j := rfl
      rw [hdg] at hd ⊢
      have hw : IntKind.i64.wrap (dg x j + 1) = dg x j + 1 := w64 (by omega) (by omega)
      rw [hw]
      refine Gv.ite ⟨hd.1, by omega, by show dg x j + 1 ≤ 16; omega⟩ ?_
      have hcut : ((ByteArray.mk #[48, 49, 50, 51, 52, 53, 54, 55, 56, 57, 97, 98, 99, 100, 101, 102]).extract (dg x j).toNat (dg x j + 1).toNat) = strOfNums [hexb (dg x j)] := by
        have h1 : (dg x j + 1).toNat = (dg x j).toNat + 1 := by omega
        have h2 := cutHex (dg x j).toNat (by omega)
        rw [Int.toNat_of_nonneg hd.1] at h2
        rw [h1]
        exact bl_ext h2
      rw [hcut, strOf_size, strOf_size, wordL_len, okLen_t (by show j + 1 < _; omega), cond_true]
      refine Gv.pure ⟨by omega, ?_⟩
      rw [← strOf_app, ← wordL_succ, w64 (by omega) (by omega), show (28 : Int) - 4 * (j : Int) - 4 = 28 - 4 * ((j + 1 : Nat) : Int) by omega]
    · have : j = 8 := by simp at h; omega
      subst this
      exact Gv.pure (Gv.pure rfl)
theorem fmtW_size (x : Int) : (fmtW x).size ≤ 8 := by
  unfold fmtW
  cases inR x 0 4294967295 with
  | false => exact Nat.zero_le _
  | true =>
    show (strOfNums (wordL x 8)).size ≤ 8
    rw [strOf_size, wordL_len]
    exact Nat.le_refl _
theorem m_iFormatInt {n : Int} (h1 : -9223372036854775808 ≤ n) (h2 : n ≤ 9223372036854775807) : fi_FormatInt n = some (itoaB n) := by
  unfold fi_FormatInt x_Itoa
  rw [decide_eq_true h1, decide_eq_true h2]
  rfl
def R3 : List ByteArray := [(ByteArray.mk #[99, 108, 101, 97, 110]), (ByteArray.mk #[102, 105, 120, 101, 100]), (ByteArray.mk #[108, 111, 115, 116])]
def repB (a b c d : ByteArray) : ByteArray := ((((((a ++ (ByteArray.mk #[32, 97, 116, 32])) ++ b) ++ (ByteArray.mk #[32])) ++ c) ++ (ByteArray.mk #[32])) ++ d)
def fmtY (r : DRep) : ByteArray := bif inR r.data 0 4294967295 && inR r.code 0 2 then repB (itoaB r.id) (itoaB r.at_) (fmtW r.data) (R3.getD r.code.toNat (ByteArray.mk #[])) else ByteArray.mk #[]
def repOk (r : DRep) : Prop := (-9223372036854775808 ≤ r.id ∧ r.id ≤ 9223372036854775807) ∧ (-9223372036854775808 ≤ r.at_ ∧ r.at_ ≤ 9223372036854775807)
theorem R3_len {k : Nat} (h : k < R3.length) : (R3[k]'h).size ≤ 5 := by
  have h3 : k < 3 := h
  rcases (by omega : k = 0 ∨ k = 1 ∨ k = 2) with rfl | rfl | rfl <;> exact Nat.le_of_ble_eq_true rfl
theorem R3_get {k : Nat} (h : k < R3.length) : R3.getD k (ByteArray.mk #[]) = R3[k]'h := by
  rw [List.getD_eq_getElem?_getD, List.getElem?_eq_getElem h]
  rfl
theorem m_iFormatReply {r : DRep} (h : repOk r) : fi_FormatReply r = some (fmtY r) := by
  suffices g : Gv (fun y => y = fmtY r) (fi_FormatReply r) by
    obtain ⟨y, e, rfl⟩ := g
    exact e
  unfold fi_FormatReply fmtY
  rw [m_iIsWord, bindS]
  cases hx : inR r.data 0 4294967295 with
  | false => exact Gv.pure rfl
  | true =>
    rw [Bool.not_true, cond_false, m_between, bindS]
    cases hc : inR r.code 0 2 with
    | false => exact Gv.pure rfl
    | true =>
      rw [Bool.not_true, cond_false]
      have hc' := inR_iff.1 hc
      have hk : r.code.toNat < R3.length := by show r.code.toNat < 3; omega
      have he := R3_get hk
      have hs := R3_len hk
      simp only [R3] at hs
      refine Gv.dif ⟨hc'.1, hk⟩ (Gv.dif hk ?_)
      have s1 := itoa_len h.1.1 h.1.2
      have s2 := itoa_len h.2.1 h.2.2
      have s3 := fmtW_size r.data
      have c4 : (ByteArray.mk #[32, 97, 116, 32]).size = 4 := rfl
      have c1 : (ByteArray.mk #[32]).size = 1 := rfl
      dsimp only
      rw [m_iFormatInt h.1.1 h.1.2, bindS, okLen_t (by omega), cond_true, m_iFormatInt h.2.1 h.2.2, bindS, okLen_t (by simp only [sz_app]; omega), cond_true, okLen_t (by simp only [sz_app]; omega), cond_true,
        m_iFormatWord, bindS, okLen_t (by simp only [sz_app]; omega), cond_true, okLen_t (by simp only [sz_app]; omega), cond_true, okLen_t (by simp only [sz_app]; omega), cond_true]
      refine Gv.pure ?_
      rw [he]
      rfl
theorem t_l02Word {b : List Int} {c : DCur} (hc : Cok b c) : Dr b (fs_l02Word c) fun _ => True := by
  unfold fs_l02Word
  rw [hc.eq]
  refine (p_below hc 4).bind fun x c1 hx hc1 => ?_
  dsimp only
  rw [hc1.eta]
  cases hb : (x == (0 : Int)) with
  | true =>
    rw [cond_true]
    refine (p_pick hc1 _ (by decide)).bind fun y c2 _ hc2 => ?_
    dsimp only
    rw [hc2.eta]
    exact Dr.pure hc2 trivial
  | false =>
    rw [cond_false]
    cases hb1 : (x == (1 : Int)) with
    | true =>
      rw [cond_true]
      refine (p_below hc1 200).bind fun y c2 _ hc2 => ?_
      dsimp only
      rw [hc2.eta]
      exact Dr.pure hc2 trivial
    | false =>
      rw [cond_false]
      refine (p_below hc1 65536).bind fun y c2 _ hc2 => ?_
      dsimp only
      rw [hc2.eta]
      refine (p_below hc2 65536).bind fun y c3 _ hc3 => ?_
      dsimp only
      rw [hc3.eta]
      exact Dr.pure hc3 trivial
theorem t_l02Any {b : List Int} {c : DCur} (hc : Cok b c) : Dr b (fs_l02Any c) fun _ => True := by
  unfold fs_l02Any
  rw [hc.eq]
  refine (p_once hc 8).bind fun x c1 _ hc1 => ?_
  dsimp only
  rw [hc1.eta]
  cases x with
  | true =>
    rw [cond_true]
    refine (p_pick hc1 _ (by decide)).bind fun y c2 _ hc2 => ?_
    dsimp only
    rw [hc2.eta]
    exact Dr.pure hc2 trivial
  | false =>
    rw [cond_false]
    refine (t_l02Word hc1).bind fun y c2 _ hc2 => ?_
    dsimp only
    rw [hc2.eta]
    exact Dr.pure hc2 trivial
theorem p_DrawFormatReply (l : List Int) (h : l.length ≤ 1073741823) : Gv repOk (fs_DrawFormatReply l) := by
  unfold fs_DrawFormatReply
  obtain ⟨h0, e0⟩ := p_new l h
  rw [e0, bindS]
  have hc := new_cok l h0 h
  refine Dr.last (Q := Gv repOk) (p_below hc 50) fun a c1 ha hc1 => ?_
  dsimp only
  rw [hc1.eta]
  refine Dr.last (Q := Gv repOk) (p_below hc1 500) fun b c2 hb hc2 => ?_
  dsimp only
  rw [hc2.eta]
  refine Dr.last (Q := Gv repOk) (t_l02Any hc2) fun d c3 _ hc3 => ?_
  dsimp only
  rw [hc3.eta]
  refine Dr.last (Q := Gv repOk) (p_below hc3 3) fun e c4 he hc4 => ?_
  dsimp only
  rw [hc4.eta]
  have h1 := ha.2.2 (by omega)
  have h2 := hb.2.2 (by omega)
  have hw : IntKind.i64.wrap (1 + a) = 1 + a := w64 (by omega) (by omega)
  refine Dr.last (Q := Gv repOk) (p_once hc4 10) fun f c5 _ hc5 => ?_
  dsimp only
  rw [hc5.eta]
  cases f with
  | true =>
    rw [cond_true]
    refine Dr.last (Q := Gv repOk) (p_pick hc5 _ (by decide)) fun g c6 _ hc6 => ?_
    dsimp only
    exact ⟨_, rfl, ⟨by dsimp only; omega, by dsimp only; omega⟩, ⟨by dsimp only; omega, by dsimp only; omega⟩⟩
  | false => exact ⟨_, rfl, ⟨by dsimp only; omega, by dsimp only; omega⟩, ⟨by dsimp only; omega, by dsimp only; omega⟩⟩
theorem itoa3 : itoaB 3 = ByteArray.mk #[51] := by
  refine bl_ext ?_
  show Lib.itoa 3 = [51]
  unfold Lib.itoa
  rw [if_neg (by omega), Lib.decDigits]
  rfl
theorem itoa40 : itoaB 40 = ByteArray.mk #[52, 48] := by
  refine bl_ext ?_
  show Lib.itoa 40 = [52, 48]
  unfold Lib.itoa
  rw [if_neg (by omega), Lib.decDigits, dif_neg (by omega), Lib.decDigits]
  rfl
theorem fmtW31 : (fmtW 31).data.toList = [48, 48, 48, 48, 48, 48, 49, 102] := by kernel_rfl
theorem the_one : (fmtY ⟨3, 40, 31, 1⟩).toList = (ByteArray.mk #[51, 32, 97, 116, 32, 52, 48, 32, 48, 48, 48, 48, 48, 48, 49, 102, 32, 102, 105, 120, 101, 100]).toList := by
  refine congrArg ByteArray.toList ?_
  have e : fmtY ⟨3, 40, 31, 1⟩ = repB (itoaB 3) (itoaB 40) (fmtW 31) (ByteArray.mk #[102, 105, 120, 101, 100]) := rfl
  rw [e, itoa3, itoa40]
  refine bl_ext ?_
  unfold repB
  simp only [bl_app, fmtW31]
  rfl
theorem p_FnReplyText_ (l : List Int) (h : l.length ≤ 1048576) : fl_FnReplyText l = some true := by
  obtain ⟨r, e1, hr⟩ := p_DrawFormatReply l (by omega)
  have h1 : repOk ⟨3, 40, 31, 1⟩ := ⟨⟨by dsimp only; omega, by dsimp only; omega⟩, ⟨by dsimp only; omega, by dsimp only; omega⟩⟩
  have e2 : (fi_FormatReply (⟨(3 : Int), (40 : Int), (31 : Int), (1 : Int)⟩ : DRep)).bind (fun y5 => some (y5.toList == (ByteArray.mk #[51, 32, 97, 116, 32, 52, 48, 32, 48, 48, 48, 48, 48, 48, 49, 102, 32, 102, 105, 120, 101, 100]).toList)) = some true := by
    rw [m_iFormatReply h1, bindS, the_one, beq_self_eq_true]
  suffices g : Gv (fun y => y = true) (fl_FnReplyText l) by
    obtain ⟨y, e, rfl⟩ := g
    exact e
  have e2 : Gv (fun y => y = true) ((fi_FormatReply (⟨(3 : Int), (40 : Int), (31 : Int), (1 : Int)⟩ : DRep)).bind (fun y5 => some (y5.toList == (ByteArray.mk #[51, 32, 97, 116, 32, 52, 48, 32, 48, 48, 48, 48, 48, 48, 49, 102, 32, 102, 105, 120, 101, 100]).toList))) := ⟨_, e2, rfl⟩
  unfold fl_FnReplyText fl_big
  rw [bindS, decide_eq_false (by omega), cond_false, e1, bindS, m_iFormatReply hr, bindS, m_sIsWord, bindS]
  cases hx : inR r.data 0 4294967295 with
  | false =>
    have : fmtY r = ByteArray.mk #[] := by unfold fmtY; rw [hx]; rfl
    rw [this, beq_self_eq_true]
    exact e2
  | true =>
    rw [Bool.not_true, cond_false]
    refine Gv.cond (fun hb => ?_) fun hb1 => Gv.cond (fun hb => ?_) fun hb2 => ?_
    · have hn : inR r.code 0 2 = false := by
        cases hc : inR r.code 0 2 with
        | false => rfl
        | true => have := inR_iff.1 hc; simp at hb; omega
      have : fmtY r = ByteArray.mk #[] := by unfold fmtY; rw [hx, hn]; rfl
      rw [this, beq_self_eq_true]
      exact e2
    · have hn : inR r.code 0 2 = false := by
        cases hc : inR r.code 0 2 with
        | false => rfl
        | true => have := inR_iff.1 hc; simp at hb; omega
      have : fmtY r = ByteArray.mk #[] := by unfold fmtY; rw [hx, hn]; rfl
      rw [this, beq_self_eq_true]
      exact e2
    · have hc : inR r.code 0 2 = true := inR_iff.2 (by simp at hb1 hb2; omega)
      have hc' := inR_iff.1 hc
      have hk : r.code.toNat < R3.length := by show r.code.toNat < 3; omega
      have he := R3_get hk
      have hs := R3_len hk
      have hy : fmtY r = repB (itoaB r.id) (itoaB r.at_) (fmtW r.data) (R3[r.code.toNat]'hk) := by unfold fmtY; rw [hx, hc, he]; rfl
      simp only [R3] at hs
      refine Gv.dif ⟨hc'.1, hk⟩ (Gv.dif hk ?_)
      have s1 := itoa_len hr.1.1 hr.1.2
      have s2 := itoa_len hr.2.1 hr.2.2
      have s3 := fmtW_size r.data
      have c4 : (ByteArray.mk #[32, 97, 116, 32]).size = 4 := rfl
      have c1 : (ByteArray.mk #[32]).size = 1 := rfl
      dsimp only
      rw [m_iFormatInt hr.1.1 hr.1.2, bindS, okLen_t (by omega), cond_true, m_iFormatInt hr.2.1 hr.2.2, bindS, okLen_t (by simp only [sz_app]; omega), cond_true, okLen_t (by simp only [sz_app]; omega), cond_true,
        m_iFormatWord, bindS, okLen_t (by simp only [sz_app]; omega), cond_true, okLen_t (by simp only [sz_app]; omega), cond_true, okLen_t (by simp only [sz_app]; omega), cond_true, hy]
      refine Gv.cond (fun _ => e2) fun hf => ?_
      exact absurd ((beq_self_eq_true _).symm.trans hf) (by decide)
theorem p_FnReplyText (l : List Int) : fl_FnReplyText l = some true := by
  by_cases h : l.length ≤ 1048576
  · exact p_FnReplyText_ l h
  · unfold fl_FnReplyText fl_big
    rw [bindS, decide_eq_true (by omega), cond_true]
theorem law_FnReplyText (v0 : Value) (w : World) (r0 : RdL .u8 (fun x : Int => 0 ≤ x ∧ x ≤ 255) w v0) (hQ : Qw w) : Calls Tryd.prog 4 #[v0] w fun e w' => e = .returned (.bool true) ∧ Below w.heap.size w w' := by
  obtain ⟨l, hl, _, h0⟩ := r0
  exact law_of ok_fl_FnReplyText (ctrT_run (ai := [(false, .sl .u8)]) (x := (l, ())) (by kernel_rfl) (p_FnReplyText l)) (args1 h0) (hd_top hQ)
end Go.Proofs.YtnmllpfchcfonaaDoor
