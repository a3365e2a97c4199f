/-
  Plain laws. Nothing here is a claim.
-/
import Derived.Test.YtnmllpfchcfonaaDoorVZ
import Derived.Test.YtnmllpfchcfonaaDoorOpenV
import Derived.Test.YtnmllpfchcfonaaDoorG1
namespace Go.Proofs.YtnmllpfchcfonaaDoor
open Go.RowKit
set_option linter.unusedVariables false
set_option linter.unusedSimpArgs false
set_option maxRecDepth 100000

theorem w64 {n : Int} (h1 : -9223372036854775808 ≤ n) (h2 : n < 9223372036854775808) : IntKind.i64.wrap n = n := by
  rw [IntKind.wrap_i64]; omega
theorem bindS {α β : Type} (x : α) (f : α → Option β) : (some x).bind f = f x := rfl
theorem okLen_t {n : Nat} (h : n < 1073741824) : okLen n = true := decide_eq_true h
theorem bigLt {n : Nat} (h : n < 1073741824) : n < big := by unfold big; omega
def inR (x a b : Int) : Bool := decide (a ≤ x) && decide (x ≤ b)
theorem inR_iff {x a b : Int} : inR x a b = true ↔ a ≤ x ∧ x ≤ b := by simp [inR]
theorem m_between (x a b : Int) : fi_between x a b = some (inR x a b) := by
  unfold fi_between inR
  by_cases h : a ≤ x <;> simp [h]
theorem m_in (x a b : Int) : fs_l01In x a b = some (inR x a b) := m_between x a b
/-- A value is given, and it is of P. -/
def Gv {γ : Type} (P : γ → Prop) (o : Option γ) : Prop := ∃ y, o = some y ∧ P y
theorem Gv.pure {γ : Type} {P : γ → Prop} {y : γ} (h : P y) : Gv P (some y) := ⟨y, rfl, h⟩
theorem Gv.cond {γ : Type} {P : γ → Prop} {b : Bool} {x y : Option γ} (h1 : b = true → Gv P x) (h2 : b = false → Gv P y) : Gv P (bif b then x else y) := by
  cases b
  · exact h2 rfl
  · exact h1 rfl
theorem Gv.bind {α γ : Type} {Q : α → Prop} {P : γ → Prop} {f : Option α} {g : α → Option γ} (h : Gv Q f) (hg : ∀ y, Q y → Gv P (g y)) : Gv P (f.bind g) := by
  obtain ⟨y, rfl, hy⟩ := h
  exact hg y hy
theorem Gv.ite {γ : Type} {P : γ → Prop} {c : Prop} [Decidable c] {x y : Option γ} (hc : c) (h : Gv P x) : Gv P (if c then x else y) := by
  rw [if_pos hc]; exact h
theorem Gv.ift {γ : Type} {P : γ → Prop} {c : Prop} [Decidable c] {x y : Option γ} (hc : ¬ c) (h : Gv P y) : Gv P (if c then x else y) := by
  rw [if_neg hc]; exact h
theorem Gv.dif {γ : Type} {P : γ → Prop} {c : Prop} [Decidable c] {x : c → Option γ} {y : ¬ c → Option γ} (hc : c) (h : Gv P (x hc)) : Gv P (if h : c then x h else y h) := by
  rw [dif_pos hc]; exact h
theorem Gv.loop {α β γ : Type} {step : α → Option (α ⊕ β)} (n : Nat) (I : Nat → α → Prop) {P : γ → Prop} {K : β → Option γ} {x : α} {fuel : Nat} (h0 : I 0 x) (hf : n < fuel) (hs : ∀ k, k ≤ n → ∀ x, I k x → Gv (Sum.elim (fun y => k < n ∧ I (k + 1) y) (fun z => Gv P (K z))) (step x)) : Gv P ((iter step fuel x).bind K) := by
  have key : ∀ (m i fuel : Nat) (x : α), i + m = n → m < fuel → I i x → Gv P ((iter step fuel x).bind K) := by
    intro m
    induction m with
    | zero =>
      intro i fuel x hi hf hx
      match fuel, hf with
      | f + 1, _ =>
        obtain ⟨y, h1, h2⟩ := hs i (by omega) x hx
        unfold iter
        rw [h1]
        cases y with
        | inl y => exact absurd h2.1 (by omega)
        | inr z => exact h2
    | succ m ih =>
      intro i fuel x hi hf hx
      match fuel, hf with
      | f + 1, hf =>
        obtain ⟨y, h1, h2⟩ := hs i (by omega) x hx
        unfold iter
        rw [h1]
        cases y with
        | inl y => exact ih (i + 1) f y (by omega) (by omega) h2.2
        | inr z => exact h2
  exact key n 0 fuel x (by omega) hf h0
def itoaB (n : Int) : ByteArray := ⟨(Lib.itoa n).toArray⟩
theorem bl_ext {a b : ByteArray} (h : a.data.toList = b.data.toList) : a = b := by
  obtain ⟨⟨a⟩⟩ := a
  obtain ⟨⟨b⟩⟩ := b
  have h : a = b := h
  rw [h]
theorem bl_app (a b : ByteArray) : (a ++ b).data.toList = a.data.toList ++ b.data.toList := by
  rw [ByteArray.data_append, Array.toList_append]
theorem sz_app (a b : ByteArray) : (a ++ b).size = a.size + b.size := by
  show (a ++ b).data.size = a.data.size + b.data.size
  rw [ByteArray.data_append, Array.size_append]
def dd (v : Nat) : List UInt8 := if v = 0 then [] else Lib.decDigits v
theorem dd_step {v : Nat} (h : v ≠ 0) : dd v = dd (v / 10) ++ [UInt8.ofNat (48 + v % 10)] := by
  unfold dd
  rw [if_neg h, Lib.decDigits]
  by_cases h10 : v < 10
  · rw [dif_pos h10, if_pos (by omega), Nat.mod_eq_of_lt h10]; rfl
  · rw [dif_neg h10, if_neg (by omega)]
theorem m_figure {d : Nat} (h : d < 10) : fs_l01Figure (d : Int) = some (48 + (d : Int)) := by
  unfold fs_l01Figure
  rw [decide_eq_true (by omega), cond_true, w64 (by omega) (by omega), IntKind.wrap_u8]
  congr 1
  omega
theorem strOf1 (d : Nat) : (strOfNums [48 + (d : Int)]).data.toList = [UInt8.ofNat (48 + d)] := by
  have : (48 + (d : Int)).toNat = 48 + d := by omega
  show [UInt8.ofNat (48 + (d : Int)).toNat] = _
  rw [this]
theorem strOf1_size (x : Int) : (strOfNums [x]).size = 1 := rfl
theorem tm10 (v : Nat) : (v : Int).tmod 10 = ((v % 10 : Nat) : Int) ∧ (v : Int).tdiv 10 = ((v / 10 : Nat) : Int) := by
  constructor
  · rw [Int.tmod_eq_emod_of_nonneg (by omega)]; omega
  · rw [Int.tdiv_eq_ediv_of_nonneg (by omega)]; omega
theorem m_sFormatInt {n : Int} (h1 : -9223372036854775808 ≤ n) (h2 : n ≤ 9223372036854775807) : fs_FormatInt n = some (itoaB n) := by
  suffices g : Gv (fun y => y = itoaB n) (fs_FormatInt n) by
    obtain ⟨y, e, rfl⟩ := g
    exact e
  unfold fs_FormatInt
  refine Gv.cond (fun h => Gv.pure ?_) fun h0 => ?_
  · have h : n = 0 := by simpa using h
    subst h
    refine bl_ext ?_
    show [48] = Lib.itoa 0
    unfold Lib.itoa
    rw [if_neg (by omega), Lib.decDigits]
    rfl
  have h0 : n ≠ 0 := by simpa using h0
  have p20 : (10 : Nat) ^ 20 = 100000000000000000000 := by rfl
  have hit : (Lib.itoa n) = if n < 0 then 45 :: dd n.natAbs else dd n.natAbs := by
    have e : dd n.natAbs = Lib.decDigits n.natAbs := by unfold dd; rw [if_neg (by omega)]
    rw [e]
    unfold Lib.itoa
    by_cases hn : n < 0
    · rw [if_pos hn, if_pos hn]
    · rw [if_neg hn, if_neg hn, show n.toNat = n.natAbs by omega]
  refine Gv.loop 20 (fun k x => ∃ (v : Nat) (s : ByteArray), x = (((if n < 0 then -(v : Int) else (v : Int)), decide (n < 0), s, ()), ()) ∧ dd v ++ s.data.toList = dd n.natAbs ∧ v < 10 ^ (20 - k) ∧ s.size ≤ k ∧ v ≤ 9223372036854775808) ⟨n.natAbs, ByteArray.mk #[], ?_, by simp, by rw [p20]; omega, Nat.le_refl _, by omega⟩ (bigLt (by omega)) ?_
  · by_cases hn : n < 0
    · rw [if_pos hn, show -(n.natAbs : Int) = n by omega]
    · rw [if_neg hn, show (n.natAbs : Int) = n by omega]
  rintro k hk x ⟨v, s, rfl, hd, hv, hs, hu⟩
  obtain ⟨t1, t2⟩ := tm10 v
  unfold Lfs_FormatInt_0
  dsimp only
  refine Gv.cond (fun h => ?_) (fun h => ?_)
  · have hv0 : v ≠ 0 := by
      rintro rfl
      by_cases hn : n < 0 <;> simp [hn] at h
    have hk20 : k < 20 := by
      rcases Nat.lt_or_ge k 20 with h' | h'
      · exact h'
      · have : 20 - k = 0 := by omega
        rw [this] at hv
        omega
    have hv' : v / 10 < 10 ^ (20 - (k + 1)) := by
      have : 20 - k = (20 - (k + 1)) + 1 := by omega
      rw [this, Nat.pow_succ] at hv
      omega
    have hdd := dd_step hv0
    have fin : ∀ w : ByteArray, w.data.toList = [UInt8.ofNat (48 + v % 10)] → w.size = 1 → dd (v / 10) ++ (w ++ s).data.toList = dd n.natAbs ∧ (w ++ s).size ≤ k + 1 := by
      intro w hw hw1
      rw [bl_app, hw, ← List.append_assoc, ← hdd, sz_app, hw1]
      exact ⟨hd, by omega⟩
    have hm : v % 10 < 10 := Nat.mod_lt _ (by omega)
    have ho : ∀ w : ByteArray, w.size = 1 → okLen (w.size + s.size) = true := fun w hw => okLen_t (by omega)
    by_cases hn : n < 0
    · simp only [hn, if_true]
      rw [Int.neg_tmod, Int.neg_tdiv, t1, t2]
      rw [w64 (n := 0 - -((v % 10 : Nat) : Int)) (by omega) (by omega), w64 (n := -((v / 10 : Nat) : Int)) (by omega) (by omega), show (0 : Int) - -((v % 10 : Nat) : Int) = ((v % 10 : Nat) : Int) by omega, m_figure hm, bindS]
      refine Gv.cond (fun hb => ?_) fun hb => ?_
      · obtain ⟨f1, f2⟩ := fin _ (strOf1 (v % 10)) (strOf1_size _)
        rw [ho _ (strOf1_size _), cond_true]
        exact Gv.pure ⟨hk20, v / 10, _, by simp only [hn, if_true], f1, hv', f2, by omega⟩
      · have hz : v % 10 = 0 := by simp at hb; omega
        have e0 : -((v % 10 : Nat) : Int) = ((v % 10 : Nat) : Int) := by omega
        rw [e0, m_figure hm, bindS]
        obtain ⟨f1, f2⟩ := fin _ (strOf1 (v % 10)) (strOf1_size _)
        rw [ho _ (strOf1_size _), cond_true]
        exact Gv.pure ⟨hk20, v / 10, _, by simp only [hn, if_true], f1, hv', f2, by omega⟩
    · simp only [hn, if_false]
      rw [t1, t2, decide_eq_false (show ¬ (((v % 10 : Nat) : Int) < 0) by omega), cond_false, w64 (n := ((v / 10 : Nat) : Int)) (by omega) (by omega), m_figure hm, bindS]
      obtain ⟨f1, f2⟩ := fin _ (strOf1 (v % 10)) (strOf1_size _)
      rw [ho _ (strOf1_size _), cond_true]
      exact Gv.pure ⟨hk20, v / 10, _, by simp only [hn, if_false], f1, hv', f2, by omega⟩
  · have hv0 : v = 0 := by
      by_cases hn : n < 0 <;> simp [hn] at h <;> omega
    subst hv0
    have hd : s.data.toList = dd n.natAbs := by rw [← hd]; rfl
    refine Gv.pure ?_
    simp only [Sum.elim_inl, Sum.elim_inr]
    by_cases hn : n < 0
    · rw [decide_eq_true hn, cond_true, okLen_t (by show 1 + s.size < _; omega), cond_true]
      refine Gv.pure (bl_ext ?_)
      rw [bl_app, hd]
      show 45 :: dd n.natAbs = Lib.itoa n
      rw [hit, if_pos hn]
    · rw [decide_eq_false hn, cond_false]
      refine Gv.pure (bl_ext ?_)
      rw [hd]
      show dd n.natAbs = Lib.itoa n
      rw [hit, if_neg hn]
theorem itoa_len {n : Int} (h1 : -9223372036854775808 ≤ n) (h2 : n ≤ 9223372036854775807) : (itoaB n).size ≤ 21 := Lib.itoa_length_le n h1 h2
theorem a15 (y : Int) : 0 ≤ bits .and .i64 y 15 ∧ bits .and .i64 y 15 ≤ 15 := by
  have e : bits .and .i64 y 15 = IntKind.i64.wrap ((BitVec.ofInt 64 y &&& BitVec.ofInt 64 15).toNat : Int) := rfl
  have h : (BitVec.ofInt 64 y &&& BitVec.ofInt 64 15).toNat ≤ 15 := by
    rw [BitVec.toNat_and]
    exact Nat.le_trans Nat.and_le_right (by decide)
  rw [e, IntKind.wrap_i64]
  omega
/-- The figure of x with weight 16^(7-j). -/
def dg (x : Int) (j : Nat) : Int := bits .and .i64 (x.fdiv (2 ^ (28 - 4 * j))) 15
def hexb (d : Int) : Int := if d < 10 then 48 + d else 87 + d
def wordL (x : Int) (n : Nat) : List Int := (List.range n).map fun j => hexb (dg x j)
def wordB (x : Int) : ByteArray := strOfNums (wordL x 8)
theorem wordL_succ (x : Int) (n : Nat) : wordL x (n + 1) = wordL x n ++ [hexb (dg x n)] := by
  unfold wordL
  rw [List.range_succ, List.map_append]
  rfl
theorem m_figure16 {d : Int} (h0 : 0 ≤ d) (h : d ≤ 15) : fs_l01Figure d = some (hexb d) := by
  unfold fs_l01Figure hexb
  by_cases hd : d < 10
  · rw [decide_eq_true hd, cond_true, if_pos hd, w64 (by omega) (by omega), IntKind.wrap_u8]
    congr 1
    omega
  · rw [decide_eq_false hd, cond_false, if_neg hd, w64 (n := 97 + d) (by omega) (by omega), w64 (by omega) (by omega), IntKind.wrap_u8]
    congr 1
    omega
theorem shift_eq (x : Int) {j : Nat} (h : j ≤ 7) : (IntKind.u64.wrap (IntKind.i64.wrap ((4 : Int) * (7 - (j : Int))))) = ((28 - 4 * j : Nat) : Int) := by
  rw [w64 (by omega) (by omega), IntKind.wrap_u64]
  omega
theorem strOf_app (a b : List Int) : strOfNums (a ++ b) = strOfNums a ++ strOfNums b := by
  refine bl_ext ?_
  rw [bl_app]
  show (List.map _ _).toArray.toList = (List.map _ _).toArray.toList ++ (List.map _ _).toArray.toList
  simp
theorem strOf_size (a : List Int) : (strOfNums a).size = a.length := by
  show (List.map _ _).toArray.size = _
  simp
theorem wordL_len (x : Int) (n : Nat) : (wordL x n).length = n := by simp [wordL]
theorem cutHex : ∀ d : Nat, d < 16 → ((ByteArray.mk #[48, 49, 50, 51, 52, 53, 54, 55, 56, 57, 97, 98, 99, 100, 101, 102]).extract d (d + 1)).data.toList = (strOfNums [hexb (d : Int)]).data.toList := by
  intro d hd
  have : d = 0 ∨ d = 1 ∨ d = 2 ∨ d = 3 ∨ d = 4 ∨ d = 5 ∨ d = 6 ∨ d = 7 ∨ d = 8 ∨ d = 9 ∨ d = 10 ∨ d = 11 ∨ d = 12 ∨ d = 13 ∨ d = 14 ∨ d = 15 := by omega
  rcases this with rfl | rfl | rfl | rfl | rfl | rfl | rfl | rfl | rfl | rfl | rfl | rfl | rfl | rfl | rfl | rfl <;> rfl
theorem m_sIsWord (x : Int) : fs_IsWord x = some (inR x 0 4294967295) := by
  unfold fs_IsWord
  rw [m_in, bindS]
theorem m_iIsWord (x : Int) : fi_IsWord x = some (inR x 0 4294967295) := by
  unfold fi_IsWord
  rw [m_between, bindS]
def fmtW (x : Int) : ByteArray := bif inR x 0 4294967295 then wordB x else ByteArray.mk #[]
theorem m_sFormatWord (x : Int) : fs_FormatWord x = some (fmtW x) := by
  suffices g : Gv (fun y => y = fmtW x) (fs_FormatWord x) by
    obtain ⟨y, e, rfl⟩ := g
    exact e
  unfold fs_FormatWord fmtW
  rw [m_sIsWord, bindS]
  cases hx : inR x 0 4294967295 with
  | false => exact Gv.pure rfl
  | true =>
    rw [Bool.not_true, cond_false, cond_true]
    refine Gv.loop 8 (fun j z => z = ((x, (), 7 - (j : Int), ()), (wordL x j, ()))) rfl (bigLt (by omega)) ?_
    rintro j hj z rfl
    unfold Lfs_FormatWord_0
    dsimp only
    refine Gv.cond (fun h => ?_) (fun h => ?_)
    · have hj : j ≤ 7 := by simp at h; omega
      rw [shift_eq x hj, Int.toNat_natCast, show min (28 - 4 * j) IntKind.i64.bits = 28 - 4 * j from Nat.min_eq_left (by show _ ≤ 64; omega)]
      refine Gv.ift (by omega) ?_
      have hd := a15 (x.fdiv (2 ^ (28 - 4 * j)))
      rw [m_figure16 hd.1 hd.2, bindS, wordL_len, okLen_t (by show j + 1 < _; omega), cond_true]
      refine Gv.pure ⟨by omega, ?_⟩
      rw [wordL_succ, w64 (by omega) (by omega), show (7 : Int) - (j : Int) - 1 = 7 - ((j + 1 : Nat) : Int) by omega]
      rfl
    · have : j = 8 := by simp at h; omega
      subst this
      exact Gv.pure (Gv.pure rfl)
theorem m_iFormatWord (x : Int) : fi_FormatWord x = some (fmtW x) := by
  suffices g : Gv (fun y => y = fmtW x) (fi_FormatWord x) by
    obtain ⟨y, e, rfl⟩ := g
    exact e
  unfold fi_FormatWord fmtW
  rw [m_iIsWord, bindS]
  cases hx : inR x 0 4294967295 with
  | false => exact Gv.pure rfl
  | true =>
    rw [Bool.not_true, cond_false, cond_true]
    refine Gv.loop 8 (fun j z => z = ((x, strOfNums (wordL x j), 28 - 4 * (j : Int), ()), ())) rfl (bigLt (by omega)) ?_
    rintro j hj z rfl
    unfold Lfi_FormatWord_0
    dsimp only
    refine Gv.cond (fun h => ?_) (fun h => ?_)
    · have hj : j ≤ 7 := by simp at h; omega
      have hsh : (28 - 4 * (j : Int)).toNat = 28 - 4 * j := by omega
      rw [hsh, show min (28 - 4 * j) IntKind.i64.bits = 28 - 4 * j from Nat.min_eq_left (by show _ ≤ 64; omega)]
      refine Gv.ift (by omega) ?_
      have hd := a15 (x.fdiv (2 ^ (28 - 4 * j)))
      have hdg : bits .and .i64 (x.fdiv (2 ^ (28 - 4 * j))) 15 = dg x j := rfl
      rw [hdg] at hd ⊢
      have hw : IntKind.i64.wrap (dg x j + 1) = dg x j + 1 := w64 (by omega) (by omega)
      rw [hw]
      refine Gv.ite ⟨hd.1, by omega, by show dg x j + 1 ≤ 16; omega⟩ ?_
      have hcut : ((ByteArray.mk #[48, 49, 50, 51, 52, 53, 54, 55, 56, 57, 97, 98, 99, 100, 101, 102]).extract (dg x j).toNat (dg x j + 1).toNat) = strOfNums [hexb (dg x j)] := by
        have h1 : (dg x j + 1).toNat = (dg x j).toNat + 1 := by omega
        have h2 := cutHex (dg x j).toNat (by omega)
        rw [Int.toNat_of_nonneg hd.1] at h2
        rw [h1]
        exact bl_ext h2
      rw [hcut, strOf_size, strOf_size, wordL_len, okLen_t (by show j + 1 < _; omega), cond_true]
      refine Gv.pure ⟨by omega, ?_⟩
      rw [← strOf_app, ← wordL_succ, w64 (by omega) (by omega), show (28 : Int) - 4 * (j : Int) - 4 = 28 - 4 * ((j + 1 : Nat) : Int) by omega]
    · have : j = 8 := by simp at h; omega
      subst this
      exact Gv.pure (Gv.pure rfl)
theorem fmtW_size (x : Int) : (fmtW x).size ≤ 8 := by
  unfold fmtW
  cases inR x 0 4294967295 with
  | false => exact Nat.zero_le _
  | true =>
    show (strOfNums (wordL x 8)).size ≤ 8
    rw [strOf_size, wordL_len]
    exact Nat.le_refl _
theorem m_iFormatInt {n : Int} (h1 : -9223372036854775808 ≤ n) (h2 : n ≤ 9223372036854775807) : fi_FormatInt n = some (itoaB n) := by
  unfold fi_FormatInt x_Itoa
  rw [decide_eq_true h1, decide_eq_true h2]
  rfl
def R3 : List ByteArray := [(ByteArray.mk #[99, 108, 101, 97, 110]), (ByteArray.mk #[102, 105, 120, 101, 100]), (ByteArray.mk #[108, 111, 115, 116])]
def repB (a b c d : ByteArray) : ByteArray := ((((((a ++ (ByteArray.mk #[32, 97, 116, 32])) ++ b) ++ (ByteArray.mk #[32])) ++ c) ++ (ByteArray.mk #[32])) ++ d)
def fmtY (r : DRep) : ByteArray := bif inR r.data 0 4294967295 && inR r.code 0 2 then repB (itoaB r.id) (itoaB r.at_) (fmtW r.data) (R3.getD r.code.toNat (ByteArray.mk #[])) else ByteArray.mk #[]
def repOk (r : DRep) : Prop := (-9223372036854775808 ≤ r.id ∧ r.id ≤ 9223372036854775807) ∧ (-9223372036854775808 ≤ r.at_ ∧ r.at_ ≤ 9223372036854775807)
theorem R3_len {k : Nat} (h : k < R3.length) : (R3[k]'h).size ≤ 5 := by
  have h3 : k < 3 := h
  rcases (by omega : k = 0 ∨ k = 1 ∨ k = 2) with rfl | rfl | rfl <;> exact Nat.le_of_ble_eq_true rfl
theorem R3_get {k : Nat} (h : k < R3.length) : R3.getD k (ByteArray.mk #[]) = R3[k]'h := by
  rw [List.getD_eq_getElem?_getD, List.getElem?_eq_getElem h]
  rfl
theorem m_sFormatReply {r : DRep} (h : repOk r) : fs_FormatReply r = some (fmtY r) := by
  suffices g : Gv (fun y => y = fmtY r) (fs_FormatReply r) by
    obtain ⟨y, e, rfl⟩ := g
    exact e
  unfold fs_FormatReply fmtY
  rw [m_sIsWord, bindS]
  cases hx : inR r.data 0 4294967295 with
  | false => exact Gv.pure rfl
  | true =>
    rw [Bool.not_true, cond_false, m_in, bindS]
    cases hc : inR r.code 0 2 with
    | false => exact Gv.pure rfl
    | true =>
      rw [Bool.not_true, cond_false]
      have hc' := inR_iff.1 hc
      have hk : r.code.toNat < R3.length := by show r.code.toNat < 3; omega
      have he := R3_get hk
      have hs := R3_len hk
      simp only [R3] at hs
      refine Gv.dif ⟨hc'.1, hk⟩ (Gv.dif hk ?_)
      have s1 := itoa_len h.1.1 h.1.2
      have s2 := itoa_len h.2.1 h.2.2
      have s3 := fmtW_size r.data
      have c4 : (ByteArray.mk #[32, 97, 116, 32]).size = 4 := rfl
      have c1 : (ByteArray.mk #[32]).size = 1 := rfl
      dsimp only
      rw [m_sFormatInt h.1.1 h.1.2, bindS, okLen_t (by omega), cond_true, m_sFormatInt h.2.1 h.2.2, bindS, okLen_t (by simp only [sz_app]; omega), cond_true, okLen_t (by simp only [sz_app]; omega), cond_true,
        m_sFormatWord, bindS, okLen_t (by simp only [sz_app]; omega), cond_true, okLen_t (by simp only [sz_app]; omega), cond_true, okLen_t (by simp only [sz_app]; omega), cond_true]
      refine Gv.pure ?_
      rw [he]
      rfl
theorem m_iFormatReply {r : DRep} (h : repOk r) : fi_FormatReply r = some (fmtY r) := by
  suffices g : Gv (fun y => y = fmtY r) (fi_FormatReply r) by
    obtain ⟨y, e, rfl⟩ := g
    exact e
  unfold fi_FormatReply fmtY
  rw [m_iIsWord, bindS]
  cases hx : inR r.data 0 4294967295 with
  | false => exact Gv.pure rfl
  | true =>
    rw [Bool.not_true, cond_false, m_between, bindS]
    cases hc : inR r.code 0 2 with
    | false => exact Gv.pure rfl
    | true =>
      rw [Bool.not_true, cond_false]
      have hc' := inR_iff.1 hc
      have hk : r.code.toNat < R3.length := by show r.code.toNat < 3; omega
      have he := R3_get hk
      have hs := R3_len hk
      simp only [R3] at hs
      refine Gv.dif ⟨hc'.1, hk⟩ (Gv.dif hk ?_)
      have s1 := itoa_len h.1.1 h.1.2
      have s2 := itoa_len h.2.1 h.2.2
      have s3 := fmtW_size r.data
      have c4 : (ByteArray.mk #[32, 97, 116, 32]).size = 4 := rfl
      have c1 : (ByteArray.mk #[32]).size = 1 := rfl
      dsimp only
      rw [m_iFormatInt h.1.1 h.1.2, bindS, okLen_t (by omega), cond_true, m_iFormatInt h.2.1 h.2.2, bindS, okLen_t (by simp only [sz_app]; omega), cond_true, okLen_t (by simp only [sz_app]; omega), cond_true,
        m_iFormatWord, bindS, okLen_t (by simp only [sz_app]; omega), cond_true, okLen_t (by simp only [sz_app]; omega), cond_true, okLen_t (by simp only [sz_app]; omega), cond_true]
      refine Gv.pure ?_
      rw [he]
      rfl
theorem p_FnExactFormatReply {r : DRep} (h : repOk r) : fl_FnExactFormatReply r = some true := by
  unfold fl_FnExactFormatReply fl_toReply
  rw [bindS, m_sFormatReply h, bindS, bindS, m_iFormatReply h, bindS, beq_self_eq_true]
  rfl
def RepI (r : DRep) : Prop := repOk r ∧ in64 r.data ∧ in64 r.code
theorem cs_four {α : Type} {cs : List α} (h : cs.length = 4) : cs = (cs.drop 0).take 1 ++ (cs.drop 1).take 1 ++ (cs.drop 2).take 1 ++ (cs.drop 3).take 1 := by
  match cs, h with
  | [a, b, c, d], _ => rfl
theorem opn_Reply {H : Type} {enc' : TypeId × Value → H} {w : World} : Opn enc' Tryd.prog w 23 .Rep RepI := fun n cs x hx => by
  obtain ⟨a, ha, r1⟩ := Opn.part Tryd.underlying23 hx (i := 0) rfl (Opn.int Tryd.underlying3) (off := 0) (k := 1) rfl (by kernel_rfl)
  obtain ⟨b, hb, r2⟩ := Opn.part Tryd.underlying23 hx (i := 1) rfl (Opn.int Tryd.underlying3) (off := 1) (k := 1) rfl (by kernel_rfl)
  obtain ⟨c, hc', r3⟩ := Opn.part Tryd.underlying23 hx (i := 2) rfl (Opn.int Tryd.underlying3) (off := 2) (k := 1) rfl (by kernel_rfl)
  obtain ⟨d, hd, r4⟩ := Opn.part Tryd.underlying23 hx (i := 3) rfl (Opn.int Tryd.underlying3) (off := 3) (k := 1) rfl (by kernel_rfl)
  have hl := Opn.len Tryd.underlying23 hx
  have hc : Tryd.prog.cellsOf 23 = 4 := by kernel_rfl
  rw [hc] at hl
  refine ⟨⟨a, b, c, d⟩, ⟨⟨ha, hb⟩, hc', hd⟩, ?_⟩
  rw [cs_four hl]
  exact ((r1.append r2).append r3).append r4
theorem open_Reply {H : Type} {enc' : TypeId × Value → H} {w : World} {base : Nat} {v : Value} {d : DataW H} {p : List MemPlace} (hv : Value.okWide Tryd.prog w .any base 23 v) (h : DataW.Trod enc' Tryd.prog w 0 (fun _ => true) true 23 v d p) : RdS .Rep RepI w v := openS opn_Reply Tryd.underlying23 hv h
theorem law_FnExactFormatReply (v0 : Value) (w : World) (r0 : RdS .Rep RepI w v0) (hQ : Qw w) : Calls Tryd.prog 3 #[v0] w fun e w' => e = .returned (.bool true) ∧ Below w.heap.size w w' := by
  obtain ⟨r, hI, us, rfl, hr⟩ := r0
  exact law_of ok_fl_FnExactFormatReply (ctrT_run (ai := [(true, .Rep)]) (x := (r, ())) (by kernel_rfl) (p_FnExactFormatReply hI.1)) (argS1 hr) (hd_top hQ)
end Go.Proofs.YtnmllpfchcfonaaDoor
