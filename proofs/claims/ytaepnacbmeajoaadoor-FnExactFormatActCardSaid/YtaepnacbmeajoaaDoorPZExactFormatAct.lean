/-
  Plain laws. Nothing here is a claim.
-/
import Derived.Test.YtaepnacbmeajoaaDoorVZ
import Derived.Test.YtaepnacbmeajoaaDoorOpenV
import Derived.Test.YtaepnacbmeajoaaDoorG1
namespace Go.Proofs.YtaepnacbmeajoaaDoor
open Go.RowKit
set_option linter.unusedVariables false
set_option linter.unusedSimpArgs false
set_option maxRecDepth 100000

theorem w64 {n : Int} (h1 : -9223372036854775808 <= n) (h2 : n < 9223372036854775808) : IntKind.i64.wrap n = n := by
  rw [IntKind.wrap_i64]; omega
theorem iter_ind {α β : Type} {step : α -> Option (α ⊕ β)} (I : α -> Prop) (m : α -> Nat) (Q : β -> Prop)
    (h : ∀ x, I x -> (∃ y, step x = some (.inl y) /\ I y /\ m y < m x) \/ ∃ z, step x = some (.inr z) /\ Q z) :
    ∀ (n : Nat) (x : α), I x -> m x < n -> ∃ z, iter step n x = some z /\ Q z
  | 0, x, _, hm => by omega
  | n + 1, x, hx, hm => by
    unfold iter
    rcases h x hx with ⟨y, h1, h2, h3⟩ | ⟨z, h1, h2⟩
    · rw [h1]
      exact iter_ind I m Q h n y h2 (by omega)
    · rw [h1]
      exact ⟨z, rfl, h2⟩
theorem bindS {α β : Type} (x : α) (f : α -> Option β) : (some x).bind f = f x := rfl
/-- A loop that stops early where a test of an element fails. -/
theorem iter_all {α β T : Type} {step : α -> Option (α ⊕ β)} (l : List T) (q : T -> Bool) (S : Nat -> α) (zf z : β) (fuel : Nat) (hs : ∀ k (h : k < l.length), step (S k) = some (bif q l[k] then .inl (S (k + 1)) else .inr zf)) (hz : step (S l.length) = some (.inr z)) (hf : l.length < fuel) :
    iter step fuel (S 0) = some (bif l.all q then z else zf) := by
  have key : ∀ (n i fuel : Nat), i + n = l.length -> n < fuel -> iter step fuel (S i) = some (bif (l.drop i).all q then z else zf) := by
    intro n
    induction n with
    | zero =>
      intro i fuel hi hf
      match fuel, hf with
      | f + 1, _ =>
        have : i = l.length := by omega
        subst this
        unfold iter
        rw [hz]
        simp
    | succ n ih =>
      intro i fuel hi hf
      match fuel, hf with
      | f + 1, hf =>
        have hlt : i < l.length := by omega
        unfold iter
        rw [hs i hlt, List.drop_eq_getElem_cons hlt, List.all_cons]
        cases q l[i] with
        | true => simp only [cond_true, Bool.true_and]; exact ih (i + 1) f (by omega) (by omega)
        | false => rfl
  exact key l.length 0 fuel (by omega) hf
/-- A loop that goes on to the end. -/
theorem iter_to {α β : Type} {step : α -> Option (α ⊕ β)} (n : Nat) (S : Nat -> α) (z : β) (fuel : Nat) (hs : ∀ k, k < n -> step (S k) = some (.inl (S (k + 1)))) (hz : step (S n) = some (.inr z)) (hf : n < fuel) : iter step fuel (S 0) = some z := by
  have key : ∀ (m i fuel : Nat), i + m = n -> m < fuel -> iter step fuel (S i) = some z := by
    intro m
    induction m with
    | zero =>
      intro i fuel hi hf
      match fuel, hf with
      | f + 1, _ =>
        have : i = n := by omega
        subst this
        unfold iter
        rw [hz]
    | succ m ih =>
      intro i fuel hi hf
      match fuel, hf with
      | f + 1, hf =>
        unfold iter
        rw [hs i (by omega)]
        exact ih (i + 1) f (by omega) (by omega)
  exact key n 0 fuel (by omega) hf
theorem okLen_t {n : Nat} (h : n < 1073741824) : okLen n = true := decide_eq_true h
theorem wrapS {i : Nat} (h : i < 4611686018427387904) : IntKind.i64.wrap ((i : Int) + 1) = ((i + 1 : Nat) : Int) := by
  rw [w64 (by omega) (by omega)]; simp
theorem bigLt {n : Nat} (h : n < 1073741824) : n < big := by unfold big; omega
def inR (x a b : Int) : Bool := decide (a <= x) && decide (x <= b)
theorem m_between (x a b : Int) : fi_between x a b = some (inR x a b) := by
  unfold fi_between inR
  by_cases h : a <= x <;> simp [h]
theorem m_in (x a b : Int) : fs_l01In x a b = some (inR x a b) := m_between x a b
theorem take_succ_get {α : Type} {l : List α} {i : Nat} (h : i < l.length) : l.take (i + 1) = l.take i ++ [l[i]] := by
  rw [List.take_succ_eq_append_getElem h]
/-- A value is given, and it is of P. -/
def Gv {γ : Type} (P : γ -> Prop) (o : Option γ) : Prop := ∃ y, o = some y /\ P y
theorem Gv.pure {γ : Type} {P : γ -> Prop} {y : γ} (h : P y) : Gv P (some y) := ⟨y, rfl, h⟩
theorem Gv.cond {γ : Type} {P : γ -> Prop} {b : Bool} {x y : Option γ} (h1 : b = true -> Gv P x) (h2 : b = false -> Gv P y) : Gv P (bif b then x else y) := by
  cases b
  · exact h2 rfl
  · exact h1 rfl
theorem Gv.bind {α γ : Type} {Q : α -> Prop} {P : γ -> Prop} {f : Option α} {g : α -> Option γ} (h : Gv Q f) (hg : ∀ y, Q y -> Gv P (g y)) : Gv P (f.bind g) := by
  obtain ⟨y, rfl, hy⟩ := h
  exact hg y hy
theorem Gv.ite {γ : Type} {P : γ -> Prop} {c : Prop} [Decidable c] {x y : Option γ} (hc : c) (h : Gv P x) : Gv P (if c then x else y) := by
  rw [if_pos hc]; exact h
theorem Gv.ift {γ : Type} {P : γ -> Prop} {c : Prop} [Decidable c] {x y : Option γ} (hc : ¬ c) (h : Gv P y) : Gv P (if c then x else y) := by
  rw [if_neg hc]; exact h
theorem Gv.loop {α β γ : Type} {step : α -> Option (α ⊕ β)} (n : Nat) (I : Nat -> α -> Prop) {P : γ -> Prop} {K : β -> Option γ} {x : α} {fuel : Nat} (h0 : I 0 x) (hf : n < fuel) (hs : ∀ k, k <= n -> ∀ x, I k x -> Gv (Sum.elim (fun y => k < n /\ I (k + 1) y) (fun z => Gv P (K z))) (step x)) : Gv P ((iter step fuel x).bind K) := by
  have key : ∀ (m i fuel : Nat) (x : α), i + m = n -> m < fuel -> I i x -> Gv P ((iter step fuel x).bind K) := by
    intro m
    induction m with
    | zero =>
      intro i fuel x hi hf hx
      match fuel, hf with
      | f + 1, _ =>
        obtain ⟨y, h1, h2⟩ := hs i (by omega) x hx
        unfold iter
        rw [h1]
        cases y with
        | inl y => exact absurd h2.1 (by omega)
        | inr z => exact h2
    | succ m ih =>
      intro i fuel x hi hf hx
      match fuel, hf with
      | f + 1, hf =>
        obtain ⟨y, h1, h2⟩ := hs i (by omega) x hx
        unfold iter
        rw [h1]
        cases y with
        | inl y => exact ih (i + 1) f y (by omega) (by omega) h2.2
        | inr z => exact h2
  exact key n 0 fuel x (by omega) hf h0
def itoaB (n : Int) : ByteArray := ⟨(Lib.itoa n).toArray⟩
theorem bl_ext {a b : ByteArray} (h : a.data.toList = b.data.toList) : a = b := by
  obtain ⟨⟨a⟩⟩ := a
  obtain ⟨⟨b⟩⟩ := b
  have h : a = b := h
  rw [h]
theorem bl_app (a b : ByteArray) : (a ++ b).data.toList = a.data.toList ++ b.data.toList := by
  rw [ByteArray.data_append, Array.toList_append]
theorem sz_app (a b : ByteArray) : (a ++ b).size = a.size + b.size := by
  show (a ++ b).data.size = a.data.size + b.data.size
  rw [ByteArray.data_append, Array.size_append]
def dd (v : Nat) : List UInt8 := if v = 0 then [] else Lib.decDigits v
theorem dd_step {v : Nat} (h : v ≠ 0) : dd v = dd (v / 10) ++ [UInt8.ofNat (48 + v % 10)] := by
  unfold dd
  rw [if_neg h, Lib.decDigits]
  by_cases h10 : v < 10
  · rw [dif_pos h10, if_pos (by omega), Nat.mod_eq_of_lt h10]; rfl
  · rw [dif_neg h10, if_neg (by omega)]
theorem m_figure {d : Nat} (h : d < 10) : fs_l01Figure (d : Int) = some (48 + (d : Int)) := by
  unfold fs_l01Figure
  rw [decide_eq_true (by omega), cond_true, w64 (by omega) (by omega), IntKind.wrap_u8]
  congr 1
  omega
theorem strOf1 (d : Nat) : (strOfNums [48 + (d : Int)]).data.toList = [UInt8.ofNat (48 + d)] := by
  have : (48 + (d : Int)).toNat = 48 + d := by omega
  show [UInt8.ofNat (48 + (d : Int)).toNat] = _
  rw [this]
theorem strOf1_size (x : Int) : (strOfNums [x]).size = 1 := rfl
theorem tm10 (v : Nat) : (v : Int).tmod 10 = ((v % 10 : Nat) : Int) /\ (v : Int).tdiv 10 = ((v / 10 : Nat) : Int) := by
  constructor
  · rw [Int.tmod_eq_emod_of_nonneg (by omega)]; omega
  · rw [Int.tdiv_eq_ediv_of_nonneg (by omega)]; omega
theorem m_sFormatInt {n : Int} (h1 : -9223372036854775808 <= n) (h2 : n <= 9223372036854775807) : fs_FormatInt n = some (itoaB n) := by
  suffices g : Gv (fun y => y = itoaB n) (fs_FormatInt n) by
    obtain ⟨y, e, rfl⟩ := g
    exact e
  unfold fs_FormatInt
  refine Gv.cond (fun h => Gv.pure ?_) fun h0 => ?_
  · have h : n = 0 := by simpa using h
    subst h
    refine bl_ext ?_
    show [48] = Lib.itoa 0
    unfold Lib.itoa
    rw [if_neg (by omega), Lib.decDigits]
    rfl
  have h0 : n ≠ 0 := by simpa using h0
  have p20 : (10 : Nat) ^ 20 = 100000000000000000000 := by rfl
  have hit : (Lib.itoa n) = if n < 0 then 45 :: dd n.natAbs else dd n.natAbs := by
    have e : dd n.natAbs = Lib.decDigits n.natAbs := by unfold dd; rw [if_neg (by omega)]
    rw [e]
    unfold Lib.itoa
    by_cases hn : n < 0
    · rw [if_pos hn, if_pos hn]
    · rw [if_neg hn, if_neg hn, show n.toNat = n.natAbs by omega]
  refine Gv.loop 20 (fun k x => ∃ (v : Nat) (s : ByteArray), x = (((if n < 0 then -(v : Int) else (v : Int)), decide (n < 0), s, ()), ()) /\ dd v ++ s.data.toList = dd n.natAbs /\ v < 10 ^ (20 - k) /\ s.size <= k /\ v <= 9223372036854775808) ⟨n.natAbs, ByteArray.mk #[], ?_, by simp, by rw [p20]; omega, Nat.le_refl _, by omega⟩ (bigLt (by omega)) ?_
  · by_cases hn : n < 0
    · rw [if_pos hn, show -(n.natAbs : Int) = n by omega]
    · rw [if_neg hn, show (n.natAbs : Int) = n by omega]
  rintro k hk x ⟨v, s, rfl, hd, hv, hs, hu⟩
  obtain ⟨t1, t2⟩ := tm10 v
  unfold Lfs_FormatInt_0
  dsimp only
  refine Gv.cond (fun h => ?_) (fun h => ?_)
  · have hv0 : v ≠ 0 := by
      rintro rfl
      by_cases hn : n < 0 <;> simp [hn] at h
    have hk20 : k < 20 := by
      rcases Nat.lt_or_ge k 20 with h' | h'
      · exact h'
      · have : 20 - k = 0 := by omega
        rw [this] at hv
        omega
    have hv' : v / 10 < 10 ^ (20 - (k + 1)) := by
      have : 20 - k = (20 - (k + 1)) + 1 := by omega
      rw [this, Nat.pow_succ] at hv
      omega
    have hdd := dd_step hv0
    have fin : ∀ w : ByteArray, w.data.toList = [UInt8.ofNat (48 + v % 10)] -> w.size = 1 -> dd (v / 10) ++ (w ++ s).data.toList = dd n.natAbs /\ (w ++ s).size <= k + 1 := by
      intro w hw hw1
      rw [bl_app, hw, <- List.append_assoc, <- hdd, sz_app, hw1]
      exact ⟨hd, by omega⟩
    have hm : v % 10 < 10 := Nat.mod_lt _ (by omega)
    have ho : ∀ w : ByteArray, w.size = 1 -> okLen (w.size + s.size) = true := fun w hw => okLen_t (by omega)
    by_cases hn : n < 0
    · simp only [hn, if_true]
      rw [Int.neg_tmod, Int.neg_tdiv, t1, t2]
      rw [w64 (n := 0 - -((v % 10 : Nat) : Int)) (by omega) (by omega), w64 (n := -((v / 10 : Nat) : Int)) (by omega) (by omega), show (0 : Int) - -((v % 10 : Nat) : Int) = ((v % 10 : Nat) : Int) by omega, m_figure hm, bindS]
      refine Gv.cond (fun hb => ?_) fun hb => ?_
      · obtain ⟨f1, f2⟩ := fin _ (strOf1 (v % 10)) (strOf1_size _)
        rw [ho _ (strOf1_size _), cond_true]
        exact Gv.pure ⟨hk20, v / 10, _, by simp only [hn, if_true], f1, hv', f2, by omega⟩
      · have hz : v % 10 = 0 := by simp at hb; omega
        have e0 : -((v % 10 : Nat) : Int) = ((v % 10 : Nat) : Int) := by omega
        rw [e0, m_figure hm, bindS]
        obtain ⟨f1, f2⟩ := fin _ (strOf1 (v % 10)) (strOf1_size _)
        rw [ho _ (strOf1_size _), cond_true]
        exact Gv.pure ⟨hk20, v / 10, _, by simp only [hn, if_true], f1, hv', f2, by omega⟩
    · simp only [hn, if_false]
      rw [t1, t2, decide_eq_false (show ¬ (((v % 10 : Nat) : Int) < 0) by omega), cond_false, w64 (n := ((v / 10 : Nat) : Int)) (by omega) (by omega), m_figure hm, bindS]
      obtain ⟨f1, f2⟩ := fin _ (strOf1 (v % 10)) (strOf1_size _)
      rw [ho _ (strOf1_size _), cond_true]
      exact Gv.pure ⟨hk20, v / 10, _, by simp only [hn, if_false], f1, hv', f2, by omega⟩
  · have hv0 : v = 0 := by
      by_cases hn : n < 0 <;> simp [hn] at h <;> omega
    subst hv0
    have hd : s.data.toList = dd n.natAbs := by rw [<- hd]; rfl
    refine Gv.pure ?_
    simp only [Sum.elim_inl, Sum.elim_inr]
    by_cases hn : n < 0
    · rw [decide_eq_true hn, cond_true, okLen_t (by show 1 + s.size < _; omega), cond_true]
      refine Gv.pure (bl_ext ?_)
      rw [bl_app, hd]
      show 45 :: dd n.natAbs = Lib.itoa n
      rw [hit, if_pos hn]
    · rw [decide_eq_false hn, cond_false]
      refine Gv.pure (bl_ext ?_)
      rw [hd]
      show dd n.natAbs = Lib.itoa n
      rw [hit, if_neg hn]
theorem itoa_len {n : Int} (h1 : -9223372036854775808 <= n) (h2 : n <= 9223372036854775807) : (itoaB n).size <= 21 := Lib.itoa_length_le n h1 h2
theorem joinTail_ne {sep : List UInt8} {r : List (List UInt8)} (h : r ≠ []) : Lib.joinTail sep r = sep ++ Lib.join r sep := by
  cases r with
  | nil => exact absurd rfl h
  | cons y r => rw [Lib.join_cons]; simp [Lib.joinTail]
theorem a15 (y : Int) : 0 <= bits .and .i64 y 15 /\ bits .and .i64 y 15 <= 15 := by
  have e : bits .and .i64 y 15 = IntKind.i64.wrap ((BitVec.ofInt 64 y &&& BitVec.ofInt 64 15).toNat : Int) := rfl
  have h : (BitVec.ofInt 64 y &&& BitVec.ofInt 64 15).toNat <= 15 := by
    rw [BitVec.toNat_and]
    exact Nat.le_trans Nat.and_le_right (by decide)
  rw [e, IntKind.wrap_i64]
  omega
/-- The figure of x with weight 16^(7-j). -/
def dg (x : Int) (j : Nat) : Int := bits .and .i64 (x.fdiv (2 ^ (28 - 4 * j))) 15
def hexb (d : Int) : Int := if d < 10 then 48 + d else 87 + d
def wordL (x : Int) (n : Nat) : List Int := (List.range n).map fun j => hexb (dg x j)
def wordB (x : Int) : ByteArray := strOfNums (wordL x 8)
theorem wordL_succ (x : Int) (n : Nat) : wordL x (n + 1) = wordL x n ++ [hexb (dg x n)] := by
  unfold wordL
  rw [List.range_succ, List.map_append]
  rfl
theorem m_figure16 {d : Int} (h0 : 0 <= d) (h : d <= 15) : fs_l01Figure d = some (hexb d) := by
  unfold fs_l01Figure hexb
  by_cases hd : d < 10
  · rw [decide_eq_true hd, cond_true, if_pos hd, w64 (by omega) (by omega), IntKind.wrap_u8]
    congr 1
    omega
  · rw [decide_eq_false hd, cond_false, if_neg hd, w64 (n := 97 + d) (by omega) (by omega), w64 (by omega) (by omega), IntKind.wrap_u8]
    congr 1
    omega
theorem shift_eq (x : Int) {j : Nat} (h : j <= 7) : (IntKind.u64.wrap (IntKind.i64.wrap ((4 : Int) * (7 - (j : Int))))) = ((28 - 4 * j : Nat) : Int) := by
  rw [w64 (by omega) (by omega), IntKind.wrap_u64]
  omega
theorem strOf_app (a b : List Int) : strOfNums (a ++ b) = strOfNums a ++ strOfNums b := by
  refine bl_ext ?_
  rw [bl_app]
  show (List.map _ _).toArray.toList = (List.map _ _).toArray.toList ++ (List.map _ _).toArray.toList
  simp
theorem strOf_size (a : List Int) : (strOfNums a).size = a.length := by
  show (List.map _ _).toArray.size = _
  simp
theorem wordL_len (x : Int) (n : Nat) : (wordL x n).length = n := by simp [wordL]
theorem cutHex : ∀ d : Nat, d < 16 -> ((ByteArray.mk #[48, 49, 50, 51, 52, 53, 54, 55, 56, 57, 97, 98, 99, 100, 101, 102]).extract d (d + 1)).data.toList = (strOfNums [hexb (d : Int)]).data.toList := by
  intro d hd
  have : d = 0 \/ d = 1 \/ d = 2 \/ d = 3 \/ d = 4 \/ d = 5 \/ d = 6 \/ d = 7 \/ d = 8 \/ d = 9 \/ d = 10 \/ d = 11 \/ d = 12 \/ d = 13 \/ d = 14 \/ d = 15 := by omega
  rcases this with rfl | rfl | rfl | rfl | rfl | rfl | rfl | rfl | rfl | rfl | rfl | rfl | rfl | rfl | rfl | rfl <;> rfl
theorem m_sIsWord (x : Int) : fs_IsWord x = some (inR x 0 4294967295) := by
  unfold fs_IsWord
  rw [m_in, bindS]
theorem m_iIsWord (x : Int) : fi_IsWord x = some (inR x 0 4294967295) := by
  unfold fi_IsWord
  rw [m_between, bindS]
def fmtW (x : Int) : ByteArray := bif inR x 0 4294967295 then wordB x else ByteArray.mk #[]
theorem m_sFormatWord (x : Int) : fs_FormatWord x = some (fmtW x) := by
  suffices g : Gv (fun y => y = fmtW x) (fs_FormatWord x) by
    obtain ⟨y, e, rfl⟩ := g
    exact e
  unfold fs_FormatWord fmtW
  rw [m_sIsWord, bindS]
  cases hx : inR x 0 4294967295 with
  | false => exact Gv.pure rfl
  | true =>
    rw [Bool.not_true, cond_false, cond_true]
    refine Gv.loop 8 (fun j z => z = ((x, (), 7 - (j : Int), ()), (wordL x j, ()))) rfl (bigLt (by omega)) ?_
    rintro j hj z rfl
    unfold Lfs_FormatWord_0
    dsimp only
    refine Gv.cond (fun h => ?_) (fun h => ?_)
    · have hj : j <= 7 := by simp at h; omega
      rw [shift_eq x hj, Int.toNat_natCast, show min (28 - 4 * j) IntKind.i64.bits = 28 - 4 * j from Nat.min_eq_left (by show _ <= 64; omega)]
      refine Gv.ift (by omega) ?_
      have hd := a15 (x.fdiv (2 ^ (28 - 4 * j)))
      rw [m_figure16 hd.1 hd.2, bindS, wordL_len, okLen_t (by show j + 1 < _; omega), cond_true]
      refine Gv.pure ⟨by omega, ?_⟩
      rw [wordL_succ, w64 (by omega) (by omega), show (7 : Int) - (j : Int) - 1 = 7 - ((j + 1 : Nat) : Int) by omega]
      rfl
    · have : j = 8 := by simp at h; omega
      subst this
      exact Gv.pure (Gv.pure rfl)
theorem m_iFormatWord (x : Int) : fi_FormatWord x = some (fmtW x) := by
  suffices g : Gv (fun y => y = fmtW x) (fi_FormatWord x) by
    obtain ⟨y, e, rfl⟩ := g
    exact e
  unfold fi_FormatWord fmtW
  rw [m_iIsWord, bindS]
  cases hx : inR x 0 4294967295 with
  | false => exact Gv.pure rfl
  | true =>
    rw [Bool.not_true, cond_false, cond_true]
    refine Gv.loop 8 (fun j z => z = ((x, strOfNums (wordL x j), 28 - 4 * (j : Int), ()), ())) rfl (bigLt (by omega)) ?_
    rintro j hj z rfl
    unfold Lfi_FormatWord_0
    dsimp only
    refine Gv.cond (fun h => ?_) (fun h => ?_)
    · have hj : j <= 7 := by simp at h; omega
      have hsh : (28 - 4 * (j : Int)).toNat = 28 - 4 * j := by omega
      rw [hsh, show min (28 - 4 * j) IntKind.i64.bits = 28 - 4 * j from Nat.min_eq_left (by show _ <= 64; omega)]
      refine Gv.ift (by omega) ?_
      have hd := a15 (x.fdiv (2 ^ (28 - 4 * j)))
      have hdg : bits .and .i64 (x.fdiv (2 ^ (28 - 4 * j))) 15 = dg x j := rfl
      rw [hdg] at hd ⊢
      have hw : IntKind.i64.wrap (dg x j + 1) = dg x j + 1 := w64 (by omega) (by omega)
      rw [hw]
      refine Gv.ite ⟨hd.1, by omega, by show dg x j + 1 <= 16; omega⟩ ?_
      have hcut : ((ByteArray.mk #[48, 49, 50, 51, 52, 53, 54, 55, 56, 57, 97, 98, 99, 100, 101, 102]).extract (dg x j).toNat (dg x j + 1).toNat) = strOfNums [hexb (dg x j)] := by
        have h1 : (dg x j + 1).toNat = (dg x j).toNat + 1 := by omega
        have h2 := cutHex (dg x j).toNat (by omega)
        rw [Int.toNat_of_nonneg hd.1] at h2
        rw [h1]
        exact bl_ext h2
      rw [hcut, strOf_size, strOf_size, wordL_len, okLen_t (by show j + 1 < _; omega), cond_true]
      refine Gv.pure ⟨by omega, ?_⟩
      rw [<- strOf_app, <- wordL_succ, w64 (by omega) (by omega), show (28 : Int) - 4 * (j : Int) - 4 = 28 - 4 * ((j + 1 : Nat) : Int) by omega]
    · have : j = 8 := by simp at h; omega
      subst this
      exact Gv.pure (Gv.pure rfl)
theorem fmtW_size (x : Int) : (fmtW x).size <= 8 := by
  unfold fmtW
  cases inR x 0 4294967295 with
  | false => exact Nat.zero_le _
  | true =>
    show (strOfNums (wordL x 8)).size <= 8
    rw [strOf_size, wordL_len]
    exact Nat.le_refl _
theorem m_iFormatInt {n : Int} (h1 : -9223372036854775808 <= n) (h2 : n <= 9223372036854775807) : fi_FormatInt n = some (itoaB n) := by
  unfold fi_FormatInt x_Itoa
  rw [decide_eq_true h1, decide_eq_true h2]
  rfl
def sameB (a b : List Int) : Bool := ((a.length : Int) == (b.length : Int)) && (a.zip b).all fun p => p.1 == p.2
theorem zip_len {A B : Type} {a : List A} {b : List B} (h : a.length = b.length) : (a.zip b).length = a.length := by
  rw [List.length_zip]
  omega
theorem zip_get {A B : Type} {a : List A} {b : List B} (h : a.length = b.length) {k : Nat} (hk : k < (a.zip b).length) : (a.zip b)[k] = (a[k]'(by rw [zip_len h] at hk; exact hk), b[k]'(by rw [zip_len h] at hk; omega)) := by
  rw [List.getElem_zip]
theorem m_sameInts {a b : List Int} (ha : a.length < 1073741824) : fi_sameInts a b = some (sameB a b) := by
  unfold fi_sameInts sameB
  by_cases h : a.length = b.length
  · have hz := zip_len h
    have e := iter_all (step := Lfi_sameInts_0) (a.zip b) (fun p => p.1 == p.2) (fun i => ((a, b, (a.length : Int), (i : Int), ()), ())) (.inl ((false, ()), ())) (.inr (.inl ((), ()))) big (fun k hk => by
      unfold Lfi_sameInts_0
      dsimp only
      rw [decide_eq_true (by omega), cond_true, dif_pos ⟨by omega, by omega⟩, dif_pos ⟨by omega, by omega⟩, wrapS (by omega), zip_get h hk]
      simp only [Int.toNat_natCast]
      rw [bne]
      cases a[k] == b[k] <;> rfl) (by
      unfold Lfi_sameInts_0
      dsimp only
      rw [decide_eq_false (by omega), cond_false]) (bigLt (by omega))
    rw [Int.natCast_zero] at e
    rw [show ((a.length : Int) != (b.length : Int)) = false by simp [h], cond_false, show ((a.length : Int) == (b.length : Int)) = true by simp [h], Bool.true_and]
    refine (congrArg (fun o => Option.bind o _) e).trans ?_
    cases (a.zip b).all fun p => p.1 == p.2 <;> rfl
  · rw [show ((a.length : Int) != (b.length : Int)) = true by simp; omega, cond_true, show ((a.length : Int) == (b.length : Int)) = false by simp; omega, Bool.false_and]
theorem m_sInts {a b : List Int} (ha : a.length < 1073741824) : fs_l38Ints a b = some (sameB a b) := by
  unfold fs_l38Ints sameB
  by_cases h : a.length = b.length
  · have hz := zip_len h
    have e := iter_all (step := Lfs_l38Ints_0) (a.zip b) (fun p => p.1 == p.2) (fun i => ((a, b, (i : Int), ()), ())) (.inl ((false, ()), ())) (.inr (.inl ((), ()))) big (fun k hk => by
      unfold Lfs_l38Ints_0
      dsimp only
      rw [decide_eq_true (by omega), cond_true, dif_pos ⟨by omega, by omega⟩, dif_pos ⟨by omega, by omega⟩, wrapS (by omega), zip_get h hk]
      simp only [Int.toNat_natCast]
      rw [bne]
      cases a[k] == b[k] <;> rfl) (by
      unfold Lfs_l38Ints_0
      dsimp only
      rw [decide_eq_false (by omega), cond_false]) (bigLt (by omega))
    rw [Int.natCast_zero] at e
    rw [show ((a.length : Int) != (b.length : Int)) = false by simp [h], cond_false, show ((a.length : Int) == (b.length : Int)) = true by simp [h], Bool.true_and]
    refine (congrArg (fun o => Option.bind o _) e).trans ?_
    cases (a.zip b).all fun p => p.1 == p.2 <;> rfl
  · rw [show ((a.length : Int) != (b.length : Int)) = true by simp; omega, cond_true, show ((a.length : Int) == (b.length : Int)) = false by simp; omega, Bool.false_and]
theorem cs_cut {α : Type} {cs : List α} (o k : Nat) : cs.drop o = (cs.drop o).take k ++ cs.drop (o + k) := by
  rw [<- List.drop_drop]
  exact (List.take_append_drop k _).symm
theorem cs_end {w : World} {B : Nat} {cs : List Value} {n : Nat} (h : cs.length = n) : RdV w B [] (cs.drop n) := by
  rw [List.drop_of_length_le (by omega)]
  exact .nil
theorem RdV.cut {w : World} {B : Nat} {vs vs' : List V} {cs : List Value} {o k : Nat} (h : RdV w B vs ((cs.drop o).take k)) (h' : RdV w B vs' (cs.drop (o + k))) : RdV w B (vs ++ vs') (cs.drop o) := by
  rw [cs_cut o k]
  exact RdV.append h h'
theorem oI {H : Type} {enc' : TypeId × Value -> H} {w : World} : Opn enc' Tryd.prog w 3 .int in64 := Opn.int Tryd.underlying3
def IRequest (x : DReq) : Prop := in64 x.id /\ in64 x.tenant /\ in64 x.line /\ True /\ in64 x.data /\ in64 x.at_
theorem opnRequest {H : Type} {enc' : TypeId × Value -> H} {w : World} : Opn enc' Tryd.prog w 23 .Req IRequest := fun n cs x hx => by
  have hs := Tryd.underlying23
  obtain ⟨a0, i0, r0⟩ := Opn.part hs hx (i := 0) rfl oI (off := 0) (k := 1) rfl (by kernel_rfl)
  obtain ⟨a1, i1, r1⟩ := Opn.part hs hx (i := 1) rfl oI (off := 1) (k := 1) rfl (by kernel_rfl)
  obtain ⟨a2, i2, r2⟩ := Opn.part hs hx (i := 2) rfl oI (off := 2) (k := 1) rfl (by kernel_rfl)
  obtain ⟨a3, i3, r3⟩ := Opn.part hs hx (i := 3) rfl (Opn.bool Tryd.underlying4) (off := 3) (k := 1) rfl (by kernel_rfl)
  obtain ⟨a4, i4, r4⟩ := Opn.part hs hx (i := 4) rfl oI (off := 4) (k := 1) rfl (by kernel_rfl)
  obtain ⟨a5, i5, r5⟩ := Opn.part hs hx (i := 5) rfl oI (off := 5) (k := 1) rfl (by kernel_rfl)
  have hl := Opn.len hs hx
  have hc : Tryd.prog.cellsOf 23 = 6 := by kernel_rfl
  rw [hc] at hl
  exact ⟨⟨a0, a1, a2, a3, a4, a5⟩, ⟨i0, i1, i2, i3, i4, i5⟩, RdV.cut r0 (RdV.cut r1 (RdV.cut r2 (RdV.cut r3 (RdV.cut r4 (RdV.cut r5 ((cs_end hl)))))))⟩
def IAddr (x : DAddr) : Prop := in64 x.bank /\ in64 x.row /\ in64 x.col
theorem opnAddr {H : Type} {enc' : TypeId × Value -> H} {w : World} : Opn enc' Tryd.prog w 25 .Addr IAddr := fun n cs x hx => by
  have hs := Tryd.underlying25
  obtain ⟨a0, i0, r0⟩ := Opn.part hs hx (i := 0) rfl oI (off := 0) (k := 1) rfl (by kernel_rfl)
  obtain ⟨a1, i1, r1⟩ := Opn.part hs hx (i := 1) rfl oI (off := 1) (k := 1) rfl (by kernel_rfl)
  obtain ⟨a2, i2, r2⟩ := Opn.part hs hx (i := 2) rfl oI (off := 2) (k := 1) rfl (by kernel_rfl)
  have hl := Opn.len hs hx
  have hc : Tryd.prog.cellsOf 25 = 3 := by kernel_rfl
  rw [hc] at hl
  exact ⟨⟨a0, a1, a2⟩, ⟨i0, i1, i2⟩, RdV.cut r0 (RdV.cut r1 (RdV.cut r2 ((cs_end hl))))⟩
def IPowerRule (x : DPowerRule) : Prop := in64 x.down /\ in64 x.sleep
theorem opnPowerRule {H : Type} {enc' : TypeId × Value -> H} {w : World} : Opn enc' Tryd.prog w 28 .PowerRule IPowerRule := fun n cs x hx => by
  have hs := Tryd.underlying28
  obtain ⟨a0, i0, r0⟩ := Opn.part hs hx (i := 0) rfl oI (off := 0) (k := 1) rfl (by kernel_rfl)
  obtain ⟨a1, i1, r1⟩ := Opn.part hs hx (i := 1) rfl oI (off := 1) (k := 1) rfl (by kernel_rfl)
  have hl := Opn.len hs hx
  have hc : Tryd.prog.cellsOf 28 = 2 := by kernel_rfl
  rw [hc] at hl
  exact ⟨⟨a0, a1⟩, ⟨i0, i1⟩, RdV.cut r0 (RdV.cut r1 ((cs_end hl)))⟩
def IPolicy (x : DPolicy) : Prop := in64 x.page /\ in64 x.cap /\ in64 x.limit /\ in64 x.low /\ in64 x.high /\ (x.weights.length <= maxLen /\ ∀ y ∈ x.weights, in64 y) /\ IPowerRule x.rule
theorem opnPolicy {H : Type} {enc' : TypeId × Value -> H} {w : World} : Opn enc' Tryd.prog w 30 .Policy IPolicy := fun n cs x hx => by
  have hs := Tryd.underlying30
  obtain ⟨a0, i0, r0⟩ := Opn.part hs hx (i := 0) rfl oI (off := 0) (k := 1) rfl (by kernel_rfl)
  obtain ⟨a1, i1, r1⟩ := Opn.part hs hx (i := 1) rfl oI (off := 1) (k := 1) rfl (by kernel_rfl)
  obtain ⟨a2, i2, r2⟩ := Opn.part hs hx (i := 2) rfl oI (off := 2) (k := 1) rfl (by kernel_rfl)
  obtain ⟨a3, i3, r3⟩ := Opn.part hs hx (i := 3) rfl oI (off := 3) (k := 1) rfl (by kernel_rfl)
  obtain ⟨a4, i4, r4⟩ := Opn.part hs hx (i := 4) rfl oI (off := 4) (k := 1) rfl (by kernel_rfl)
  obtain ⟨a5, i5, r5⟩ := Opn.part hs hx (i := 5) rfl (Opn.sl Tryd.underlying26 (by kernel_rfl) oI) (off := 5) (k := 1) rfl (by kernel_rfl)
  obtain ⟨a6, i6, r6⟩ := Opn.part hs hx (i := 6) rfl opnPowerRule (off := 6) (k := 2) rfl (by kernel_rfl)
  have hl := Opn.len hs hx
  have hc : Tryd.prog.cellsOf 30 = 8 := by kernel_rfl
  rw [hc] at hl
  exact ⟨⟨a0, a1, a2, a3, a4, a5, a6⟩, ⟨i0, i1, i2, i3, i4, i5, i6⟩, RdV.cut r0 (RdV.cut r1 (RdV.cut r2 (RdV.cut r3 (RdV.cut r4 (RdV.cut r5 (RdV.cut r6 ((cs_end hl))))))))⟩
def IAct (x : DAct) : Prop := in64 x.kind /\ IRequest x.request /\ in64 x.n /\ in64 x.chip /\ IAddr x.addr /\ IPolicy x.policy
theorem opnAct {H : Type} {enc' : TypeId × Value -> H} {w : World} : Opn enc' Tryd.prog w 32 .Act IAct := fun n cs x hx => by
  have hs := Tryd.underlying32
  obtain ⟨a0, i0, r0⟩ := Opn.part hs hx (i := 0) rfl oI (off := 0) (k := 1) rfl (by kernel_rfl)
  obtain ⟨a1, i1, r1⟩ := Opn.part hs hx (i := 1) rfl opnRequest (off := 1) (k := 6) rfl (by kernel_rfl)
  obtain ⟨a2, i2, r2⟩ := Opn.part hs hx (i := 2) rfl oI (off := 7) (k := 1) rfl (by kernel_rfl)
  obtain ⟨a3, i3, r3⟩ := Opn.part hs hx (i := 3) rfl oI (off := 8) (k := 1) rfl (by kernel_rfl)
  obtain ⟨a4, i4, r4⟩ := Opn.part hs hx (i := 4) rfl opnAddr (off := 9) (k := 3) rfl (by kernel_rfl)
  obtain ⟨a5, i5, r5⟩ := Opn.part hs hx (i := 5) rfl opnPolicy (off := 12) (k := 8) rfl (by kernel_rfl)
  have hl := Opn.len hs hx
  have hc : Tryd.prog.cellsOf 32 = 20 := by kernel_rfl
  rw [hc] at hl
  exact ⟨⟨a0, a1, a2, a3, a4, a5⟩, ⟨i0, i1, i2, i3, i4, i5⟩, RdV.cut r0 (RdV.cut r1 (RdV.cut r2 (RdV.cut r3 (RdV.cut r4 (RdV.cut r5 ((cs_end hl)))))))⟩
theorem copyM {T : Type} (z0 : T) (f : T -> Option T) (l : List T) (hf : ∀ x ∈ l, f x = some x) (hl : l.length < 1073741824) :
    iter (α := ((List T × Unit × Int × Unit) × (List T × Unit))) (β := (((Unit × Unit) × (List T × Unit)) ⊕ Empty)) (fun x => bif (decide (x.1.2.2.1 < (x.1.1.length : Int))) then if h1 : 0 <= x.1.2.2.1 /\ x.1.2.2.1.toNat < x.1.1.length then (let e2 := x.1.1[x.1.2.2.1.toNat]'h1.2; (f e2).bind fun y3 => if h4 : 0 <= x.1.2.2.1 /\ x.1.2.2.1.toNat < x.2.1.length then if h5 : x.1.2.2.1.toNat < x.2.1.length then (let e6 := x.2.1[x.1.2.2.1.toNat]'h5; some (.inl ((x.1.1, (), (IntKind.i64.wrap (x.1.2.2.1 + (1 : Int))), ()), ((x.2.1.set x.1.2.2.1.toNat y3), ())))) else none else none) else none else some (.inr (.inl (((), ()), (x.2.1, ())))))
      big ((l, (), (0 : Int), ()), ((List.replicate (l.length : Int).toNat z0), ())) = some (.inl (((), ()), (l, ()))) := by
  obtain ⟨z, h1, h2⟩ := iter_ind (step := (fun x : ((List T × Unit × Int × Unit) × (List T × Unit)) => (bif (decide (x.1.2.2.1 < (x.1.1.length : Int))) then if h1 : 0 <= x.1.2.2.1 /\ x.1.2.2.1.toNat < x.1.1.length then (let e2 := x.1.1[x.1.2.2.1.toNat]'h1.2; (f e2).bind fun y3 => if h4 : 0 <= x.1.2.2.1 /\ x.1.2.2.1.toNat < x.2.1.length then if h5 : x.1.2.2.1.toNat < x.2.1.length then (let e6 := x.2.1[x.1.2.2.1.toNat]'h5; some (.inl ((x.1.1, (), (IntKind.i64.wrap (x.1.2.2.1 + (1 : Int))), ()), ((x.2.1.set x.1.2.2.1.toNat y3), ())))) else none else none) else none else some (.inr (.inl (((), ()), (x.2.1, ())))) : Option (((List T × Unit × Int × Unit) × (List T × Unit)) ⊕ (((Unit × Unit) × (List T × Unit)) ⊕ Empty)))))
    (fun x => ∃ (i : Nat) (a : List T), x = ((l, (), (i : Int), ()), (a, ())) /\ i <= l.length /\ a.length = l.length /\ ∀ j, j < i -> a[j]? = l[j]?)
    (fun x => l.length - x.1.2.2.1.toNat) (fun z => z = .inl (((), ()), (l, ()))) (by
      rintro x ⟨i, a, rfl, hi, ha, hj⟩
      dsimp only
      by_cases h : i < l.length
      · left
        have c1 : decide ((i : Int) < (l.length : Int)) = true := by simpa using h
        have c2 : 0 <= (i : Int) /\ (i : Int).toNat < l.length := ⟨by omega, by simpa using h⟩
        have c3 : 0 <= (i : Int) /\ (i : Int).toNat < a.length := ⟨by omega, by rw [ha]; simpa using h⟩
        rw [c1, cond_true, dif_pos c2, hf _ (List.getElem_mem _), bindS, dif_pos c3, dif_pos c3.2]
        refine ⟨_, rfl, ⟨i + 1, a.set i (l[i]'h), ?_, by omega, by simpa using ha, fun j hj' => ?_⟩, ?_⟩
        · rw [w64 (by omega) (by omega)]
          simp
        · rw [List.getElem?_set]
          by_cases e : i = j
          · subst e
            rw [if_pos rfl, if_pos (by omega), List.getElem?_eq_getElem h]
          · rw [if_neg e]
            exact hj j (by omega)
        · dsimp only
          rw [w64 (by omega) (by omega)]
          omega
      · right
        have c1 : decide ((i : Int) < (l.length : Int)) = false := by simpa using h
        rw [c1, cond_false]
        refine ⟨_, rfl, ?_⟩
        have : a = l := List.ext_getElem? fun j => by
          by_cases hjl : j < l.length
          · exact hj j (by omega)
          · rw [List.getElem?_eq_none (by omega), List.getElem?_eq_none (by omega)]
        rw [this])
    big ((l, (), (0 : Int), ()), ((List.replicate (l.length : Int).toNat z0), ())) ⟨0, _, rfl, by omega, by simp, fun j h => by omega⟩ (by dsimp only; unfold big; omega)
  rw [h1, h2]
theorem eqLoopM {T : Type} (f : T -> T -> Option Bool) (l : List T) (hf : ∀ x ∈ l, f x x = some true) (hl : l.length < 1073741824) :
    iter (α := ((List T × List T × Int × Unit) × Unit)) (β := (((Bool × Unit) × Unit) ⊕ ((Unit × Unit) ⊕ Empty))) (fun x => bif (decide (x.1.2.2.1 < (x.1.1.length : Int))) then if h1 : 0 <= x.1.2.2.1 /\ x.1.2.2.1.toNat < x.1.1.length then (let e2 := x.1.1[x.1.2.2.1.toNat]'h1.2; if h3 : 0 <= x.1.2.2.1 /\ x.1.2.2.1.toNat < x.1.2.1.length then (let e4 := x.1.2.1[x.1.2.2.1.toNat]'h3.2; (f e2 e4).bind fun y5 => bif (!y5) then some (.inr (.inl ((false, ()), ()))) else some (.inl ((x.1.1, x.1.2.1, (IntKind.i64.wrap (x.1.2.2.1 + (1 : Int))), ()), ()))) else none) else none else some (.inr (.inr (.inl ((), ())))))
      big ((l, l, (0 : Int), ()), ()) = some (.inr (.inl ((), ()))) := by
  obtain ⟨z, h1, h2⟩ := iter_ind (step := (fun x : ((List T × List T × Int × Unit) × Unit) => (bif (decide (x.1.2.2.1 < (x.1.1.length : Int))) then if h1 : 0 <= x.1.2.2.1 /\ x.1.2.2.1.toNat < x.1.1.length then (let e2 := x.1.1[x.1.2.2.1.toNat]'h1.2; if h3 : 0 <= x.1.2.2.1 /\ x.1.2.2.1.toNat < x.1.2.1.length then (let e4 := x.1.2.1[x.1.2.2.1.toNat]'h3.2; (f e2 e4).bind fun y5 => bif (!y5) then some (.inr (.inl ((false, ()), ()))) else some (.inl ((x.1.1, x.1.2.1, (IntKind.i64.wrap (x.1.2.2.1 + (1 : Int))), ()), ()))) else none) else none else some (.inr (.inr (.inl ((), ())))) : Option (((List T × List T × Int × Unit) × Unit) ⊕ (((Bool × Unit) × Unit) ⊕ ((Unit × Unit) ⊕ Empty))))))
    (fun x => ∃ (i : Nat), x = ((l, l, (i : Int), ()), ()) /\ i <= l.length)
    (fun x => l.length - x.1.2.2.1.toNat) (fun z => z = .inr (.inl ((), ()))) (by
      rintro x ⟨i, rfl, hi⟩
      dsimp only
      by_cases h : i < l.length
      · left
        have c1 : decide ((i : Int) < (l.length : Int)) = true := by simpa using h
        have c2 : 0 <= (i : Int) /\ (i : Int).toNat < l.length := ⟨by omega, by simpa using h⟩
        rw [c1, cond_true, dif_pos c2, dif_pos c2, hf _ (List.getElem_mem _), bindS]
        refine ⟨_, rfl, ⟨i + 1, ?_, by omega⟩, ?_⟩
        · rw [w64 (by omega) (by omega)]
          simp
        · dsimp only
          rw [w64 (by omega) (by omega)]
          omega
      · right
        have c1 : decide ((i : Int) < (l.length : Int)) = false := by simpa using h
        rw [c1, cond_false]
        exact ⟨_, rfl, rfl⟩)
    big ((l, l, (0 : Int), ()), ()) ⟨0, rfl, by omega⟩ (by dsimp only; unfold big; omega)
  rw [h1, h2]
/-- What a budget test gives. -/
def Sz (n : Int) (Q : Prop) (o : Option Int) : Prop := ∃ y, o = some y /\ (y < 0 \/ 0 <= y /\ y <= n /\ Q)
theorem Sz.bind {n : Int} {Q R : Prop} {o : Option Int} {g : Int -> Option Int} (h : Sz n Q o) (hg : ∀ y, 0 <= y -> y <= n -> Q -> Sz n R (g y)) : Sz n R (o.bind fun y => bif (decide (y < (0 : Int))) then some (-1 : Int) else g y) := by
  obtain ⟨y, rfl, h | ⟨h1, h2, h3⟩⟩ := h
  · rw [bindS, decide_eq_true h]
    exact ⟨-1, rfl, .inl (by omega)⟩
  · rw [bindS, decide_eq_false (by omega)]
    exact hg y h1 h2 h3
theorem Sz.done {n : Int} {Q : Prop} {y : Int} (h1 : 0 <= y) (h2 : y <= n) (h3 : Q) : Sz n Q (some y) := ⟨y, rfl, .inr ⟨h1, h2, h3⟩⟩
theorem szLen {α : Type} {l : List α} {n : Int} (hl : l.length <= maxLen) (h0 : 0 <= n) (h1 : n <= 1048576) : Sz n (l.length <= 1048576) (bif (decide ((IntKind.i64.wrap (n - (l.length : Int))) < (0 : Int))) then some (-1 : Int) else some (IntKind.i64.wrap (n - (l.length : Int)))) := by
  unfold maxLen at hl
  rw [w64 (by omega) (by omega)]
  by_cases c : n - (l.length : Int) < 0
  · rw [decide_eq_true c]
    exact ⟨-1, rfl, .inl (by omega)⟩
  · rw [decide_eq_false c]
    exact ⟨_, rfl, .inr ⟨by omega, by omega, by omega⟩⟩
def ZPolicy (x : DPolicy) : Prop := (x.weights.length <= 1048576)
def ZAct (x : DAct) : Prop := ZPolicy x.policy
theorem toRequest (x : DReq) : fl_toRequest x = some x := by
  unfold fl_toRequest
  rfl
theorem eqRequest (x : DReq) : fl_eqRequest x x = some true := by
  unfold fl_eqRequest
  simp only [bindS, bne_self_eq_false, beq_self_eq_true, Bool.not_true, cond_false]
theorem toAddr (x : DAddr) : fl_toAddr x = some x := by
  unfold fl_toAddr
  rfl
theorem eqAddr (x : DAddr) : fl_eqAddr x x = some true := by
  unfold fl_eqAddr
  simp only [bindS, bne_self_eq_false, beq_self_eq_true, Bool.not_true, cond_false]
theorem szIntS (x : List Int) (h : (x.length <= maxLen /\ ∀ y ∈ x, in64 y)) {n : Int} (h0 : 0 <= n) (h1 : n <= 1048576) : Sz n (x.length <= 1048576) (fl_szIntS x n) := by
  exact szLen h.1 h0 h1
theorem toIntS (x : List Int) (hz : (x.length <= 1048576)) : fl_toIntS x = some x := by
  have hl := hz
  have hh := copyM ((0 : Int) : Int) some x (fun y hy => rfl) (by omega)
  unfold fl_toIntS
  rw [if_pos ⟨by omega, by omega, by omega⟩]
  refine (congrArg (fun o => Option.bind o _) hh).trans ?_
  rfl
theorem eqIntS (x : List Int) (hz : (x.length <= 1048576)) : fl_eqIntS x x = some true := by
  have hl := hz
  have hh := eqLoopM (fun a b : Int => some (a == b)) x (fun y hy => by simp) (by omega)
  unfold fl_eqIntS
  rw [show ((x.length : Int) != (x.length : Int)) = false by simp, cond_false]
  refine (congrArg (fun o => Option.bind o _) hh).trans ?_
  rfl
theorem toPowerRule (x : DPowerRule) : fl_toPowerRule x = some x := by
  unfold fl_toPowerRule
  rfl
theorem eqPowerRule (x : DPowerRule) : fl_eqPowerRule x x = some true := by
  unfold fl_eqPowerRule
  simp only [bindS, bne_self_eq_false, beq_self_eq_true, Bool.not_true, cond_false]
theorem szPolicy (x : DPolicy) (h : IPolicy x) {n : Int} (h0 : 0 <= n) (h1 : n <= 1048576) : Sz n (ZPolicy x) (fl_szPolicy x n) := by
  obtain ⟨i0, i1, i2, i3, i4, i5, i6⟩ := h
  unfold fl_szPolicy
  refine Sz.bind (szIntS x.weights i5 h0 h1) fun y5 a5 b5 z5 => ?_
  exact Sz.done a5 b5 z5
theorem toPolicy (x : DPolicy) (hz : ZPolicy x) : fl_toPolicy x = some x := by
  have z_Weights := hz
  unfold fl_toPolicy
  rw [toIntS x.weights z_Weights, bindS, toPowerRule x.rule, bindS]
theorem eqPolicy (x : DPolicy) (hz : ZPolicy x) : fl_eqPolicy x x = some true := by
  have z_Weights := hz
  unfold fl_eqPolicy
  simp only [eqIntS x.weights z_Weights, eqPowerRule x.rule, bindS, bne_self_eq_false, beq_self_eq_true, Bool.not_true, cond_false]
theorem szAct (x : DAct) (h : IAct x) {n : Int} (h0 : 0 <= n) (h1 : n <= 1048576) : Sz n (ZAct x) (fl_szAct x n) := by
  obtain ⟨i0, i1, i2, i3, i4, i5⟩ := h
  unfold fl_szAct
  refine Sz.bind (szPolicy x.policy i5 h0 h1) fun y5 a5 b5 z5 => ?_
  exact Sz.done a5 b5 z5
theorem toAct (x : DAct) (hz : ZAct x) : fl_toAct x = some x := by
  have z_Policy := hz
  unfold fl_toAct
  rw [toRequest x.request, bindS, toAddr x.addr, bindS, toPolicy x.policy z_Policy, bindS]
theorem eqAct (x : DAct) (hz : ZAct x) : fl_eqAct x x = some true := by
  have z_Policy := hz
  unfold fl_eqAct
  simp only [eqRequest x.request, eqAddr x.addr, eqPolicy x.policy z_Policy, bindS, bne_self_eq_false, beq_self_eq_true, Bool.not_true, cond_false]
def ok9 (n : Int) : Bool := inR n 0 1000000000
def flt (l : List Int) : List UInt8 := (l.map fun n => 32 :: Lib.itoa n).flatten
def txt (w : ByteArray) (l : List Int) : ByteArray := ⟨(w.data.toList ++ flt l).toArray⟩
theorem txt_0 (w : ByteArray) : txt w [] = w := bl_ext (by simp [txt, flt])
theorem txt_snoc (w : ByteArray) (l : List Int) (n : Int) : txt w (l ++ [n]) = (txt w l ++ ByteArray.mk #[32]) ++ itoaB n := bl_ext (by rw [bl_app, bl_app]; simp [txt, flt, itoaB])
theorem flt_len {l : List Int} (h : ∀ n ∈ l, in64 n) : (flt l).length <= 22 * l.length := by
  induction l with
  | nil => simp [flt]
  | cons b l ih =>
    have h1 : (Lib.itoa b).length <= 21 := itoa_len (h b (.head _)).1 (h b (.head _)).2
    have h2 := ih fun x hx => h x (.tail _ hx)
    have e : flt (b :: l) = 32 :: (Lib.itoa b ++ flt l) := by simp [flt]
    rw [e]
    simp only [List.length_append, List.length_cons]
    omega
theorem txt_len {w : ByteArray} {l : List Int} (h : ∀ n ∈ l, in64 n) : (txt w l).size <= w.size + 22 * l.length := by
  have h1 := flt_len h
  have e : (txt w l).size = w.size + (flt l).length := by
    show (w.data.toList ++ flt l).length = w.data.toList.length + (flt l).length
    rw [List.length_append]
  omega
def actTup (a : DAct) := (a.kind, a.request.id, a.request.tenant, a.request.line, a.request.write, a.request.data, a.request.at_, a.n, a.chip, a.addr.bank, a.addr.row, a.addr.col, a.policy.page, a.policy.cap, a.policy.limit, a.policy.low, a.policy.high, a.policy.weights, a.policy.rule.down, a.policy.rule.sleep, ())
theorem s_loop (a : DAct) (w : ByteArray) {ns : List Int} (hin : ∀ n ∈ ns, in64 n) (hl : ns.length <= 2000000) (hw : w.size <= 100) :
    iter Lfs_FormatAct_0 big (((), w, (), (0 : Int), ()), (actTup a, ns, ())) = some (bif ns.all ok9 then .inr (.inl (((), txt w ns, ()), (actTup a, ()))) else .inl ((ByteArray.mk #[], false, ()), ())) := by
  have e := iter_all (step := Lfs_FormatAct_0) ns ok9 (fun i => (((), txt w (ns.take i), (), (i : Int), ()), (actTup a, ns, ()))) (.inl ((ByteArray.mk #[], false, ()), ())) (.inr (.inl (((), txt w ns, ()), (actTup a, ())))) big (fun k h => by
    have h1 := txt_len (w := w) fun n hn => hin n (List.mem_of_mem_take (i := k) hn)
    rw [List.length_take] at h1
    have h2 := hin _ (List.getElem_mem h)
    have h3 := itoa_len h2.1 h2.2
    unfold Lfs_FormatAct_0 ok9
    dsimp only
    rw [decide_eq_true (by omega), cond_true, dif_pos ⟨by omega, by omega⟩, dif_pos (by omega)]
    simp only [Int.toNat_natCast]
    rw [m_in, bindS]
    cases inR ns[k] 0 1000000000 with
    | false => rfl
    | true =>
      rw [Bool.not_true, cond_false, okLen_t (by show (txt w (ns.take k)).size + 1 < _; omega), cond_true, dif_pos ⟨by omega, h⟩, dif_pos h, m_sFormatInt h2.1 h2.2, bindS, okLen_t (by rw [sz_app]; show (txt w (ns.take k)).size + 1 + _ < _; omega), cond_true, wrapS (by omega), take_succ_get h, txt_snoc]
      rfl) (by
    unfold Lfs_FormatAct_0
    dsimp only
    rw [decide_eq_false (by omega), cond_false, List.take_length]) (bigLt (by omega))
  rw [Int.natCast_zero, List.take_zero, txt_0] at e
  exact e
theorem i_loop (a : DAct) (w : ByteArray) {ns : List Int} (hl : ns.length <= 2000000) :
    iter Lfi_FormatAct_0 big (((), w, (), (), (ns.length : Int), (0 : Int), ()), (actTup a, ns, ())) = some (bif ns.all ok9 then .inr (.inl (((), w, (), ()), (actTup a, ns, ()))) else .inl ((ByteArray.mk #[], false, ()), ())) := by
  have e := iter_all (step := Lfi_FormatAct_0) ns ok9 (fun i => (((), w, (), (), (ns.length : Int), (i : Int), ()), (actTup a, ns, ()))) (.inl ((ByteArray.mk #[], false, ()), ())) (.inr (.inl (((), w, (), ()), (actTup a, ns, ())))) big (fun k h => by
    unfold Lfi_FormatAct_0 ok9
    dsimp only
    rw [decide_eq_true (by omega), cond_true, dif_pos ⟨by omega, by omega⟩, dif_pos (by omega)]
    simp only [Int.toNat_natCast]
    rw [m_between, bindS, wrapS (by omega)]
    cases inR ns[k] 0 1000000000 <;> rfl) (by
    unfold Lfi_FormatAct_0
    dsimp only
    rw [decide_eq_false (by omega), cond_false]) (bigLt (by omega))
  rw [Int.natCast_zero] at e
  exact e
def jn (ns : List Int) : ByteArray := ⟨(Lib.join (ns.map Lib.itoa) [32]).toArray⟩
theorem jn_flt : ∀ (n : Int) (ns : List Int), 32 :: Lib.join ((n :: ns).map Lib.itoa) [32] = flt (n :: ns)
  | n, [] => by simp [flt, Lib.join_one]
  | n, m :: ns => by
    have ih := jn_flt m ns
    rw [List.map_cons, Lib.join_cons, joinTail_ne (by simp)]
    have e : flt (n :: m :: ns) = 32 :: (Lib.itoa n ++ flt (m :: ns)) := by simp [flt]
    rw [e, <- ih]
    simp
theorem m_numbers {ns : List Int} (hne : ns ≠ []) (hin : ∀ n ∈ ns, in64 n) (hl : ns.length <= 2000000) : fi_numbers ns = some (jn ns) := by
  have e := iter_to (step := Lfi_numbers_0) ns.length (fun i => (((), ns, (ns.length : Int), (i : Int), ()), ((ns.take i).map itoaB, ()))) (.inl (((), ()), (ns.map itoaB, ()))) big (fun k h => by
    have h2 := hin _ (List.getElem_mem h)
    unfold Lfi_numbers_0
    dsimp only
    rw [decide_eq_true (by omega), cond_true, dif_pos ⟨by omega, by omega⟩]
    simp only [Int.toNat_natCast]
    rw [m_iFormatInt h2.1 h2.2, bindS, okLen_t (by simp; omega), cond_true, wrapS (by omega), take_succ_get h, List.map_append]
    rfl) (by
    unfold Lfi_numbers_0
    dsimp only
    rw [decide_eq_false (by omega), cond_false, List.take_length]) (bigLt (by omega))
  rw [Int.natCast_zero, List.take_zero] at e
  unfold fi_numbers
  refine (congrArg (fun o => Option.bind o _) e).trans ?_
  rw [bindS]
  simp only [Sum.elim_inl]
  have hm : (ns.map itoaB).map (·.data.toList) = ns.map Lib.itoa := by
    rw [List.map_map]
    exact List.map_congr_left fun n _ => rfl
  have hj : (Lib.join (ns.map Lib.itoa) [32]).length <= 22 * ns.length := by
    obtain ⟨n, l, rfl⟩ := List.exists_cons_of_ne_nil hne
    have := flt_len hin
    rw [<- jn_flt, List.length_cons] at this
    omega
  unfold x_Join
  rw [hm, show (ByteArray.mk #[32]).data.toList = [32] from rfl, decide_eq_true (by simp; omega), decide_eq_true (by omega)]
  rfl
theorem txt_jn (w : ByteArray) {ns : List Int} (hne : ns ≠ []) : (w ++ ByteArray.mk #[32]) ++ jn ns = txt w ns := by
  obtain ⟨n, l, rfl⟩ := List.exists_cons_of_ne_nil hne
  refine bl_ext ?_
  rw [bl_app, bl_app]
  show (w.data.toList ++ [32]) ++ Lib.join ((n :: l).map Lib.itoa) [32] = w.data.toList ++ flt (n :: l)
  rw [<- jn_flt]
  simp
def fin (a : DAct) (w : ByteArray) (ns : List Int) : ByteArray × Bool := bif ns.all ok9 then (bif a.request.write then ((txt w ns ++ ByteArray.mk #[32]) ++ fmtW a.request.data, true) else (txt w ns, true)) else (ByteArray.mk #[], false)
def sTail (a : DAct) (w : ByteArray) (ns : List Int) : Option (ByteArray × Bool) := (iter Lfs_FormatAct_0 big (((), w, (), (0 : Int), ()), (actTup a, ns, ()))).bind (Sum.elim (fun z => some (z.1.1, z.1.2.1)) (Sum.elim (fun z => bif z.2.1.2.2.2.2.1 then bif okLen (z.1.2.1.size + (ByteArray.mk #[32]).size) then (fs_FormatWord z.2.1.2.2.2.2.2.1).bind fun y => bif okLen ((z.1.2.1 ++ (ByteArray.mk #[32])).size + y.size) then some ((z.1.2.1 ++ (ByteArray.mk #[32])) ++ y, true) else none else none else some (z.1.2.1, true)) (fun z => nomatch z)))
theorem m_sTail (a : DAct) (w : ByteArray) {ns : List Int} (hin : ∀ n ∈ ns, in64 n) (hl : ns.length <= 2000000) (hw : w.size <= 100) : sTail a w ns = some (fin a w ns) := by
  have h1 := txt_len (w := w) hin
  have h2 := fmtW_size a.request.data
  unfold sTail fin
  rw [s_loop a w hin hl hw, bindS]
  cases ns.all ok9 with
  | false => rfl
  | true =>
    rw [cond_true, cond_true]
    show (bif a.request.write then bif okLen ((txt w ns).size + 1) then (fs_FormatWord a.request.data).bind fun y => bif okLen ((txt w ns ++ (ByteArray.mk #[32])).size + y.size) then some ((txt w ns ++ (ByteArray.mk #[32])) ++ y, true) else none else none else some (txt w ns, true)) = _
    cases a.request.write with
    | false => rfl
    | true => rw [cond_true, cond_true, okLen_t (by omega), cond_true, m_sFormatWord, bindS, okLen_t (by rw [sz_app]; show (txt w ns).size + 1 + _ < _; omega), cond_true]
def iTail (a : DAct) (w : ByteArray) (ns : List Int) : Option (ByteArray × Bool) := (iter Lfi_FormatAct_0 big (((), w, (), (), (ns.length : Int), (0 : Int), ()), (actTup a, ns, ()))).bind (Sum.elim (fun z => some (z.1.1, z.1.2.1)) (Sum.elim (fun z => bif okLen (z.1.2.1.size + (ByteArray.mk #[32]).size) then (fi_numbers z.2.2.1).bind fun y25 => bif okLen ((z.1.2.1 ++ (ByteArray.mk #[32])).size + y25.size) then bif z.2.1.2.2.2.2.1 then (fi_FormatWord z.2.1.2.2.2.2.2.1).bind fun y26 => bif okLen ((ByteArray.mk #[32]).size + y26.size) then bif okLen (((z.1.2.1 ++ (ByteArray.mk #[32])) ++ y25).size + ((ByteArray.mk #[32]) ++ y26).size) then some (((z.1.2.1 ++ (ByteArray.mk #[32])) ++ y25) ++ ((ByteArray.mk #[32]) ++ y26), true) else none else none else some ((z.1.2.1 ++ (ByteArray.mk #[32])) ++ y25, true) else none else none) (fun z => nomatch z)))
theorem m_iTail (a : DAct) (w : ByteArray) {ns : List Int} (hne : ns ≠ []) (hin : ∀ n ∈ ns, in64 n) (hl : ns.length <= 2000000) (hw : w.size <= 100) : iTail a w ns = some (fin a w ns) := by
  have h1 := txt_len (w := w) hin
  have h2 := fmtW_size a.request.data
  have h3 : (jn ns).size <= 22 * ns.length := by
    obtain ⟨n, l, rfl⟩ := List.exists_cons_of_ne_nil hne
    have := flt_len hin
    rw [<- jn_flt, List.length_cons] at this
    show (Lib.join ((n :: l).map Lib.itoa) [32]).length <= _
    omega
  unfold iTail fin
  rw [i_loop a w hl, bindS]
  cases ns.all ok9 with
  | false => rfl
  | true =>
    rw [cond_true, cond_true]
    show (bif okLen (w.size + 1) then (fi_numbers ns).bind fun y25 => bif okLen ((w ++ (ByteArray.mk #[32])).size + y25.size) then bif a.request.write then (fi_FormatWord a.request.data).bind fun y26 => bif okLen (1 + y26.size) then bif okLen (((w ++ (ByteArray.mk #[32])) ++ y25).size + ((ByteArray.mk #[32]) ++ y26).size) then some (((w ++ (ByteArray.mk #[32])) ++ y25) ++ ((ByteArray.mk #[32]) ++ y26), true) else none else none else some ((w ++ (ByteArray.mk #[32])) ++ y25, true) else none else none) = _
    rw [okLen_t (by omega), cond_true, m_numbers hne hin hl, bindS, okLen_t (by rw [sz_app]; show w.size + 1 + _ < _; omega), cond_true]
    cases a.request.write with
    | false => rw [cond_false, cond_false, txt_jn w hne]
    | true =>
      rw [cond_true, cond_true, m_iFormatWord, bindS, okLen_t (by omega), cond_true, txt_jn w hne, okLen_t (by rw [sz_app]; show (txt w ns).size + (1 + _) < _; omega), cond_true]
      congr 2
      exact bl_ext (by simp only [bl_app, List.append_assoc])
theorem bb1 (a x : Bool) : (bif a then some x else some false) = some (a && x) := by cases a <;> rfl
theorem bb2 (a x : Bool) : (bif !a then some false else some x) = some (a && x) := by cases a <;> rfl
theorem bb3 (a b : Int) (x : Bool) : (bif a != b then some false else some x) = some (a == b && x) := by
  rw [bne]
  cases a == b <;> rfl
theorem sameB_iff {a b : List Int} : sameB a b = true ↔ a = b := by
  unfold sameB
  rw [Bool.and_eq_true, List.all_eq_true]
  constructor
  · rintro ⟨h1, h2⟩
    have hl : a.length = b.length := by simp at h1; omega
    refine List.ext_getElem hl fun i hi hj => ?_
    have hz : i < (a.zip b).length := by rw [zip_len hl]; exact hi
    have := h2 (a.zip b)[i] (List.getElem_mem hz)
    rw [zip_get hl hz] at this
    simpa using this
  · rintro rfl
    refine ⟨by simp, fun p hp => ?_⟩
    obtain ⟨i, hi, rfl⟩ := List.getElem_of_mem hp
    rw [zip_get rfl hi]
    simp
def sE (x y : DAct) : Bool := (x.kind == y.kind) && (((x.request.id == y.request.id) && ((x.request.tenant == y.request.tenant) && ((x.request.line == y.request.line) && ((x.request.write == y.request.write) && ((x.request.data == y.request.data) && ((x.request.at_ == y.request.at_) && true)))))) && ((x.n == y.n) && ((x.chip == y.chip) && (((x.addr.bank == y.addr.bank) && ((x.addr.row == y.addr.row) && ((x.addr.col == y.addr.col) && true))) && ((x.policy.page == y.policy.page) && ((x.policy.cap == y.policy.cap) && ((x.policy.limit == y.policy.limit) && ((x.policy.low == y.policy.low) && ((x.policy.high == y.policy.high) && (((x.policy.rule.down == y.policy.rule.down) && ((x.policy.rule.sleep == y.policy.rule.sleep) && true)) && sameB x.policy.weights y.policy.weights))))))))))
theorem m_l40Same (x y : DAct) (h : x.policy.weights.length < 1073741824) : fs_l40Same x y = some (sE x y) := by
  unfold fs_l40Same sE
  simp only [m_sInts h, bindS, bb1, bb2, bb3]
def pE (x y : DPolicy) : Bool := (x.page == y.page) && ((x.cap == y.cap) && ((x.limit == y.limit) && ((x.low == y.low) && ((x.high == y.high) && (sameB x.weights y.weights && ((x.rule.down == y.rule.down) && ((x.rule.sleep == y.rule.sleep) && true)))))))
theorem m_samePolicy (x y : DPolicy) (h : x.weights.length < 1073741824) : fi_samePolicy x y = some (pE x y) := by
  unfold fi_samePolicy pE
  simp only [m_sameInts h, bindS, bb1]
def iE (u a : DAct) : Bool := ((u.request.id == a.request.id) && ((u.request.tenant == a.request.tenant) && ((u.request.line == a.request.line) && ((u.request.write == a.request.write) && ((u.request.data == a.request.data) && ((u.request.at_ == a.request.at_) && true)))))) && ((u.n == a.n) && ((u.chip == a.chip) && (((u.addr.bank == a.addr.bank) && ((u.addr.row == a.addr.row) && ((u.addr.col == a.addr.col) && true))) && pE u.policy a.policy)))
theorem sE_iE {a u : DAct} (hk : a.kind = u.kind) : sE a u = iE u a := by
  rw [Bool.eq_iff_iff]
  simp only [sE, iE, pE, Bool.and_eq_true, beq_iff_eq, sameB_iff]
  constructor
  · rintro ⟨_, ⟨r1, r2, r3, r4, r5, r6, _⟩, n, c, ⟨b1, b2, b3, _⟩, p1, p2, p3, p4, p5, ⟨d1, d2, _⟩, w⟩
    exact ⟨⟨r1.symm, r2.symm, r3.symm, r4.symm, r5.symm, r6.symm, trivial⟩, n.symm, c.symm, ⟨b1.symm, b2.symm, b3.symm, trivial⟩, p1.symm, p2.symm, p3.symm, p4.symm, p5.symm, w.symm, d1.symm, d2.symm, trivial⟩
  · rintro ⟨⟨r1, r2, r3, r4, r5, r6, _⟩, n, c, ⟨b1, b2, b3, _⟩, p1, p2, p3, p4, p5, w, d1, d2, _⟩
    exact ⟨hk, ⟨r1.symm, r2.symm, r3.symm, r4.symm, r5.symm, r6.symm, trivial⟩, n.symm, c.symm, ⟨b1.symm, b2.symm, b3.symm, trivial⟩, p1.symm, p2.symm, p3.symm, p4.symm, p5.symm, ⟨d1.symm, d2.symm, trivial⟩, w.symm⟩
def nilB : ByteArray := ByteArray.mk #[]
def uA (a : DAct) (d : Int) : DAct := ⟨a.kind, ⟨a.request.id, a.request.tenant, a.request.line, a.request.write, d, 0⟩, 0, 0, ⟨0, 0, 0⟩, ⟨0, 0, 0, 0, 0, [], ⟨0, 0⟩⟩⟩
def uN (a : DAct) : DAct := ⟨a.kind, ⟨0, 0, 0, false, 0, 0⟩, a.n, 0, ⟨0, 0, 0⟩, ⟨0, 0, 0, 0, 0, [], ⟨0, 0⟩⟩⟩
def uF (a : DAct) : DAct := ⟨a.kind, ⟨0, 0, 0, false, 0, 0⟩, a.n, a.chip, ⟨a.addr.bank, a.addr.row, a.addr.col⟩, ⟨0, 0, 0, 0, 0, [], ⟨0, 0⟩⟩⟩
def uR (a : DAct) : DAct := ⟨a.kind, ⟨0, 0, 0, false, 0, 0⟩, 0, 0, ⟨a.addr.bank, a.addr.row, 0⟩, ⟨0, 0, 0, 0, 0, [], ⟨0, 0⟩⟩⟩
def uP (a : DAct) : DAct := ⟨a.kind, ⟨0, 0, 0, false, 0, 0⟩, 0, 0, ⟨0, 0, 0⟩, a.policy⟩
def u0 (k : Int) : DAct := ⟨k, ⟨0, 0, 0, false, 0, 0⟩, 0, 0, ⟨0, 0, 0⟩, ⟨0, 0, 0, 0, 0, [], ⟨0, 0⟩⟩⟩
def wRead : ByteArray := ByteArray.mk #[114, 101, 97, 100]
def wWrite : ByteArray := ByteArray.mk #[119, 114, 105, 116, 101]
def wWait : ByteArray := ByteArray.mk #[119, 97, 105, 116]
def wHeat : ByteArray := ByteArray.mk #[104, 101, 97, 116]
def wFlip : ByteArray := ByteArray.mk #[102, 108, 105, 112]
def wRet : ByteArray := ByteArray.mk #[114, 101, 116, 105, 114, 101]
def wPol : ByteArray := ByteArray.mk #[112, 111, 108, 105, 99, 121]
def sBody (a u : DAct) (w : ByteArray) (ns : List Int) : Option (ByteArray × Bool) :=
  let k : Bool -> Option (ByteArray × Bool) := fun j => bif j then some (ByteArray.mk #[], false) else sTail a w ns
  bif (w.toList == (ByteArray.mk #[]).toList) then k true else (fs_l40Same a u).bind fun y => bif (!y) then k true else bif (a.kind == (5 : Int)) then bif ((a.policy.weights.length : Int) != (4 : Int)) then k true else (fs_IsWord a.request.data).bind fun y => k (!y) else (fs_IsWord a.request.data).bind fun y => k (!y)
def iBody (a u : DAct) (w : ByteArray) (ns : List Int) : Option (ByteArray × Bool) :=
  let k : Bool -> Option (ByteArray × Bool) := fun j => bif j then some (ByteArray.mk #[], false) else iTail a w ns
  bif (w.toList == (ByteArray.mk #[]).toList) then k true else bif (!((u.request.id == a.request.id) && ((u.request.tenant == a.request.tenant) && ((u.request.line == a.request.line) && ((u.request.write == a.request.write) && ((u.request.data == a.request.data) && ((u.request.at_ == a.request.at_) && true))))))) then k true else bif (u.n != a.n) then k true else bif (u.chip != a.chip) then k true else bif (!((u.addr.bank == a.addr.bank) && ((u.addr.row == a.addr.row) && ((u.addr.col == a.addr.col) && true)))) then k true else (fi_samePolicy u.policy a.policy).bind fun y => bif (!y) then k true else (fi_IsWord a.request.data).bind fun y => k (!y)
def lPol (a : DAct) : List Int := (([a.policy.page, a.policy.cap, a.policy.limit, a.policy.low, a.policy.high] : List Int) ++ a.policy.weights) ++ ([a.policy.rule.down, a.policy.rule.sleep] : List Int)
theorem s_split (a : DAct) : fs_FormatAct a = bif (a.kind == (1 : Int)) then bif (!a.request.write) then sBody a (uA a 0) wRead [a.request.id, a.request.tenant, a.request.line] else sBody a (uA a a.request.data) wWrite [a.request.id, a.request.tenant, a.request.line] else bif (a.kind == (2 : Int)) then sBody a (uN a) wWait [a.n] else bif (a.kind == (4 : Int)) then sBody a (uN a) wHeat [a.n] else bif (a.kind == (3 : Int)) then sBody a (uF a) wFlip [a.addr.bank, a.addr.row, a.addr.col, a.chip, a.n] else bif (a.kind == (6 : Int)) then sBody a (uR a) wRet [a.addr.bank, a.addr.row] else bif (a.kind == (5 : Int)) then bif okLen (([a.policy.page, a.policy.cap, a.policy.limit, a.policy.low, a.policy.high] : List Int).length + a.policy.weights.length) then bif okLen ((([a.policy.page, a.policy.cap, a.policy.limit, a.policy.low, a.policy.high] : List Int) ++ a.policy.weights).length + ([a.policy.rule.down, a.policy.rule.sleep] : List Int).length) then sBody a (uP a) wPol (lPol a) else none else none else sBody a (u0 0) nilB [] := rfl
theorem i_split (a : DAct) : fi_FormatAct a = (fi_actNumbers a).bind fun y => bif (a.kind == (1 : Int)) then bif (!a.request.write) then iBody a (uA a 0) y.1 y.2 else iBody a (uA a a.request.data) y.1 y.2 else (let k3 : Bool -> Option (ByteArray × Bool) := fun j => bif j then iBody a (uN a) y.1 y.2 else bif (a.kind == (3 : Int)) then iBody a (uF a) y.1 y.2 else bif (a.kind == (5 : Int)) then iBody a (uP a) y.1 y.2 else bif (a.kind == (6 : Int)) then iBody a (uR a) y.1 y.2 else iBody a (u0 a.kind) y.1 y.2; bif (a.kind == (2 : Int)) then k3 (a.kind == (2 : Int)) else k3 (a.kind == (4 : Int))) := rfl
def noE : ByteArray × Bool := (ByteArray.mk #[], false)
theorem m_sBody {a u : DAct} {w : ByteArray} {ns : List Int} (hne : (w.toList == (ByteArray.mk #[]).toList) = false) (hin : ∀ n ∈ ns, in64 n) (hl : ns.length <= 2000000) (hw : w.size <= 100) (hwt : a.policy.weights.length < 1073741824) (hq : (a.kind == 5) = false \/ a.policy.weights.length = 4) :
    sBody a u w ns = some (bif sE a u && inR a.request.data 0 4294967295 then fin a w ns else noE) := by
  unfold sBody
  simp only [hne, cond_false, m_l40Same _ _ hwt, bindS, m_sIsWord, m_sTail a w hin hl hw]
  have h4 : (a.kind == 5) = true -> ((a.policy.weights.length : Int) != (4 : Int)) = false := fun h => by
    rcases hq with h' | h'
    · rw [h'] at h; cases h
    · rw [h']; rfl
  cases sE a u with
  | false => rfl
  | true =>
    cases h5 : (a.kind == 5) with
    | false => cases inR a.request.data 0 4294967295 <;> rfl
    | true =>
      rw [h4 h5]
      cases inR a.request.data 0 4294967295 <;> rfl
theorem m_iBody {a u : DAct} {w : ByteArray} {ns : List Int} (hne : (w.toList == (ByteArray.mk #[]).toList) = false) (hn : ns ≠ []) (hin : ∀ n ∈ ns, in64 n) (hl : ns.length <= 2000000) (hw : w.size <= 100) (hwt : u.policy.weights.length < 1073741824) :
    iBody a u w ns = some (bif iE u a && inR a.request.data 0 4294967295 then fin a w ns else noE) := by
  unfold iBody
  simp only [hne, cond_false, m_samePolicy _ _ hwt, bindS, m_iIsWord, m_iTail a w hn hin hl hw]
  unfold iE
  cases ((u.request.id == a.request.id) && ((u.request.tenant == a.request.tenant) && ((u.request.line == a.request.line) && ((u.request.write == a.request.write) && ((u.request.data == a.request.data) && ((u.request.at_ == a.request.at_) && true)))))) with
  | false => rfl
  | true =>
    rw [bne, bne]
    cases (u.n == a.n) with
    | false => rfl
    | true =>
      cases (u.chip == a.chip) with
      | false => rfl
      | true =>
        cases ((u.addr.bank == a.addr.bank) && ((u.addr.row == a.addr.row) && ((u.addr.col == a.addr.col) && true))) with
        | false => rfl
        | true =>
          cases pE u.policy a.policy with
          | false => rfl
          | true => cases inR a.request.data 0 4294967295 <;> rfl
theorem nil_beq : ((ByteArray.mk #[]).toList == (ByteArray.mk #[]).toList) = true := beq_self_eq_true _
theorem n_sBody {a u : DAct} {ns : List Int} : sBody a u nilB ns = some noE := by
  unfold sBody nilB
  simp only [nil_beq, cond_true]
  rfl
theorem n_iBody {a u : DAct} {ns : List Int} : iBody a u (ByteArray.mk #[]) ns = some noE := by
  unfold iBody
  simp only [nil_beq, cond_true]
  rfl
theorem n_sPol {a u : DAct} {w : ByteArray} {ns : List Int} (hk : a.kind = 5) (hwt : a.policy.weights.length < 1073741824) (h4 : a.policy.weights.length ≠ 4) : sBody a u w ns = some noE := by
  unfold sBody
  have h5 : (a.kind == 5) = true := by simp [hk]
  have h6 : ((a.policy.weights.length : Int) != (4 : Int)) = true := by simp; omega
  simp only [m_l40Same _ _ hwt, bindS, h5, h6, cond_true]
  cases (w.toList == (ByteArray.mk #[]).toList) with
  | true => rfl
  | false => cases sE a u <;> rfl
theorem four {l : List Int} (h : l.length = 4) : l = [l[0], l[1], l[2], l[3]] := by
  match l, h with
  | [a, b, c, d], _ => rfl
theorem wne : (wRead.toList == (ByteArray.mk #[]).toList) = false /\ (wWrite.toList == (ByteArray.mk #[]).toList) = false /\ (wWait.toList == (ByteArray.mk #[]).toList) = false /\ (wHeat.toList == (ByteArray.mk #[]).toList) = false /\ (wFlip.toList == (ByteArray.mk #[]).toList) = false /\ (wRet.toList == (ByteArray.mk #[]).toList) = false /\ (wPol.toList == (ByteArray.mk #[]).toList) = false := by
  unfold wRead wWrite wWait wHeat wFlip wRet wPol
  decide +kernel
theorem both {a u : DAct} {w : ByteArray} {ns : List Int} (hk : a.kind = u.kind) (hne : (w.toList == (ByteArray.mk #[]).toList) = false) (hn : ns ≠ []) (hin : ∀ n ∈ ns, in64 n) (hl : ns.length <= 2000000) (hw : w.size <= 100) (hwa : a.policy.weights.length < 1073741824) (hwt : u.policy.weights.length < 1073741824) (hq : (a.kind == 5) = false \/ a.policy.weights.length = 4) :
    ∃ y, sBody a u w ns = some y /\ iBody a u w ns = some y := ⟨_, m_sBody hne hin hl hw hwa hq, by rw [m_iBody hne hn hin hl hw hwt, sE_iE hk]⟩
theorem p_same (a : DAct) (h : IAct a) (hz : ZAct a) : ∃ y, fs_FormatAct a = some y /\ fi_FormatAct a = some y := by
  obtain ⟨_, ⟨r1, r2, r3, _, r5, r6⟩, i1, i2, ⟨b1, b2, b3⟩, ⟨p1, p2, p3, p4, p5, p6, p7⟩⟩ := h
  have hwl : a.policy.weights.length <= 1048576 := hz
  obtain ⟨e1, e2, e3, e4, e5, e6, e7⟩ := wne
  have z : ([] : List Int).length < 1073741824 := by simp
  have hq : ∀ n : Int, a.kind = n -> n ≠ 5 -> (a.kind == 5) = false \/ a.policy.weights.length = 4 := fun n h h' => .inl (by rw [h]; simpa using h')
  rw [s_split, i_split]
  unfold fi_actNumbers
  by_cases k1 : a.kind = 1
  · simp only [k1, show ((1 : Int) == 1) = true from rfl, cond_true]
    have hin : ∀ n ∈ [a.request.id, a.request.tenant, a.request.line], in64 n := by
      simp only [List.forall_mem_cons]
      exact ⟨r1, r2, r3, fun _ h => by cases h⟩
    cases a.request.write with
    | true => exact both (u := uA a a.request.data) rfl e2 (by simp) hin (by simp) (by decide +kernel) (by omega) z (hq 1 k1 (by omega))
    | false => exact both (u := uA a 0) rfl e1 (by simp) hin (by simp) (by decide +kernel) (by omega) z (hq 1 k1 (by omega))
  have c1 : (a.kind == 1) = false := by simpa using k1
  by_cases k2 : a.kind = 2
  · simp only [k2, show ((2 : Int) == 1) = false from rfl, show ((2 : Int) == 2) = true from rfl, cond_true, cond_false]
    have hin : ∀ n ∈ [a.n], in64 n := by
      simp only [List.forall_mem_cons]
      exact ⟨i1, fun _ h => by cases h⟩
    exact both (u := uN a) rfl e3 (by simp) hin (by simp) (by decide +kernel) (by omega) z (hq 2 k2 (by omega))
  have c2 : (a.kind == 2) = false := by simpa using k2
  by_cases k4 : a.kind = 4
  · simp only [k4, show ((4 : Int) == 1) = false from rfl, show ((4 : Int) == 2) = false from rfl, show ((4 : Int) == 4) = true from rfl, cond_true, cond_false]
    have hin : ∀ n ∈ [a.n], in64 n := by
      simp only [List.forall_mem_cons]
      exact ⟨i1, fun _ h => by cases h⟩
    exact both (u := uN a) rfl e4 (by simp) hin (by simp) (by decide +kernel) (by omega) z (hq 4 k4 (by omega))
  have c4 : (a.kind == 4) = false := by simpa using k4
  by_cases k3 : a.kind = 3
  · simp only [k3, show ((3 : Int) == 1) = false from rfl, show ((3 : Int) == 2) = false from rfl, show ((3 : Int) == 4) = false from rfl, show ((3 : Int) == 3) = true from rfl, cond_true, cond_false]
    have hin : ∀ n ∈ [a.addr.bank, a.addr.row, a.addr.col, a.chip, a.n], in64 n := by
      simp only [List.forall_mem_cons]
      exact ⟨b1, b2, b3, i2, i1, fun _ h => by cases h⟩
    exact both (u := uF a) rfl e5 (by simp) hin (by simp) (by decide +kernel) (by omega) z (hq 3 k3 (by omega))
  have c3 : (a.kind == 3) = false := by simpa using k3
  by_cases k6 : a.kind = 6
  · simp only [k6, show ((6 : Int) == 1) = false from rfl, show ((6 : Int) == 2) = false from rfl, show ((6 : Int) == 4) = false from rfl, show ((6 : Int) == 3) = false from rfl, show ((6 : Int) == 5) = false from rfl, show ((6 : Int) == 6) = true from rfl, cond_true, cond_false]
    have hin : ∀ n ∈ [a.addr.bank, a.addr.row], in64 n := by
      simp only [List.forall_mem_cons]
      exact ⟨b1, b2, fun _ h => by cases h⟩
    exact both (u := uR a) rfl e6 (by simp) hin (by simp) (by decide +kernel) (by omega) z (hq 6 k6 (by omega))
  have c6 : (a.kind == 6) = false := by simpa using k6
  by_cases k5 : a.kind = 5
  · simp only [k5, show ((5 : Int) == 1) = false from rfl, show ((5 : Int) == 2) = false from rfl, show ((5 : Int) == 4) = false from rfl, show ((5 : Int) == 3) = false from rfl, show ((5 : Int) == 6) = false from rfl, show ((5 : Int) == 5) = true from rfl, cond_true, cond_false]
    rw [okLen_t (by simp; omega), cond_true, okLen_t (by simp; omega), cond_true]
    by_cases h4 : a.policy.weights.length = 4
    · have c : ((a.policy.weights.length : Int) == 4) = true := by simp [h4]
      rw [c, cond_true, dif_pos ⟨by omega, by show 0 < _; omega⟩, dif_pos ⟨by omega, by show 1 < _; omega⟩, dif_pos ⟨by omega, by show 2 < _; omega⟩, dif_pos ⟨by omega, by show 3 < _; omega⟩]
      have el : lPol a = [a.policy.page, a.policy.cap, a.policy.limit, a.policy.low, a.policy.high, a.policy.weights[0], a.policy.weights[1], a.policy.weights[2], a.policy.weights[3], a.policy.rule.down, a.policy.rule.sleep] := by
        exact congrArg (fun l : List Int => (([a.policy.page, a.policy.cap, a.policy.limit, a.policy.low, a.policy.high] : List Int) ++ l) ++ ([a.policy.rule.down, a.policy.rule.sleep] : List Int)) (four h4)
      have hin : ∀ n ∈ lPol a, in64 n := by
        unfold lPol
        intro n hn
        rcases List.mem_append.1 hn with hn | hn
        · rcases List.mem_append.1 hn with hn | hn
          · exact (show ∀ n ∈ [a.policy.page, a.policy.cap, a.policy.limit, a.policy.low, a.policy.high], in64 n by
              simp only [List.forall_mem_cons]
              exact ⟨p1, p2, p3, p4, p5, fun _ h => by cases h⟩) n hn
          · exact p6.2 n hn
        · exact (show ∀ n ∈ [a.policy.rule.down, a.policy.rule.sleep], in64 n by
            simp only [List.forall_mem_cons]
            exact ⟨p7.1, p7.2, fun _ h => by cases h⟩) n hn
      have := both (a := a) (u := uP a) (ns := lPol a) rfl e7 (by simp [lPol]) hin (by simp [lPol]; omega) (by decide +kernel) (by omega) (show a.policy.weights.length < _ by omega) (.inr h4)
      obtain ⟨y, y1, y2⟩ := this
      refine ⟨y, y1, ?_⟩
      rw [el] at y2
      exact y2
    · have c : ((a.policy.weights.length : Int) == 4) = false := by simp; omega
      rw [c, cond_false]
      exact ⟨_, n_sPol k5 (by omega) h4, n_iBody⟩
  have c5 : (a.kind == 5) = false := by simpa using k5
  simp only [c1, c2, c3, c4, c5, c6, cond_false]
  exact ⟨_, n_sBody, n_iBody⟩
theorem p_FnExactFormatAct (a : DAct) (hI : IAct a) : fl_FnExactFormatAct a = some true := by
  unfold fl_FnExactFormatAct
  obtain ⟨y, e, h | ⟨h1, h2, hz⟩⟩ := szAct a hI (n := 1048576) (by omega) (by omega)
  · rw [e, bindS, decide_eq_true h]
    rfl
  · rw [e, bindS, decide_eq_false (by omega), cond_false]
    obtain ⟨y, y1, y2⟩ := p_same a hI hz
    simp only [toAct a hz, bindS, y1, y2, eqAct a hz, beq_self_eq_true, Bool.not_true, cond_false]
theorem law_FnExactFormatAct (v0 : Value) (w : World) (r0 : RdS .Act IAct w v0) (hQ : Qw w) : Calls Tryd.prog 3 #[v0] w fun e w' => e = .returned (.bool true) /\ Below w.heap.size w w' := by
  obtain ⟨x, hx, us, rfl, h0⟩ := r0
  exact law_of ok_fl_FnExactFormatAct (ctrT_run (ai := [(true, .Act)]) (x := (x, ())) (by kernel_rfl) (p_FnExactFormatAct x hx)) (argS1 h0) (hd_top hQ)
theorem open_Act {H : Type} {enc' : TypeId × Value -> H} {w : World} {base : Nat} {v : Value} {d : DataW H} {p : List MemPlace} (hv : Value.okWide Tryd.prog w .any base 32 v) (h : DataW.Trod enc' Tryd.prog w 0 (fun _ => true) true 32 v d p) : RdS .Act IAct w v :=
  openS opnAct Tryd.underlying32 hv h
end Go.Proofs.YtaepnacbmeajoaaDoor
