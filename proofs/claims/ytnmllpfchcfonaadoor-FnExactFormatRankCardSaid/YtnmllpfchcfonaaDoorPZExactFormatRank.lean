/-
  Plain laws. Nothing here is a claim.
-/
import Derived.Test.YtnmllpfchcfonaaDoorVZ
import Derived.Test.YtnmllpfchcfonaaDoorOpenV
import Derived.Test.YtnmllpfchcfonaaDoorG1
namespace Go.Proofs.YtnmllpfchcfonaaDoor
open Go.RowKit
set_option linter.unusedVariables false
set_option linter.unusedSimpArgs false
set_option maxRecDepth 100000

theorem w64 {n : Int} (h1 : -9223372036854775808 ≤ n) (h2 : n < 9223372036854775808) : IntKind.i64.wrap n = n := by
  rw [IntKind.wrap_i64]; omega
theorem iter_ind {α β : Type} {step : α → Option (α ⊕ β)} (I : α → Prop) (m : α → Nat) (Q : β → Prop)
    (h : ∀ x, I x → (∃ y, step x = some (.inl y) ∧ I y ∧ m y < m x) ∨ ∃ z, step x = some (.inr z) ∧ Q z) :
    ∀ (n : Nat) (x : α), I x → m x < n → ∃ z, iter step n x = some z ∧ Q z
  | 0, x, _, hm => by omega
  | n + 1, x, hx, hm => by
    unfold iter
    rcases h x hx with ⟨y, h1, h2, h3⟩ | ⟨z, h1, h2⟩
    · rw [h1]
      exact iter_ind I m Q h n y h2 (by omega)
    · rw [h1]
      exact ⟨z, rfl, h2⟩
theorem bindS {α β : Type} (x : α) (f : α → Option β) : (some x).bind f = f x := rfl
/-- The loop that makes a copy. -/
theorem copyL {T : Type} (z0 : T) (f : T → Option T) (hf : ∀ x, f x = some x) (l : List T) (hl : l.length < 1073741824) :
    iter (α := ((List T × Unit × Int × Unit) × (List T × Unit))) (β := (((Unit × Unit) × (List T × Unit)) ⊕ Empty)) (fun x => bif (decide (x.1.2.2.1 < (x.1.1.length : Int))) then if h1 : 0 ≤ x.1.2.2.1 ∧ x.1.2.2.1.toNat < x.1.1.length then (let e2 := x.1.1[x.1.2.2.1.toNat]'h1.2; (f e2).bind fun y3 => if h4 : 0 ≤ x.1.2.2.1 ∧ x.1.2.2.1.toNat < x.2.1.length then if h5 : x.1.2.2.1.toNat < x.2.1.length then (let e6 := x.2.1[x.1.2.2.1.toNat]'h5; some (.inl ((x.1.1, (), (IntKind.i64.wrap (x.1.2.2.1 + (1 : Int))), ()), ((x.2.1.set x.1.2.2.1.toNat y3), ())))) else none else none) else none else some (.inr (.inl (((), ()), (x.2.1, ())))))
      big ((l, (), (0 : Int), ()), ((List.replicate (l.length : Int).toNat z0), ())) = some (.inl (((), ()), (l, ()))) := by
  obtain ⟨z, h1, h2⟩ := iter_ind (step := (fun x : ((List T × Unit × Int × Unit) × (List T × Unit)) => (bif (decide (x.1.2.2.1 < (x.1.1.length : Int))) then if h1 : 0 ≤ x.1.2.2.1 ∧ x.1.2.2.1.toNat < x.1.1.length then (let e2 := x.1.1[x.1.2.2.1.toNat]'h1.2; (f e2).bind fun y3 => if h4 : 0 ≤ x.1.2.2.1 ∧ x.1.2.2.1.toNat < x.2.1.length then if h5 : x.1.2.2.1.toNat < x.2.1.length then (let e6 := x.2.1[x.1.2.2.1.toNat]'h5; some (.inl ((x.1.1, (), (IntKind.i64.wrap (x.1.2.2.1 + (1 : Int))), ()), ((x.2.1.set x.1.2.2.1.toNat y3), ())))) else none else none) else none else some (.inr (.inl (((), ()), (x.2.1, ())))) : Option (((List T × Unit × Int × Unit) × (List T × Unit)) ⊕ (((Unit × Unit) × (List T × Unit)) ⊕ Empty)))))
    (fun x => ∃ (i : Nat) (a : List T), x = ((l, (), (i : Int), ()), (a, ())) ∧ i ≤ l.length ∧ a.length = l.length ∧ ∀ j, j < i → a[j]? = l[j]?)
    (fun x => l.length - x.1.2.2.1.toNat) (fun z => z = .inl (((), ()), (l, ()))) (by
      rintro x ⟨i, a, rfl, hi, ha, hj⟩
      dsimp only
      by_cases h : i < l.length
      · left
        have c1 : decide ((i : Int) < (l.length : Int)) = true := by simpa using h
        have c2 : 0 ≤ (i : Int) ∧ (i : Int).toNat < l.length := ⟨by omega, by simpa using h⟩
        have c3 : 0 ≤ (i : Int) ∧ (i : Int).toNat < a.length := ⟨by omega, by rw [ha]; simpa using h⟩
        rw [c1, cond_true, dif_pos c2, hf, bindS, dif_pos c3, dif_pos c3.2]
        refine ⟨_, rfl, ⟨i + 1, a.set i (l[i]'h), ?_, by omega, by simpa using ha, fun j hj' => ?_⟩, ?_⟩
        · rw [w64 (by omega) (by omega)]
          simp
        · rw [List.getElem?_set]
          by_cases e : i = j
          · subst e
            rw [if_pos rfl, if_pos (by omega), List.getElem?_eq_getElem h]
          · rw [if_neg e]
            exact hj j (by omega)
        · dsimp only
          rw [w64 (by omega) (by omega)]
          omega
      · right
        have c1 : decide ((i : Int) < (l.length : Int)) = false := by simpa using h
        rw [c1, cond_false]
        refine ⟨_, rfl, ?_⟩
        have : a = l := List.ext_getElem? fun j => by
          by_cases hjl : j < l.length
          · exact hj j (by omega)
          · rw [List.getElem?_eq_none (by omega), List.getElem?_eq_none (by omega)]
        rw [this])
    big ((l, (), (0 : Int), ()), ((List.replicate (l.length : Int).toNat z0), ())) ⟨0, _, rfl, by omega, by simp, fun j h => by omega⟩ (by dsimp only; unfold big; omega)
  rw [h1, h2]
/-- The loop that compares. -/
theorem eqLoop {T : Type} (f : T → T → Option Bool) (hf : ∀ x, f x x = some true) (l : List T) (hl : l.length < 1073741824) :
    iter (α := ((List T × List T × Int × Unit) × Unit)) (β := (((Bool × Unit) × Unit) ⊕ ((Unit × Unit) ⊕ Empty))) (fun x => bif (decide (x.1.2.2.1 < (x.1.1.length : Int))) then if h1 : 0 ≤ x.1.2.2.1 ∧ x.1.2.2.1.toNat < x.1.1.length then (let e2 := x.1.1[x.1.2.2.1.toNat]'h1.2; if h3 : 0 ≤ x.1.2.2.1 ∧ x.1.2.2.1.toNat < x.1.2.1.length then (let e4 := x.1.2.1[x.1.2.2.1.toNat]'h3.2; (f e2 e4).bind fun y5 => bif (!y5) then some (.inr (.inl ((false, ()), ()))) else some (.inl ((x.1.1, x.1.2.1, (IntKind.i64.wrap (x.1.2.2.1 + (1 : Int))), ()), ()))) else none) else none else some (.inr (.inr (.inl ((), ())))))
      big ((l, l, (0 : Int), ()), ()) = some (.inr (.inl ((), ()))) := by
  obtain ⟨z, h1, h2⟩ := iter_ind (step := (fun x : ((List T × List T × Int × Unit) × Unit) => (bif (decide (x.1.2.2.1 < (x.1.1.length : Int))) then if h1 : 0 ≤ x.1.2.2.1 ∧ x.1.2.2.1.toNat < x.1.1.length then (let e2 := x.1.1[x.1.2.2.1.toNat]'h1.2; if h3 : 0 ≤ x.1.2.2.1 ∧ x.1.2.2.1.toNat < x.1.2.1.length then (let e4 := x.1.2.1[x.1.2.2.1.toNat]'h3.2; (f e2 e4).bind fun y5 => bif (!y5) then some (.inr (.inl ((false, ()), ()))) else some (.inl ((x.1.1, x.1.2.1, (IntKind.i64.wrap (x.1.2.2.1 + (1 : Int))), ()), ()))) else none) else none else some (.inr (.inr (.inl ((), ())))) : Option (((List T × List T × Int × Unit) × Unit) ⊕ (((Bool × Unit) × Unit) ⊕ ((Unit × Unit) ⊕ Empty))))))
    (fun x => ∃ (i : Nat), x = ((l, l, (i : Int), ()), ()) ∧ i ≤ l.length)
    (fun x => l.length - x.1.2.2.1.toNat) (fun z => z = .inr (.inl ((), ()))) (by
      rintro x ⟨i, rfl, hi⟩
      dsimp only
      by_cases h : i < l.length
      · left
        have c1 : decide ((i : Int) < (l.length : Int)) = true := by simpa using h
        have c2 : 0 ≤ (i : Int) ∧ (i : Int).toNat < l.length := ⟨by omega, by simpa using h⟩
        rw [c1, cond_true, dif_pos c2, dif_pos c2, hf, bindS]
        refine ⟨_, rfl, ⟨i + 1, ?_, by omega⟩, ?_⟩
        · rw [w64 (by omega) (by omega)]
          simp
        · dsimp only
          rw [w64 (by omega) (by omega)]
          omega
      · right
        have c1 : decide ((i : Int) < (l.length : Int)) = false := by simpa using h
        rw [c1, cond_false]
        exact ⟨_, rfl, rfl⟩)
    big ((l, l, (0 : Int), ()), ()) ⟨0, rfl, by omega⟩ (by dsimp only; unfold big; omega)
  rw [h1, h2]
theorem okLen_t {n : Nat} (h : n < 1073741824) : okLen n = true := decide_eq_true h
theorem wrapS {i : Nat} (h : i < 4611686018427387904) : IntKind.i64.wrap ((i : Int) + 1) = ((i + 1 : Nat) : Int) := by
  rw [w64 (by omega) (by omega)]; simp
theorem bigLt {n : Nat} (h : n < 1073741824) : n < big := by unfold big; omega
def inR (x a b : Int) : Bool := decide (a ≤ x) && decide (x ≤ b)
theorem inR_iff {x a b : Int} : inR x a b = true ↔ a ≤ x ∧ x ≤ b := by simp [inR]
theorem m_between (x a b : Int) : fi_between x a b = some (inR x a b) := by
  unfold fi_between inR
  by_cases h : a ≤ x <;> simp [h]
theorem m_in (x a b : Int) : fs_l01In x a b = some (inR x a b) := m_between x a b
/-- A value is given, and it is of P. -/
def Gv {γ : Type} (P : γ → Prop) (o : Option γ) : Prop := ∃ y, o = some y ∧ P y
theorem Gv.pure {γ : Type} {P : γ → Prop} {y : γ} (h : P y) : Gv P (some y) := ⟨y, rfl, h⟩
theorem Gv.cond {γ : Type} {P : γ → Prop} {b : Bool} {x y : Option γ} (h1 : b = true → Gv P x) (h2 : b = false → Gv P y) : Gv P (bif b then x else y) := by
  cases b
  · exact h2 rfl
  · exact h1 rfl
theorem Gv.bind {α γ : Type} {Q : α → Prop} {P : γ → Prop} {f : Option α} {g : α → Option γ} (h : Gv Q f) (hg : ∀ y, Q y → Gv P (g y)) : Gv P (f.bind g) := by
  obtain ⟨y, rfl, hy⟩ := h
  exact hg y hy
theorem Gv.dif {γ : Type} {P : γ → Prop} {c : Prop} [Decidable c] {x : c → Option γ} {y : ¬ c → Option γ} (hc : c) (h : Gv P (x hc)) : Gv P (if h : c then x h else y h) := by
  rw [dif_pos hc]; exact h
theorem Gv.loop {α β γ : Type} {step : α → Option (α ⊕ β)} (n : Nat) (I : Nat → α → Prop) {P : γ → Prop} {K : β → Option γ} {x : α} {fuel : Nat} (h0 : I 0 x) (hf : n < fuel) (hs : ∀ k, k ≤ n → ∀ x, I k x → Gv (Sum.elim (fun y => k < n ∧ I (k + 1) y) (fun z => Gv P (K z))) (step x)) : Gv P ((iter step fuel x).bind K) := by
  have key : ∀ (m i fuel : Nat) (x : α), i + m = n → m < fuel → I i x → Gv P ((iter step fuel x).bind K) := by
    intro m
    induction m with
    | zero =>
      intro i fuel x hi hf hx
      match fuel, hf with
      | f + 1, _ =>
        obtain ⟨y, h1, h2⟩ := hs i (by omega) x hx
        unfold iter
        rw [h1]
        cases y with
        | inl y => exact absurd h2.1 (by omega)
        | inr z => exact h2
    | succ m ih =>
      intro i fuel x hi hf hx
      match fuel, hf with
      | f + 1, hf =>
        obtain ⟨y, h1, h2⟩ := hs i (by omega) x hx
        unfold iter
        rw [h1]
        cases y with
        | inl y => exact ih (i + 1) f y (by omega) (by omega) h2.2
        | inr z => exact h2
  exact key n 0 fuel x (by omega) hf h0
def itoaB (n : Int) : ByteArray := ⟨(Lib.itoa n).toArray⟩
theorem bl_ext {a b : ByteArray} (h : a.data.toList = b.data.toList) : a = b := by
  obtain ⟨⟨a⟩⟩ := a
  obtain ⟨⟨b⟩⟩ := b
  have h : a = b := h
  rw [h]
theorem bl_app (a b : ByteArray) : (a ++ b).data.toList = a.data.toList ++ b.data.toList := by
  rw [ByteArray.data_append, Array.toList_append]
theorem sz_app (a b : ByteArray) : (a ++ b).size = a.size + b.size := by
  show (a ++ b).data.size = a.data.size + b.data.size
  rw [ByteArray.data_append, Array.size_append]
def dd (v : Nat) : List UInt8 := if v = 0 then [] else Lib.decDigits v
theorem dd_step {v : Nat} (h : v ≠ 0) : dd v = dd (v / 10) ++ [UInt8.ofNat (48 + v % 10)] := by
  unfold dd
  rw [if_neg h, Lib.decDigits]
  by_cases h10 : v < 10
  · rw [dif_pos h10, if_pos (by omega), Nat.mod_eq_of_lt h10]; rfl
  · rw [dif_neg h10, if_neg (by omega)]
theorem m_figure {d : Nat} (h : d < 10) : fs_l01Figure (d : Int) = some (48 + (d : Int)) := by
  unfold fs_l01Figure
  rw [decide_eq_true (by omega), cond_true, w64 (by omega) (by omega), IntKind.wrap_u8]
  congr 1
  omega
theorem strOf1 (d : Nat) : (strOfNums [48 + (d : Int)]).data.toList = [UInt8.ofNat (48 + d)] := by
  have : (48 + (d : Int)).toNat = 48 + d := by omega
  show [UInt8.ofNat (48 + (d : Int)).toNat] = _
  rw [this]
theorem strOf1_size (x : Int) : (strOfNums [x]).size = 1 := rfl
theorem tm10 (v : Nat) : (v : Int).tmod 10 = ((v % 10 : Nat) : Int) ∧ (v : Int).tdiv 10 = ((v / 10 : Nat) : Int) := by
  constructor
  · rw [Int.tmod_eq_emod_of_nonneg (by omega)]; omega
  · rw [Int.tdiv_eq_ediv_of_nonneg (by omega)]; omega
theorem m_sFormatInt {n : Int} (h1 : -9223372036854775808 ≤ n) (h2 : n ≤ 9223372036854775807) : fs_FormatInt n = some (itoaB n) := by
  suffices g : Gv (fun y => y = itoaB n) (fs_FormatInt n) by
    obtain ⟨y, e, rfl⟩ := g
    exact e
  unfold fs_FormatInt
  refine Gv.cond (fun h => Gv.pure ?_) fun h0 => ?_
  · have h : n = 0 := by simpa using h
    subst h
    refine bl_ext ?_
    show [48] = Lib.itoa 0
    unfold Lib.itoa
    rw [if_neg (by omega), Lib.decDigits]
    rfl
  have h0 : n ≠ 0 := by simpa using h0
  have p20 : (10 : Nat) ^ 20 = 100000000000000000000 := by rfl
  have hit : (Lib.itoa n) = if n < 0 then 45 :: dd n.natAbs else dd n.natAbs := by
    have e : dd n.natAbs = Lib.decDigits n.natAbs := by unfold dd; rw [if_neg (by omega)]
    rw [e]
    unfold Lib.itoa
    by_cases hn : n < 0
    · rw [if_pos hn, if_pos hn]
    · rw [if_neg hn, if_neg hn, show n.toNat = n.natAbs by omega]
  refine Gv.loop 20 (fun k x => ∃ (v : Nat) (s : ByteArray), x = (((if n < 0 then -(v : Int) else (v : Int)), decide (n < 0), s, ()), ()) ∧ dd v ++ s.data.toList = dd n.natAbs ∧ v < 10 ^ (20 - k) ∧ s.size ≤ k ∧ v ≤ 9223372036854775808) ⟨n.natAbs, ByteArray.mk #[], ?_, by simp, by rw [p20]; omega, Nat.le_refl _, by omega⟩ (bigLt (by omega)) ?_
  · by_cases hn : n < 0
    · rw [if_pos hn, show -(n.natAbs : Int) = n by omega]
    · rw [if_neg hn, show (n.natAbs : Int) = n by omega]
  rintro k hk x ⟨v, s, rfl, hd, hv, hs, hu⟩
  obtain ⟨t1, t2⟩ := tm10 v
  unfold Lfs_FormatInt_0
  dsimp only
  refine Gv.cond (fun h => ?_) (fun h => ?_)
  · have hv0 : v ≠ 0 := by
      rintro rfl
      by_cases hn : n < 0 <;> simp [hn] at h
    have hk20 : k < 20 := by
      rcases Nat.lt_or_ge k 20 with h' | h'
      · exact h'
      · have : 20 - k = 0 := by omega
        rw [this] at hv
        omega
    have hv' : v / 10 < 10 ^ (20 - (k + 1)) := by
      have : 20 - k = (20 - (k + 1)) + 1 := by omega
      rw [this, Nat.pow_succ] at hv
      omega
    have hdd := dd_step hv0
    have fin : ∀ w : ByteArray, w.data.toList = [UInt8.ofNat (48 + v % 10)] → w.size = 1 → dd (v / 10) ++ (w ++ s).data.toList = dd n.natAbs ∧ (w ++ s).size ≤ k + 1 := by
      intro w hw hw1
      rw [bl_app, hw, ← List.append_assoc, ← hdd, sz_app, hw1]
      exact ⟨hd, by omega⟩
    have hm : v % 10 < 10 := Nat.mod_lt _ (by omega)
    have ho : ∀ w : ByteArray, w.size = 1 → okLen (w.size + s.size) = true := fun w hw => okLen_t (by omega)
    by_cases hn : n < 0
    · simp only [hn, if_true]
      rw [Int.neg_tmod, Int.neg_tdiv, t1, t2]
      rw [w64 (n := 0 - -((v % 10 : Nat) : Int)) (by omega) (by omega), w64 (n := -((v / 10 : Nat) : Int)) (by omega) (by omega), show (0 : Int) - -((v % 10 : Nat) : Int) = ((v % 10 : Nat) : Int) by omega, m_figure hm, bindS]
      refine Gv.cond (fun hb => ?_) fun hb => ?_
      · obtain ⟨f1, f2⟩ := fin _ (strOf1 (v % 10)) (strOf1_size _)
        rw [ho _ (strOf1_size _), cond_true]
        exact Gv.pure ⟨hk20, v / 10, _, by simp only [hn, if_true], f1, hv', f2, by omega⟩
      · have hz : v % 10 = 0 := by simp at hb; omega
        have e0 : -((v % 10 : Nat) : Int) = ((v % 10 : Nat) : Int) := by omega
        rw [e0, m_figure hm, bindS]
        obtain ⟨f1, f2⟩ := fin _ (strOf1 (v % 10)) (strOf1_size _)
        rw [ho _ (strOf1_size _), cond_true]
        exact Gv.pure ⟨hk20, v / 10, _, by simp only [hn, if_true], f1, hv', f2, by omega⟩
    · simp only [hn, if_false]
      rw [t1, t2, decide_eq_false (show ¬ (((v % 10 : Nat) : Int) < 0) by omega), cond_false, w64 (n := ((v / 10 : Nat) : Int)) (by omega) (by omega), m_figure hm, bindS]
      obtain ⟨f1, f2⟩ := fin _ (strOf1 (v % 10)) (strOf1_size _)
      rw [ho _ (strOf1_size _), cond_true]
      exact Gv.pure ⟨hk20, v / 10, _, by simp only [hn, if_false], f1, hv', f2, by omega⟩
  · have hv0 : v = 0 := by
      by_cases hn : n < 0 <;> simp [hn] at h <;> omega
    subst hv0
    have hd : s.data.toList = dd n.natAbs := by rw [← hd]; rfl
    refine Gv.pure ?_
    simp only [Sum.elim_inl, Sum.elim_inr]
    by_cases hn : n < 0
    · rw [decide_eq_true hn, cond_true, okLen_t (by show 1 + s.size < _; omega), cond_true]
      refine Gv.pure (bl_ext ?_)
      rw [bl_app, hd]
      show 45 :: dd n.natAbs = Lib.itoa n
      rw [hit, if_pos hn]
    · rw [decide_eq_false hn, cond_false]
      refine Gv.pure (bl_ext ?_)
      rw [hd]
      show dd n.natAbs = Lib.itoa n
      rw [hit, if_neg hn]
theorem itoa_len {n : Int} (h1 : -9223372036854775808 ≤ n) (h2 : n ≤ 9223372036854775807) : (itoaB n).size ≤ 21 := Lib.itoa_length_le n h1 h2
theorem joinTail_ne {sep : List UInt8} {r : List (List UInt8)} (h : r ≠ []) : Lib.joinTail sep r = sep ++ Lib.join r sep := by
  cases r with
  | nil => exact absurd rfl h
  | cons y r => rw [Lib.join_cons]; simp [Lib.joinTail]
theorem join_last (xs : List (List UInt8)) (e sep : List UInt8) : Lib.join (xs ++ [e]) sep = (xs.map (· ++ sep)).flatten ++ e := by
  induction xs with
  | nil => simp [Lib.join_one]
  | cons x xs ih =>
    rw [List.cons_append, Lib.join_cons, joinTail_ne (by simp), ih]
    simp
def wd (b : DBank) : ByteArray := bif b.open_ then itoaB b.row else ByteArray.mk #[45]
def rowOk (b : DBank) : Prop := -9223372036854775808 ≤ b.row ∧ b.row ≤ 9223372036854775807
theorem wd_len {b : DBank} (h : rowOk b) : (wd b).data.toList.length ≤ 21 := by
  unfold wd
  cases b.open_ with
  | false => simp
  | true => exact itoa_len h.1 h.2
def cat (l : List DBank) : List UInt8 := (l.map fun b => (wd b).data.toList ++ [32]).flatten
theorem cat_snoc (l : List DBank) (b : DBank) : cat (l ++ [b]) = cat l ++ (wd b).data.toList ++ [32] := by simp [cat]
theorem cat_len {l : List DBank} (h : ∀ b ∈ l, rowOk b) : (cat l).length ≤ 22 * l.length := by
  induction l with
  | nil => simp [cat]
  | cons b l ih =>
    have h1 := wd_len (h b (.head _))
    have h2 := ih fun x hx => h x (.tail _ hx)
    have e : cat (b :: l) = (wd b).data.toList ++ [32] ++ cat l := by simp [cat]
    rw [e]
    simp only [List.length_append, List.length_cons, List.length_nil]
    omega
def W3 : List ByteArray := [(ByteArray.mk #[97, 99, 116, 105, 118, 101]), (ByteArray.mk #[100, 111, 119, 110]), (ByteArray.mk #[115, 108, 101, 101, 112])]
def fmtR (r : DRank) : ByteArray := if h : (0 ≤ r.power ∧ r.power ≤ 2) ∧ r.power.toNat < W3.length then ⟨(cat r.banks ++ (W3[r.power.toNat]'h.2).data.toList).toArray⟩ else ByteArray.mk #[]
theorem W3_len {k : Nat} (h : k < W3.length) : (W3[k]'h).data.toList.length ≤ 6 := by
  have h3 : k < 3 := h
  rcases (by omega : k = 0 ∨ k = 1 ∨ k = 2) with rfl | rfl | rfl <;> simp [W3]
theorem fmtR_in {r : DRank} (h : inR r.power 0 2 = true) : ∃ hk : r.power.toNat < W3.length, 0 ≤ r.power ∧ fmtR r = ⟨(cat r.banks ++ (W3[r.power.toNat]'hk).data.toList).toArray⟩ := by
  have h := inR_iff.1 h
  have hk : r.power.toNat < W3.length := by show r.power.toNat < 3; omega
  refine ⟨hk, h.1, ?_⟩
  unfold fmtR
  rw [dif_pos ⟨h, hk⟩]
theorem fmtR_out {r : DRank} (h : inR r.power 0 2 = false) : fmtR r = ByteArray.mk #[] := by
  unfold fmtR
  rw [dif_neg]
  rintro ⟨h', _⟩
  rw [inR_iff.2 h'] at h
  cases h
theorem take_ok {l : List DBank} (h : ∀ b ∈ l, rowOk b) (i : Nat) : ∀ b ∈ l.take i, rowOk b := fun b hb => h b (List.mem_of_mem_take hb)
theorem m_sFormatRank (r : DRank) (hl : r.banks.length ≤ 1048576) (hb : ∀ b ∈ r.banks, rowOk b) : fs_FormatRank r = some (fmtR r) := by
  suffices g : Gv (fun y => y = fmtR r) (fs_FormatRank r) by
    obtain ⟨y, e, rfl⟩ := g
    exact e
  unfold fs_FormatRank
  rw [m_in, bindS]
  cases hp : inR r.power 0 2 with
  | false => exact Gv.pure (fmtR_out hp).symm
  | true =>
    obtain ⟨hk, h0, hf⟩ := fmtR_in hp
    rw [Bool.not_true, cond_false]
    refine Gv.loop r.banks.length (fun i x => ∃ s : ByteArray, x = (((), s, (i : Int), ()), ((r.banks, r.power, ()), ())) ∧ s.data.toList = cat (r.banks.take i)) ⟨_, rfl, by simp [cat]⟩ (bigLt (by omega)) ?_
    rintro i hi x ⟨s, rfl, hs⟩
    have hsz : s.size ≤ 22 * 1048576 := by
      have h1 := cat_len (take_ok hb i)
      rw [← hs, List.length_take] at h1
      have : s.data.toList.length = s.size := rfl
      omega
    unfold Lfs_FormatRank_0
    dsimp only
    refine Gv.cond (fun h => ?_) (fun h => ?_)
    · have h : i < r.banks.length := by simp at h; omega
      have hr := hb _ (List.getElem_mem h)
      have e : cat (r.banks.take (i + 1)) = cat (r.banks.take i) ++ (wd r.banks[i]).data.toList ++ [32] := by
        rw [List.take_succ_eq_append_getElem h, cat_snoc]
      refine Gv.dif ⟨by omega, by omega⟩ ?_
      simp only [Int.toNat_natCast]
      refine Gv.cond (fun ho => Gv.dif ⟨by omega, h⟩ ?_) (fun ho => ?_)
      · rw [m_sFormatInt hr.1 hr.2, bindS]
        have hl2 := itoa_len hr.1 hr.2
        rw [okLen_t (by omega), cond_true, okLen_t (by rw [sz_app]; show s.size + _ + 1 < _; omega), cond_true]
        refine Gv.pure ⟨h, _, by rw [wrapS (by omega)], ?_⟩
        rw [bl_app, bl_app, hs, e]
        unfold wd
        rw [ho]
        rfl
      · rw [okLen_t (by show s.size + 2 < _; omega), cond_true]
        refine Gv.pure ⟨h, _, by rw [wrapS (by omega)], ?_⟩
        rw [bl_app, hs, e]
        unfold wd
        rw [ho, cond_false]
        simp
    · refine Gv.pure ?_
      have hi : i = r.banks.length := by simp at h; omega
      subst hi
      rw [List.take_length] at hs
      simp only [Sum.elim_inl, Sum.elim_inr]
      have hw := W3_len hk
      refine Gv.dif ⟨h0, hk⟩ (Gv.dif hk ?_)
      rw [okLen_t (by have : (W3[r.power.toNat]'hk).data.toList.length = (W3[r.power.toNat]'hk).size := rfl; show s.size + (W3[r.power.toNat]'hk).size < _; omega), cond_true]
      refine Gv.pure (bl_ext ?_)
      rw [bl_app, hf, hs]
      rfl
theorem m_iFormatRank (r : DRank) (hl : r.banks.length ≤ 1048576) (hb : ∀ b ∈ r.banks, rowOk b) : fi_FormatRank r = some (fmtR r) := by
  suffices g : Gv (fun y => y = fmtR r) (fi_FormatRank r) by
    obtain ⟨y, e, rfl⟩ := g
    exact e
  unfold fi_FormatRank
  rw [m_between, bindS]
  cases hp : inR r.power 0 2 with
  | false => exact Gv.pure (fmtR_out hp).symm
  | true =>
    obtain ⟨hk, h0, hf⟩ := fmtR_in hp
    rw [Bool.not_true, cond_false]
    refine Gv.loop r.banks.length (fun i x => x = (((), (), r.banks, (r.banks.length : Int), (i : Int), ()), ((r.banks, r.power, ()), (r.banks.take i).map wd, ()))) rfl (bigLt (by omega)) ?_
    rintro i hi x rfl
    unfold Lfi_FormatRank_0
    dsimp only
    refine Gv.cond (fun h => ?_) (fun h => ?_)
    · have h : i < r.banks.length := by simp at h; omega
      have hr := hb _ (List.getElem_mem h)
      have e : (r.banks.take (i + 1)).map wd = (r.banks.take i).map wd ++ [wd r.banks[i]] := by
        rw [List.take_succ_eq_append_getElem h, List.map_append]; rfl
      refine Gv.dif ⟨by omega, by omega⟩ ?_
      simp only [Int.toNat_natCast]
      have ho1 : okLen (((r.banks.take i).map wd).length + 1) = true := okLen_t (by simp; omega)
      refine Gv.cond (fun ho => ?_) (fun ho => ?_)
      · have hx : fi_FormatInt r.banks[i].row = some (itoaB r.banks[i].row) := by
          unfold fi_FormatInt x_Itoa
          rw [decide_eq_true hr.1, decide_eq_true hr.2]
          rfl
        rw [hx, bindS, List.length_singleton, ho1, cond_true]
        refine Gv.pure ⟨h, ?_⟩
        rw [wrapS (by omega), e]
        unfold wd
        rw [ho]
        rfl
      · rw [List.length_singleton, ho1, cond_true]
        refine Gv.pure ⟨h, ?_⟩
        rw [wrapS (by omega), e]
        unfold wd
        rw [ho]
        rfl
    · refine Gv.pure ?_
      have hi : i = r.banks.length := by simp at h; omega
      subst hi
      simp only [Sum.elim_inl, Sum.elim_inr, List.take_length]
      have hw := W3_len hk
      refine Gv.dif ⟨h0, hk⟩ (Gv.dif hk ?_)
      rw [List.length_singleton, okLen_t (by simp; omega), cond_true]
      have hj : Lib.join ((r.banks.map wd ++ [W3[r.power.toNat]'hk]).map (·.data.toList)) [32] = cat r.banks ++ (W3[r.power.toNat]'hk).data.toList := by
        rw [List.map_append, List.map_singleton, join_last]
        unfold cat
        simp only [List.map_map]
        rfl
      have hx : x_Join (r.banks.map wd ++ [W3[r.power.toNat]'hk]) (ByteArray.mk #[32]) = some (fmtR r) := by
        have hc := cat_len hb
        unfold x_Join
        rw [show (ByteArray.mk #[32]).data.toList = [32] from rfl, hj, hf, decide_eq_true (by simp; omega), decide_eq_true (by rw [List.length_append]; omega)]
        rfl
      exact Gv.bind (Q := fun y => y = fmtR r) ⟨_, hx, rfl⟩ fun y hy => Gv.pure hy
theorem p_toBankS (l : List DBank) (h : l.length < 1073741824) : fl_toBankS l = some l := by
  have e : iter Lfl_toBankS_0 big ((l, (), (0 : Int), ()), ((List.replicate (l.length : Int).toNat (⟨false, (0 : Int)⟩ : DBank)), ())) = some (.inl (((), ()), (l, ()))) := copyL _ fl_toBank (fun _ => rfl) l h
  unfold fl_toBankS
  rw [if_pos ⟨by omega, by omega, by omega⟩, e]
  rfl
theorem p_eqBankS (l : List DBank) (h : l.length < 1073741824) : fl_eqBankS l l = some true := by
  have e : iter Lfl_eqBankS_0 big ((l, l, (0 : Int), ()), ()) = some (.inr (.inl ((), ()))) := eqLoop fl_eqBank (fun x => by simp [fl_eqBank]) l h
  unfold fl_eqBankS
  rw [e]
  simp
theorem p_FnExactFormatRank (r : DRank) (hm : r.banks.length ≤ maxLen) (hb : ∀ b ∈ r.banks, rowOk b) : fl_FnExactFormatRank r = some true := by
  have hmx : r.banks.length < 9223372036854775808 := by unfold maxLen at hm; omega
  unfold fl_FnExactFormatRank fl_szRank fl_szBankS
  rw [w64 (n := 1048576 - (r.banks.length : Int)) (by omega) (by omega)]
  by_cases hl : r.banks.length ≤ 1048576
  · have e1 : fl_toRank r = some r := by
      unfold fl_toRank
      rw [p_toBankS _ (by omega), bindS]
    have e2 : fl_eqRank r r = some true := by
      unfold fl_eqRank
      rw [p_eqBankS _ (by omega), bindS]
      simp
    have c1 : decide ((1048576 : Int) - (r.banks.length : Int) < 0) = false := decide_eq_false (by omega)
    simp only [c1, cond_false, bindS, e1, m_sFormatRank r hl hb, m_iFormatRank r hl hb, e2, beq_self_eq_true, Bool.not_true]
  · have c1 : decide ((1048576 : Int) - (r.banks.length : Int) < 0) = true := decide_eq_true (by omega)
    simp only [c1, cond_true, bindS]
    rfl
def BankI (b : DBank) : Prop := rowOk b
def RankI (r : DRank) : Prop := (r.banks.length ≤ maxLen ∧ ∀ b ∈ r.banks, BankI b) ∧ in64 r.power
theorem cs_two {α : Type} {cs : List α} (h : cs.length = 2) : cs = (cs.drop 0).take 1 ++ (cs.drop 1).take 1 := by
  match cs, h with
  | [a, b], _ => rfl
theorem opn_Bank {H : Type} {enc' : TypeId × Value → H} {w : World} : Opn enc' Tryd.prog w 85 .Bank BankI := fun n cs x hx => by
  obtain ⟨a, _, r1⟩ := Opn.part Tryd.underlying85 hx (i := 0) rfl (Opn.bool Tryd.underlying4) (off := 0) (k := 1) rfl (by kernel_rfl)
  obtain ⟨b, hb, r2⟩ := Opn.part Tryd.underlying85 hx (i := 1) rfl (Opn.int Tryd.underlying3) (off := 1) (k := 1) rfl (by kernel_rfl)
  have hl := Opn.len Tryd.underlying85 hx
  have hc : Tryd.prog.cellsOf 85 = 2 := by kernel_rfl
  rw [hc] at hl
  refine ⟨⟨a, b⟩, hb, ?_⟩
  rw [cs_two hl]
  exact r1.append r2
theorem opn_Rank {H : Type} {enc' : TypeId × Value → H} {w : World} : Opn enc' Tryd.prog w 43 .Rank RankI := fun n cs x hx => by
  obtain ⟨a, ha, r1⟩ := Opn.part Tryd.underlying43 hx (i := 0) rfl (Opn.sl Tryd.underlying41 (by kernel_rfl) opn_Bank) (off := 0) (k := 1) rfl (by kernel_rfl)
  obtain ⟨b, hb, r2⟩ := Opn.part Tryd.underlying43 hx (i := 1) rfl (Opn.int Tryd.underlying3) (off := 1) (k := 1) rfl (by kernel_rfl)
  have hl := Opn.len Tryd.underlying43 hx
  have hc : Tryd.prog.cellsOf 43 = 2 := by kernel_rfl
  rw [hc] at hl
  refine ⟨⟨a, b⟩, ⟨ha, hb⟩, ?_⟩
  rw [cs_two hl]
  exact r1.append r2
theorem open_Rank {H : Type} {enc' : TypeId × Value → H} {w : World} {base : Nat} {v : Value} {d : DataW H} {p : List MemPlace} (hv : Value.okWide Tryd.prog w .any base 43 v) (h : DataW.Trod enc' Tryd.prog w 0 (fun _ => true) true 43 v d p) : RdS .Rank RankI w v := openS opn_Rank Tryd.underlying43 hv h
theorem law_FnExactFormatRank (v0 : Value) (w : World) (r0 : RdS .Rank RankI w v0) (hQ : Qw w) : Calls Tryd.prog 6 #[v0] w fun e w' => e = .returned (.bool true) ∧ Below w.heap.size w w' := by
  obtain ⟨r, hI, us, rfl, hr⟩ := r0
  exact law_of ok_fl_FnExactFormatRank (ctrT_run (ai := [(true, .Rank)]) (x := (r, ())) (by kernel_rfl) (p_FnExactFormatRank r hI.1.1 hI.1.2)) (argS1 hr) (hd_top hQ)
end Go.Proofs.YtnmllpfchcfonaaDoor
