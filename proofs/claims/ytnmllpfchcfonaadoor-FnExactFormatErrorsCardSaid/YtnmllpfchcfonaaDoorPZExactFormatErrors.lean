/-
  Plain laws. Nothing here is a claim.
-/
import Derived.Test.YtnmllpfchcfonaaDoorVZ
import Derived.Test.YtnmllpfchcfonaaDoorOpenV
import Derived.Test.YtnmllpfchcfonaaDoorG1
namespace Go.Proofs.YtnmllpfchcfonaaDoor
open Go.RowKit
set_option linter.unusedVariables false
set_option linter.unusedSimpArgs false
set_option maxRecDepth 100000

theorem w64 {n : Int} (h1 : -9223372036854775808 ≤ n) (h2 : n < 9223372036854775808) : IntKind.i64.wrap n = n := by
  rw [IntKind.wrap_i64]; omega
theorem iter_ind {α β : Type} {step : α → Option (α ⊕ β)} (I : α → Prop) (m : α → Nat) (Q : β → Prop)
    (h : ∀ x, I x → (∃ y, step x = some (.inl y) ∧ I y ∧ m y < m x) ∨ ∃ z, step x = some (.inr z) ∧ Q z) :
    ∀ (n : Nat) (x : α), I x → m x < n → ∃ z, iter step n x = some z ∧ Q z
  | 0, x, _, hm => by omega
  | n + 1, x, hx, hm => by
    unfold iter
    rcases h x hx with ⟨y, h1, h2, h3⟩ | ⟨z, h1, h2⟩
    · rw [h1]
      exact iter_ind I m Q h n y h2 (by omega)
    · rw [h1]
      exact ⟨z, rfl, h2⟩
theorem bindS {α β : Type} (x : α) (f : α → Option β) : (some x).bind f = f x := rfl
/-- The loop that makes a copy. -/
theorem copyL {T : Type} (z0 : T) (f : T → Option T) (hf : ∀ x, f x = some x) (l : List T) (hl : l.length < 1073741824) :
    iter (α := ((List T × Unit × Int × Unit) × (List T × Unit))) (β := (((Unit × Unit) × (List T × Unit)) ⊕ Empty)) (fun x => bif (decide (x.1.2.2.1 < (x.1.1.length : Int))) then if h1 : 0 ≤ x.1.2.2.1 ∧ x.1.2.2.1.toNat < x.1.1.length then (let e2 := x.1.1[x.1.2.2.1.toNat]'h1.2; (f e2).bind fun y3 => if h4 : 0 ≤ x.1.2.2.1 ∧ x.1.2.2.1.toNat < x.2.1.length then if h5 : x.1.2.2.1.toNat < x.2.1.length then (let e6 := x.2.1[x.1.2.2.1.toNat]'h5; some (.inl ((x.1.1, (), (IntKind.i64.wrap (x.1.2.2.1 + (1 : Int))), ()), ((x.2.1.set x.1.2.2.1.toNat y3), ())))) else none else none) else none else some (.inr (.inl (((), ()), (x.2.1, ())))))
      big ((l, (), (0 : Int), ()), ((List.replicate (l.length : Int).toNat z0), ())) = some (.inl (((), ()), (l, ()))) := by
  obtain ⟨z, h1, h2⟩ := iter_ind (step := (fun x : ((List T × Unit × Int × Unit) × (List T × Unit)) => (bif (decide (x.1.2.2.1 < (x.1.1.length : Int))) then if h1 : 0 ≤ x.1.2.2.1 ∧ x.1.2.2.1.toNat < x.1.1.length then (let e2 := x.1.1[x.1.2.2.1.toNat]'h1.2; (f e2).bind fun y3 => if h4 : 0 ≤ x.1.2.2.1 ∧ x.1.2.2.1.toNat < x.2.1.length then if h5 : x.1.2.2.1.toNat < x.2.1.length then (let e6 := x.2.1[x.1.2.2.1.toNat]'h5; some (.inl ((x.1.1, (), (IntKind.i64.wrap (x.1.2.2.1 + (1 : Int))), ()), ((x.2.1.set x.1.2.2.1.toNat y3), ())))) else none else none) else none else some (.inr (.inl (((), ()), (x.2.1, ())))) : Option (((List T × Unit × Int × Unit) × (List T × Unit)) ⊕ (((Unit × Unit) × (List T × Unit)) ⊕ Empty)))))
    (fun x => ∃ (i : Nat) (a : List T), x = ((l, (), (i : Int), ()), (a, ())) ∧ i ≤ l.length ∧ a.length = l.length ∧ ∀ j, j < i → a[j]? = l[j]?)
    (fun x => l.length - x.1.2.2.1.toNat) (fun z => z = .inl (((), ()), (l, ()))) (by
      rintro x ⟨i, a, rfl, hi, ha, hj⟩
      dsimp only
      by_cases h : i < l.length
      · left
        have c1 : decide ((i : Int) < (l.length : Int)) = true := by simpa using h
        have c2 : 0 ≤ (i : Int) ∧ (i : Int).toNat < l.length := ⟨by omega, by simpa using h⟩
        have c3 : 0 ≤ (i : Int) ∧ (i : Int).toNat < a.length := ⟨by omega, by rw [ha]; simpa using h⟩
        rw [c1, cond_true, dif_pos c2, hf, bindS, dif_pos c3, dif_pos c3.2]
        refine ⟨_, rfl, ⟨i + 1, a.set i (l[i]'h), ?_, by omega, by simpa using ha, fun j hj' => ?_⟩, ?_⟩
        · rw [w64 (by omega) (by omega)]
          simp
        · rw [List.getElem?_set]
          by_cases e : i = j
          · subst e
            rw [if_pos rfl, if_pos (by omega), List.getElem?_eq_getElem h]
          · rw [if_neg e]
            exact hj j (by omega)
        · dsimp only
          rw [w64 (by omega) (by omega)]
          omega
      · right
        have c1 : decide ((i : Int) < (l.length : Int)) = false := by simpa using h
        rw [c1, cond_false]
        refine ⟨_, rfl, ?_⟩
        have : a = l := List.ext_getElem? fun j => by
          by_cases hjl : j < l.length
          · exact hj j (by omega)
          · rw [List.getElem?_eq_none (by omega), List.getElem?_eq_none (by omega)]
        rw [this])
    big ((l, (), (0 : Int), ()), ((List.replicate (l.length : Int).toNat z0), ())) ⟨0, _, rfl, by omega, by simp, fun j h => by omega⟩ (by dsimp only; unfold big; omega)
  rw [h1, h2]
/-- The loop that compares. -/
theorem eqLoop {T : Type} (f : T → T → Option Bool) (hf : ∀ x, f x x = some true) (l : List T) (hl : l.length < 1073741824) :
    iter (α := ((List T × List T × Int × Unit) × Unit)) (β := (((Bool × Unit) × Unit) ⊕ ((Unit × Unit) ⊕ Empty))) (fun x => bif (decide (x.1.2.2.1 < (x.1.1.length : Int))) then if h1 : 0 ≤ x.1.2.2.1 ∧ x.1.2.2.1.toNat < x.1.1.length then (let e2 := x.1.1[x.1.2.2.1.toNat]'h1.2; if h3 : 0 ≤ x.1.2.2.1 ∧ x.1.2.2.1.toNat < x.1.2.1.length then (let e4 := x.1.2.1[x.1.2.2.1.toNat]'h3.2; (f e2 e4).bind fun y5 => bif (!y5) then some (.inr (.inl ((false, ()), ()))) else some (.inl ((x.1.1, x.1.2.1, (IntKind.i64.wrap (x.1.2.2.1 + (1 : Int))), ()), ()))) else none) else none else some (.inr (.inr (.inl ((), ())))))
      big ((l, l, (0 : Int), ()), ()) = some (.inr (.inl ((), ()))) := by
  obtain ⟨z, h1, h2⟩ := iter_ind (step := (fun x : ((List T × List T × Int × Unit) × Unit) => (bif (decide (x.1.2.2.1 < (x.1.1.length : Int))) then if h1 : 0 ≤ x.1.2.2.1 ∧ x.1.2.2.1.toNat < x.1.1.length then (let e2 := x.1.1[x.1.2.2.1.toNat]'h1.2; if h3 : 0 ≤ x.1.2.2.1 ∧ x.1.2.2.1.toNat < x.1.2.1.length then (let e4 := x.1.2.1[x.1.2.2.1.toNat]'h3.2; (f e2 e4).bind fun y5 => bif (!y5) then some (.inr (.inl ((false, ()), ()))) else some (.inl ((x.1.1, x.1.2.1, (IntKind.i64.wrap (x.1.2.2.1 + (1 : Int))), ()), ()))) else none) else none else some (.inr (.inr (.inl ((), ())))) : Option (((List T × List T × Int × Unit) × Unit) ⊕ (((Bool × Unit) × Unit) ⊕ ((Unit × Unit) ⊕ Empty))))))
    (fun x => ∃ (i : Nat), x = ((l, l, (i : Int), ()), ()) ∧ i ≤ l.length)
    (fun x => l.length - x.1.2.2.1.toNat) (fun z => z = .inr (.inl ((), ()))) (by
      rintro x ⟨i, rfl, hi⟩
      dsimp only
      by_cases h : i < l.length
      · left
        have c1 : decide ((i : Int) < (l.length : Int)) = true := by simpa using h
        have c2 : 0 ≤ (i : Int) ∧ (i : Int).toNat < l.length := ⟨by omega, by simpa using h⟩
        rw [c1, cond_true, dif_pos c2, dif_pos c2, hf, bindS]
        refine ⟨_, rfl, ⟨i + 1, ?_, by omega⟩, ?_⟩
        · rw [w64 (by omega) (by omega)]
          simp
        · dsimp only
          rw [w64 (by omega) (by omega)]
          omega
      · right
        have c1 : decide ((i : Int) < (l.length : Int)) = false := by simpa using h
        rw [c1, cond_false]
        exact ⟨_, rfl, rfl⟩)
    big ((l, l, (0 : Int), ()), ()) ⟨0, rfl, by omega⟩ (by dsimp only; unfold big; omega)
  rw [h1, h2]
theorem okLen_t {n : Nat} (h : n < 1073741824) : okLen n = true := decide_eq_true h
theorem wrapS {i : Nat} (h : i < 4611686018427387904) : IntKind.i64.wrap ((i : Int) + 1) = ((i + 1 : Nat) : Int) := by
  rw [w64 (by omega) (by omega)]; simp
theorem bigLt {n : Nat} (h : n < 1073741824) : n < big := by unfold big; omega
/-- A value is given, and it is of P. -/
def Gv {γ : Type} (P : γ → Prop) (o : Option γ) : Prop := ∃ y, o = some y ∧ P y
theorem Gv.pure {γ : Type} {P : γ → Prop} {y : γ} (h : P y) : Gv P (some y) := ⟨y, rfl, h⟩
theorem Gv.cond {γ : Type} {P : γ → Prop} {b : Bool} {x y : Option γ} (h1 : b = true → Gv P x) (h2 : b = false → Gv P y) : Gv P (bif b then x else y) := by
  cases b
  · exact h2 rfl
  · exact h1 rfl
theorem Gv.bind {α γ : Type} {Q : α → Prop} {P : γ → Prop} {f : Option α} {g : α → Option γ} (h : Gv Q f) (hg : ∀ y, Q y → Gv P (g y)) : Gv P (f.bind g) := by
  obtain ⟨y, rfl, hy⟩ := h
  exact hg y hy
theorem Gv.dif {γ : Type} {P : γ → Prop} {c : Prop} [Decidable c] {x : c → Option γ} {y : ¬ c → Option γ} (hc : c) (h : Gv P (x hc)) : Gv P (if h : c then x h else y h) := by
  rw [dif_pos hc]; exact h
theorem Gv.loop {α β γ : Type} {step : α → Option (α ⊕ β)} (n : Nat) (I : Nat → α → Prop) {P : γ → Prop} {K : β → Option γ} {x : α} {fuel : Nat} (h0 : I 0 x) (hf : n < fuel) (hs : ∀ k, k ≤ n → ∀ x, I k x → Gv (Sum.elim (fun y => k < n ∧ I (k + 1) y) (fun z => Gv P (K z))) (step x)) : Gv P ((iter step fuel x).bind K) := by
  have key : ∀ (m i fuel : Nat) (x : α), i + m = n → m < fuel → I i x → Gv P ((iter step fuel x).bind K) := by
    intro m
    induction m with
    | zero =>
      intro i fuel x hi hf hx
      match fuel, hf with
      | f + 1, _ =>
        obtain ⟨y, h1, h2⟩ := hs i (by omega) x hx
        unfold iter
        rw [h1]
        cases y with
        | inl y => exact absurd h2.1 (by omega)
        | inr z => exact h2
    | succ m ih =>
      intro i fuel x hi hf hx
      match fuel, hf with
      | f + 1, hf =>
        obtain ⟨y, h1, h2⟩ := hs i (by omega) x hx
        unfold iter
        rw [h1]
        cases y with
        | inl y => exact ih (i + 1) f y (by omega) (by omega) h2.2
        | inr z => exact h2
  exact key n 0 fuel x (by omega) hf h0
def itoaB (n : Int) : ByteArray := ⟨(Lib.itoa n).toArray⟩
theorem bl_ext {a b : ByteArray} (h : a.data.toList = b.data.toList) : a = b := by
  obtain ⟨⟨a⟩⟩ := a
  obtain ⟨⟨b⟩⟩ := b
  have h : a = b := h
  rw [h]
theorem bl_app (a b : ByteArray) : (a ++ b).data.toList = a.data.toList ++ b.data.toList := by
  rw [ByteArray.data_append, Array.toList_append]
theorem sz_app (a b : ByteArray) : (a ++ b).size = a.size + b.size := by
  show (a ++ b).data.size = a.data.size + b.data.size
  rw [ByteArray.data_append, Array.size_append]
def dd (v : Nat) : List UInt8 := if v = 0 then [] else Lib.decDigits v
theorem dd_step {v : Nat} (h : v ≠ 0) : dd v = dd (v / 10) ++ [UInt8.ofNat (48 + v % 10)] := by
  unfold dd
  rw [if_neg h, Lib.decDigits]
  by_cases h10 : v < 10
  · rw [dif_pos h10, if_pos (by omega), Nat.mod_eq_of_lt h10]; rfl
  · rw [dif_neg h10, if_neg (by omega)]
theorem m_figure {d : Nat} (h : d < 10) : fs_l01Figure (d : Int) = some (48 + (d : Int)) := by
  unfold fs_l01Figure
  rw [decide_eq_true (by omega), cond_true, w64 (by omega) (by omega), IntKind.wrap_u8]
  congr 1
  omega
theorem strOf1 (d : Nat) : (strOfNums [48 + (d : Int)]).data.toList = [UInt8.ofNat (48 + d)] := by
  have : (48 + (d : Int)).toNat = 48 + d := by omega
  show [UInt8.ofNat (48 + (d : Int)).toNat] = _
  rw [this]
theorem strOf1_size (x : Int) : (strOfNums [x]).size = 1 := rfl
theorem tm10 (v : Nat) : (v : Int).tmod 10 = ((v % 10 : Nat) : Int) ∧ (v : Int).tdiv 10 = ((v / 10 : Nat) : Int) := by
  constructor
  · rw [Int.tmod_eq_emod_of_nonneg (by omega)]; omega
  · rw [Int.tdiv_eq_ediv_of_nonneg (by omega)]; omega
theorem m_sFormatInt {n : Int} (h1 : -9223372036854775808 ≤ n) (h2 : n ≤ 9223372036854775807) : fs_FormatInt n = some (itoaB n) := by
  suffices g : Gv (fun y => y = itoaB n) (fs_FormatInt n) by
    obtain ⟨y, e, rfl⟩ := g
    exact e
  unfold fs_FormatInt
  refine Gv.cond (fun h => Gv.pure ?_) fun h0 => ?_
  · have h : n = 0 := by simpa using h
    subst h
    refine bl_ext ?_
    show [48] = Lib.itoa 0
    unfold Lib.itoa
    rw [if_neg (by omega), Lib.decDigits]
    rfl
  have h0 : n ≠ 0 := by simpa using h0
  have p20 : (10 : Nat) ^ 20 = 100000000000000000000 := by rfl
  have hit : (Lib.itoa n) = if n < 0 then 45 :: dd n.natAbs else dd n.natAbs := by
    have e : dd n.natAbs = Lib.decDigits n.natAbs := by unfold dd; rw [if_neg (by omega)]
    rw [e]
    unfold Lib.itoa
    by_cases hn : n < 0
    · rw [if_pos hn, if_pos hn]
    · rw [if_neg hn, if_neg hn, show n.toNat = n.natAbs by omega]
  refine Gv.loop 20 (fun k x => ∃ (v : Nat) (s : ByteArray), x = (((if n < 0 then -(v : Int) else (v : Int)), decide (n < 0), s, ()), ()) ∧ dd v ++ s.data.toList = dd n.natAbs ∧ v < 10 ^ (20 - k) ∧ s.size ≤ k ∧ v ≤ 9223372036854775808) ⟨n.natAbs, ByteArray.mk #[], ?_, by simp, by rw [p20]; omega, Nat.le_refl _, by omega⟩ (bigLt (by omega)) ?_
  · by_cases hn : n < 0
    · rw [if_pos hn, show -(n.natAbs : Int) = n by omega]
    · rw [if_neg hn, show (n.natAbs : Int) = n by omega]
  rintro k hk x ⟨v, s, rfl, hd, hv, hs, hu⟩
  obtain ⟨t1, t2⟩ := tm10 v
  unfold Lfs_FormatInt_0
  dsimp only
  refine Gv.cond (fun h => ?_) (fun h => ?_)
  · have hv0 : v ≠ 0 := by
      rintro rfl
      by_cases hn : n < 0 <;> simp [hn] at h
    have hk20 : k < 20 := by
      rcases Nat.lt_or_ge k 20 with h' | h'
      · exact h'
      · have : 20 - k = 0 := by omega
        rw [this] at hv
        omega
    have hv' : v / 10 < 10 ^ (20 - (k + 1)) := by
      have : 20 - k = (20 - (k + 1)) + 1 := by omega
      rw [this, Nat.pow_succ] at hv
      omega
    have hdd := dd_step hv0
    have fin : ∀ w : ByteArray, w.data.toList = [UInt8.ofNat (48 + v % 10)] → w.size = 1 → dd (v / 10) ++ (w ++ s).data.toList = dd n.natAbs ∧ (w ++ s).size ≤ k + 1 := by
      intro w hw hw1
      rw [bl_app, hw, ← List.append_assoc, ← hdd, sz_app, hw1]
      exact ⟨hd, by omega⟩
    have hm : v % 10 < 10 := Nat.mod_lt _ (by omega)
    have ho : ∀ w : ByteArray, w.size = 1 → okLen (w.size + s.size) = true := fun w hw => okLen_t (by omega)
    by_cases hn : n < 0
    · simp only [hn, if_true]
      rw [Int.neg_tmod, Int.neg_tdiv, t1, t2]
      rw [w64 (n := 0 - -((v % 10 : Nat) : Int)) (by omega) (by omega), w64 (n := -((v / 10 : Nat) : Int)) (by omega) (by omega), show (0 : Int) - -((v % 10 : Nat) : Int) = ((v % 10 : Nat) : Int) by omega, m_figure hm, bindS]
      refine Gv.cond (fun hb => ?_) fun hb => ?_
      · obtain ⟨f1, f2⟩ := fin _ (strOf1 (v % 10)) (strOf1_size _)
        rw [ho _ (strOf1_size _), cond_true]
        exact Gv.pure ⟨hk20, v / 10, _, by simp only [hn, if_true], f1, hv', f2, by omega⟩
      · have hz : v % 10 = 0 := by simp at hb; omega
        have e0 : -((v % 10 : Nat) : Int) = ((v % 10 : Nat) : Int) := by omega
        rw [e0, m_figure hm, bindS]
        obtain ⟨f1, f2⟩ := fin _ (strOf1 (v % 10)) (strOf1_size _)
        rw [ho _ (strOf1_size _), cond_true]
        exact Gv.pure ⟨hk20, v / 10, _, by simp only [hn, if_true], f1, hv', f2, by omega⟩
    · simp only [hn, if_false]
      rw [t1, t2, decide_eq_false (show ¬ (((v % 10 : Nat) : Int) < 0) by omega), cond_false, w64 (n := ((v / 10 : Nat) : Int)) (by omega) (by omega), m_figure hm, bindS]
      obtain ⟨f1, f2⟩ := fin _ (strOf1 (v % 10)) (strOf1_size _)
      rw [ho _ (strOf1_size _), cond_true]
      exact Gv.pure ⟨hk20, v / 10, _, by simp only [hn, if_false], f1, hv', f2, by omega⟩
  · have hv0 : v = 0 := by
      by_cases hn : n < 0 <;> simp [hn] at h <;> omega
    subst hv0
    have hd : s.data.toList = dd n.natAbs := by rw [← hd]; rfl
    refine Gv.pure ?_
    simp only [Sum.elim_inl, Sum.elim_inr]
    by_cases hn : n < 0
    · rw [decide_eq_true hn, cond_true, okLen_t (by show 1 + s.size < _; omega), cond_true]
      refine Gv.pure (bl_ext ?_)
      rw [bl_app, hd]
      show 45 :: dd n.natAbs = Lib.itoa n
      rw [hit, if_pos hn]
    · rw [decide_eq_false hn, cond_false]
      refine Gv.pure (bl_ext ?_)
      rw [hd]
      show dd n.natAbs = Lib.itoa n
      rw [hit, if_neg hn]
theorem itoa_len {n : Int} (h1 : -9223372036854775808 ≤ n) (h2 : n ≤ 9223372036854775807) : (itoaB n).size ≤ 21 := Lib.itoa_length_le n h1 h2
theorem joinTail_ne {sep : List UInt8} {r : List (List UInt8)} (h : r ≠ []) : Lib.joinTail sep r = sep ++ Lib.join r sep := by
  cases r with
  | nil => exact absurd rfl h
  | cons y r => rw [Lib.join_cons]; simp [Lib.joinTail]
theorem join_last (xs : List (List UInt8)) (e sep : List UInt8) : Lib.join (xs ++ [e]) sep = (xs.map (· ++ sep)).flatten ++ e := by
  induction xs with
  | nil => simp [Lib.join_one]
  | cons x xs ih =>
    rw [List.cons_append, Lib.join_cons, joinTail_ne (by simp), ih]
    simp
theorem m_iFormatInt {n : Int} (h1 : -9223372036854775808 ≤ n) (h2 : n ≤ 9223372036854775807) : fi_FormatInt n = some (itoaB n) := by
  unfold fi_FormatInt x_Itoa
  rw [decide_eq_true h1, decide_eq_true h2]
  rfl
theorem join_snoc {xs : List (List UInt8)} (h : xs ≠ []) (e sep : List UInt8) : Lib.join (xs ++ [e]) sep = Lib.join xs sep ++ sep ++ e := by
  obtain ⟨ys, z, rfl⟩ : ∃ ys z, xs = ys ++ [z] := ⟨xs.dropLast, xs.getLast h, (List.dropLast_concat_getLast h).symm⟩
  rw [join_last, join_last]
  simp [List.append_assoc]
def nb (l : List UInt8) : List Int := l.map fun b => (b.toNat : Int)
theorem nb_app (a b : List UInt8) : nb (a ++ b) = nb a ++ nb b := List.map_append
theorem nb_len (a : List UInt8) : (nb a).length = a.length := List.length_map ..
theorem strOf_nb (l : List UInt8) : strOfNums (nb l) = ⟨l.toArray⟩ := by
  refine bl_ext ?_
  show ((nb l).map fun n => UInt8.ofNat n.toNat).toArray.toList = l
  unfold nb
  rw [List.map_map]
  conv => rhs; rw [← List.map_id l]
  refine List.map_congr_left fun u _ => ?_
  show UInt8.ofNat (u.toNat : Int).toNat = u
  rw [Int.toNat_natCast, UInt8.ofNat_toNat]
def kindB (c : Int) : ByteArray := bif c == 1 then ByteArray.mk #[102, 105, 120, 101, 100] else ByteArray.mk #[108, 111, 115, 116]
def entB (e : DErrorEntry) : ByteArray := ((((itoaB e.line ++ (ByteArray.mk #[58])) ++ kindB e.code) ++ (ByteArray.mk #[120])) ++ itoaB e.times)
def entOk (e : DErrorEntry) : Prop := (-9223372036854775808 ≤ e.line ∧ e.line ≤ 9223372036854775807) ∧ (-9223372036854775808 ≤ e.times ∧ e.times ≤ 9223372036854775807)
theorem kind_size (c : Int) : (kindB c).size ≤ 5 := by
  unfold kindB
  cases (c == 1) <;> exact Nat.le_of_ble_eq_true rfl
theorem entB_size {e : DErrorEntry} (h : entOk e) : (entB e).size ≤ 49 := by
  have s1 := itoa_len h.1.1 h.1.2
  have s2 := itoa_len h.2.1 h.2.2
  have s3 := kind_size e.code
  unfold entB
  simp only [sz_app]
  have c1 : (ByteArray.mk #[58]).size = 1 := rfl
  have c2 : (ByteArray.mk #[120]).size = 1 := rfl
  omega
def ents (l : List DErrorEntry) : List (List UInt8) := l.map fun e => (entB e).data.toList
def errL (l : List DErrorEntry) : List UInt8 := Lib.join (ents l) [32]
theorem errL_len {l : List DErrorEntry} (h : ∀ e ∈ l, entOk e) : (errL l).length ≤ 50 * l.length := by
  have key : ∀ l : List DErrorEntry, (∀ e ∈ l, entOk e) → (((ents l).map (· ++ [(32 : UInt8)])).flatten).length ≤ 50 * l.length := by
    intro l
    induction l with
    | nil => intro _; simp [ents]
    | cons e l ih =>
      intro h
      have h1 : (entB e).data.toList.length ≤ 49 := entB_size (h e (.head _))
      have h2 := ih fun x hx => h x (.tail _ hx)
      have e1 : ((ents (e :: l)).map (· ++ [(32 : UInt8)])).flatten = (entB e).data.toList ++ [32] ++ ((ents l).map (· ++ [(32 : UInt8)])).flatten := by simp [ents]
      rw [e1]
      simp only [List.length_append, List.length_cons, List.length_nil]
      omega
  rcases List.eq_nil_or_concat l with rfl | ⟨xs, x, rfl⟩
  · simp [errL, ents, Lib.join]
  · rw [List.concat_eq_append] at h ⊢
    unfold errL
    have e1 : ents (xs ++ [x]) = ents xs ++ [(entB x).data.toList] := by simp [ents]
    rw [e1, join_last]
    have h1 : (entB x).data.toList.length ≤ 49 := entB_size (h x (by simp))
    have h2 := key xs fun y hy => h y (by simp [hy])
    simp only [List.length_append, List.length_cons, List.length_nil]
    omega
theorem errL_snoc {l : List DErrorEntry} (h : l ≠ []) (e : DErrorEntry) : errL (l ++ [e]) = errL l ++ [32] ++ (entB e).data.toList := by
  unfold errL
  have e1 : ents (l ++ [e]) = ents l ++ [(entB e).data.toList] := by simp [ents]
  rw [e1, join_snoc]
  simpa [ents] using h
theorem errL_one (e : DErrorEntry) : errL [e] = (entB e).data.toList := by
  unfold errL ents
  rw [List.map_singleton, Lib.join_one]
def fmtE (l : List DErrorEntry) : ByteArray := bif (l.length : Int) == 0 then ByteArray.mk #[110, 111, 110, 101] else ⟨(errL l).toArray⟩
theorem ent_get {l : List DErrorEntry} {i : Nat} (h : i < l.length) : l.take (i + 1) = l.take i ++ [l[i]] := List.take_succ_eq_append_getElem h
theorem m_sFormatErrors (l : List DErrorEntry) (hl : l.length ≤ 1048576) (hb : ∀ e ∈ l, entOk e) : fs_FormatErrors l = some (fmtE l) := by
  suffices g : Gv (fun y => y = fmtE l) (fs_FormatErrors l) by
    obtain ⟨y, e, rfl⟩ := g
    exact e
  unfold fs_FormatErrors fmtE
  cases h0 : ((l.length : Int) == 0) with
  | true => exact Gv.pure rfl
  | false =>
    rw [cond_false, cond_false]
    refine Gv.loop l.length (fun i x => x = ((l, (), (i : Int), ()), (nb (errL (l.take i)), ()))) rfl (bigLt (by omega)) ?_
    rintro i hi x rfl
    have hsz : (errL (l.take i)).length ≤ 50 * 1048576 := by
      have h1 := errL_len (l := l.take i) fun e he => hb e (List.mem_of_mem_take he)
      rw [List.length_take] at h1
      omega
    have c1 : (ByteArray.mk #[58]).size = 1 := rfl
    have c2 : (ByteArray.mk #[120]).size = 1 := rfl
    have c3 : (ByteArray.mk #[102, 105, 120, 101, 100]).size = 5 := rfl
    have c4 : (ByteArray.mk #[108, 111, 115, 116]).size = 4 := rfl
    unfold Lfs_FormatErrors_0
    dsimp only
    refine Gv.cond (fun h => ?_) (fun h => ?_)
    · have h : i < l.length := by simp at h; omega
      have hr := hb _ (List.getElem_mem h)
      have s1 := itoa_len hr.1.1 hr.1.2
      have s2 := itoa_len hr.2.1 hr.2.2
      have he1 := entB_size hr
      have hke : ∀ b, (l[i].code == 1) = b → entB l[i] = ((((itoaB l[i].line ++ (ByteArray.mk #[58])) ++ (bif b then ByteArray.mk #[102, 105, 120, 101, 100] else ByteArray.mk #[108, 111, 115, 116])) ++ (ByteArray.mk #[120])) ++ itoaB l[i].times) := by
        rintro b rfl
        rfl
      refine Gv.cond (fun hp => ?_) (fun hp => ?_)
      · have hne : l.take i ≠ [] := by
          have : 0 < i := by simp at hp; omega
          intro h9
          have h10 := congrArg List.length h9
          rw [List.length_take, List.length_nil] at h10
          omega
        have fin : errL (l.take (i + 1)) = errL (l.take i) ++ [32] ++ (entB l[i]).data.toList := by rw [ent_get h, errL_snoc hne]
        have fin2 : nb (errL (l.take i)) ++ [(32 : Int)] ++ strNums (entB l[i]) = nb (errL (l.take (i + 1))) := by rw [fin, nb_app, nb_app]; rfl
        rw [okLen_t (by rw [nb_len]; show _ + 1 < _; omega), cond_true]
        refine Gv.dif ⟨by omega, by omega⟩ ?_
        simp only [Int.toNat_natCast]
        refine Gv.cond (fun hc => ?_) (fun hc => ?_)
        · rw [hke _ hc] at he1 fin2
          simp only [cond_true] at he1 fin2
          refine Gv.dif ⟨by omega, h⟩ (Gv.dif ⟨by omega, h⟩ ?_)
          rw [m_sFormatInt hr.1.1 hr.1.2, bindS, okLen_t (by omega), cond_true, okLen_t (by simp only [sz_app]; omega), cond_true, okLen_t (by simp only [sz_app]; omega), cond_true, m_sFormatInt hr.2.1 hr.2.2, bindS, okLen_t (by simp only [sz_app]; omega), cond_true,
            okLen_t (by rw [List.length_append, nb_len, strNums_len]; show _ + 1 + _ < _; omega), cond_true]
          exact Gv.pure ⟨h, by rw [wrapS (by omega), fin2]⟩
        · rw [hke _ hc] at he1 fin2
          simp only [cond_false] at he1 fin2
          refine Gv.dif ⟨by omega, h⟩ (Gv.dif ⟨by omega, h⟩ ?_)
          rw [m_sFormatInt hr.1.1 hr.1.2, bindS, okLen_t (by omega), cond_true, okLen_t (by simp only [sz_app]; omega), cond_true, okLen_t (by simp only [sz_app]; omega), cond_true, m_sFormatInt hr.2.1 hr.2.2, bindS, okLen_t (by simp only [sz_app]; omega), cond_true,
            okLen_t (by rw [List.length_append, nb_len, strNums_len]; show _ + 1 + _ < _; omega), cond_true]
          exact Gv.pure ⟨h, by rw [wrapS (by omega), fin2]⟩
      · have hi0 : i = 0 := by simp at hp; omega
        have fin2 : nb (errL (l.take i)) ++ strNums (entB l[i]) = nb (errL (l.take (i + 1))) := by
          subst hi0
          rw [ent_get h]
          show nb (errL []) ++ strNums (entB l[0]) = nb (errL ([] ++ [l[0]]))
          rw [List.nil_append, errL_one]
          rfl
        refine Gv.dif ⟨by omega, by omega⟩ ?_
        simp only [Int.toNat_natCast]
        refine Gv.cond (fun hc => ?_) (fun hc => ?_)
        · rw [hke _ hc] at he1 fin2
          simp only [cond_true] at he1 fin2
          refine Gv.dif ⟨by omega, h⟩ (Gv.dif ⟨by omega, h⟩ ?_)
          rw [m_sFormatInt hr.1.1 hr.1.2, bindS, okLen_t (by omega), cond_true, okLen_t (by simp only [sz_app]; omega), cond_true, okLen_t (by simp only [sz_app]; omega), cond_true, m_sFormatInt hr.2.1 hr.2.2, bindS, okLen_t (by simp only [sz_app]; omega), cond_true,
            okLen_t (by rw [nb_len, strNums_len]; omega), cond_true]
          exact Gv.pure ⟨h, by rw [wrapS (by omega), fin2]⟩
        · rw [hke _ hc] at he1 fin2
          simp only [cond_false] at he1 fin2
          refine Gv.dif ⟨by omega, h⟩ (Gv.dif ⟨by omega, h⟩ ?_)
          rw [m_sFormatInt hr.1.1 hr.1.2, bindS, okLen_t (by omega), cond_true, okLen_t (by simp only [sz_app]; omega), cond_true, okLen_t (by simp only [sz_app]; omega), cond_true, m_sFormatInt hr.2.1 hr.2.2, bindS, okLen_t (by simp only [sz_app]; omega), cond_true,
            okLen_t (by rw [nb_len, strNums_len]; omega), cond_true]
          exact Gv.pure ⟨h, by rw [wrapS (by omega), fin2]⟩
    · refine Gv.pure ?_
      have hi : i = l.length := by simp at h; omega
      subst hi
      rw [List.take_length]
      exact Gv.pure (strOf_nb _)
theorem m_iFormatErrors (l : List DErrorEntry) (hl : l.length ≤ 1048576) (hb : ∀ e ∈ l, entOk e) : fi_FormatErrors l = some (fmtE l) := by
  suffices g : Gv (fun y => y = fmtE l) (fi_FormatErrors l) by
    obtain ⟨y, e, rfl⟩ := g
    exact e
  unfold fi_FormatErrors fmtE
  cases h0 : ((l.length : Int) == 0) with
  | true => exact Gv.pure rfl
  | false =>
    rw [cond_false, cond_false]
    refine Gv.loop l.length (fun i x => x = (((), l, (l.length : Int), (i : Int), ()), ((l.take i).map entB, ()))) rfl (bigLt (by omega)) ?_
    rintro i hi x rfl
    have c1 : (ByteArray.mk #[58]).size = 1 := rfl
    have c2 : (ByteArray.mk #[120]).size = 1 := rfl
    have c3 : (ByteArray.mk #[102, 105, 120, 101, 100]).size = 5 := rfl
    have c4 : (ByteArray.mk #[108, 111, 115, 116]).size = 4 := rfl
    unfold Lfi_FormatErrors_0
    dsimp only
    refine Gv.cond (fun h => ?_) (fun h => ?_)
    · have h : i < l.length := by simp at h; omega
      have hr := hb _ (List.getElem_mem h)
      have s1 := itoa_len hr.1.1 hr.1.2
      have s2 := itoa_len hr.2.1 hr.2.2
      have hke : ∀ b, (l[i].code == 1) = b → entB l[i] = ((((itoaB l[i].line ++ (ByteArray.mk #[58])) ++ (bif b then ByteArray.mk #[102, 105, 120, 101, 100] else ByteArray.mk #[108, 111, 115, 116])) ++ (ByteArray.mk #[120])) ++ itoaB l[i].times) := by
        rintro b rfl
        rfl
      have fin : (l.take (i + 1)).map entB = (l.take i).map entB ++ [entB l[i]] := by rw [ent_get h, List.map_append]; rfl
      have ho1 : okLen (((l.take i).map entB).length + 1) = true := okLen_t (by simp; omega)
      refine Gv.dif ⟨by omega, by omega⟩ ?_
      simp only [Int.toNat_natCast]
      refine Gv.cond (fun hc => ?_) (fun hc => ?_)
      · rw [hke _ hc, cond_true] at fin
        rw [m_iFormatInt hr.1.1 hr.1.2, bindS, okLen_t (by omega), cond_true, okLen_t (by simp only [sz_app]; omega), cond_true, okLen_t (by simp only [sz_app]; omega), cond_true, m_iFormatInt hr.2.1 hr.2.2, bindS, okLen_t (by simp only [sz_app]; omega), cond_true,
          List.length_singleton, ho1, cond_true]
        exact Gv.pure ⟨h, by rw [wrapS (by omega), fin]⟩
      · rw [hke _ hc, cond_false] at fin
        rw [m_iFormatInt hr.1.1 hr.1.2, bindS, okLen_t (by omega), cond_true, okLen_t (by simp only [sz_app]; omega), cond_true, okLen_t (by simp only [sz_app]; omega), cond_true, m_iFormatInt hr.2.1 hr.2.2, bindS, okLen_t (by simp only [sz_app]; omega), cond_true,
          List.length_singleton, ho1, cond_true]
        exact Gv.pure ⟨h, by rw [wrapS (by omega), fin]⟩
    · refine Gv.pure ?_
      have hi : i = l.length := by simp at h; omega
      subst hi
      rw [List.take_length]
      simp only [Sum.elim_inl, Sum.elim_inr]
      have hj : Lib.join ((l.map entB).map (·.data.toList)) [32] = errL l := by
        unfold errL ents
        rw [List.map_map]
        rfl
      have hx : x_Join (l.map entB) (ByteArray.mk #[32]) = some ⟨(errL l).toArray⟩ := by
        have hc := errL_len hb
        unfold x_Join
        rw [show (ByteArray.mk #[32]).data.toList = [32] from rfl, hj, decide_eq_true (by simp; omega), decide_eq_true (by omega)]
        rfl
      exact Gv.bind (Q := fun y => y = ⟨(errL l).toArray⟩) ⟨_, hx, rfl⟩ fun y hy => Gv.pure hy
theorem p_toErrorEntryS (l : List DErrorEntry) (h : l.length < 1073741824) : fl_toErrorEntryS l = some l := by
  have e : iter Lfl_toErrorEntryS_0 big ((l, (), (0 : Int), ()), ((List.replicate (l.length : Int).toNat (⟨(0 : Int), (0 : Int), (0 : Int)⟩ : DErrorEntry)), ())) = some (.inl (((), ()), (l, ()))) := copyL _ fl_toErrorEntry (fun _ => rfl) l h
  unfold fl_toErrorEntryS
  rw [if_pos ⟨by omega, by omega, by omega⟩, e]
  rfl
theorem p_eqErrorEntryS (l : List DErrorEntry) (h : l.length < 1073741824) : fl_eqErrorEntryS l l = some true := by
  have e : iter Lfl_eqErrorEntryS_0 big ((l, l, (0 : Int), ()), ()) = some (.inr (.inl ((), ()))) := eqLoop fl_eqErrorEntry (fun x => by simp [fl_eqErrorEntry]) l h
  unfold fl_eqErrorEntryS
  rw [e]
  simp
theorem p_FnExactFormatErrors (l : List DErrorEntry) (hm : l.length ≤ maxLen) (hb : ∀ e ∈ l, entOk e) : fl_FnExactFormatErrors l = some true := by
  have hmx : l.length < 9223372036854775808 := by unfold maxLen at hm; omega
  unfold fl_FnExactFormatErrors fl_szErrorEntryS
  rw [w64 (n := 1048576 - (l.length : Int)) (by omega) (by omega)]
  by_cases hl : l.length ≤ 1048576
  · have c1 : decide ((1048576 : Int) - (l.length : Int) < 0) = false := decide_eq_false (by omega)
    simp only [c1, cond_false, bindS, p_toErrorEntryS l (by omega), m_sFormatErrors l hl hb, m_iFormatErrors l hl hb, p_eqErrorEntryS l (by omega), beq_self_eq_true, Bool.not_true]
  · have c1 : decide ((1048576 : Int) - (l.length : Int) < 0) = true := decide_eq_true (by omega)
    simp only [c1, cond_true, bindS]
    rfl
def ErrI (e : DErrorEntry) : Prop := entOk e ∧ in64 e.code
theorem cs_three {α : Type} {cs : List α} (h : cs.length = 3) : cs = (cs.drop 0).take 1 ++ (cs.drop 1).take 1 ++ (cs.drop 2).take 1 := by
  match cs, h with
  | [a, b, c], _ => rfl
theorem opn_ErrorEntry {H : Type} {enc' : TypeId × Value → H} {w : World} : Opn enc' Tryd.prog w 63 .ErrorEntry ErrI := fun n cs x hx => by
  obtain ⟨a, ha, r1⟩ := Opn.part Tryd.underlying63 hx (i := 0) rfl (Opn.int Tryd.underlying3) (off := 0) (k := 1) rfl (by kernel_rfl)
  obtain ⟨b, hb, r2⟩ := Opn.part Tryd.underlying63 hx (i := 1) rfl (Opn.int Tryd.underlying3) (off := 1) (k := 1) rfl (by kernel_rfl)
  obtain ⟨c, hc', r3⟩ := Opn.part Tryd.underlying63 hx (i := 2) rfl (Opn.int Tryd.underlying3) (off := 2) (k := 1) rfl (by kernel_rfl)
  have hl := Opn.len Tryd.underlying63 hx
  have hc : Tryd.prog.cellsOf 63 = 3 := by kernel_rfl
  rw [hc] at hl
  refine ⟨⟨a, b, c⟩, ⟨⟨ha, hc'⟩, hb⟩, ?_⟩
  rw [cs_three hl]
  exact (r1.append r2).append r3
theorem open_ErrorEntryL {H : Type} {enc' : TypeId × Value → H} {w : World} {base : Nat} {v : Value} {d : DataW H} {p : List MemPlace} (hv : Value.okWide Tryd.prog w .any base 34 v) (h : DataW.Trod enc' Tryd.prog w 0 (fun _ => true) true 34 v d p) : RdL .ErrorEntry ErrI w v :=
  openSl Tryd.underlying34 (by kernel_rfl) opn_ErrorEntry hv h
theorem law_FnExactFormatErrors (v0 : Value) (w : World) (r0 : RdL .ErrorEntry ErrI w v0) (hQ : Qw w) : Calls Tryd.prog 5 #[v0] w fun e w' => e = .returned (.bool true) ∧ Below w.heap.size w w' := by
  obtain ⟨l, hl, hI, h0⟩ := r0
  exact law_of ok_fl_FnExactFormatErrors (ctrT_run (ai := [(false, .sl .ErrorEntry)]) (x := (l, ())) (by kernel_rfl) (p_FnExactFormatErrors l hl fun e he => (hI e he).1)) (args1 h0) (hd_top hQ)
end Go.Proofs.YtnmllpfchcfonaaDoor
