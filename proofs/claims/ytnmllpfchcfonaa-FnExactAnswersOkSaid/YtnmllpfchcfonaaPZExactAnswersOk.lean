/-
  Plain laws. Nothing here is a claim.
-/
import Derived.Test.YtnmllpfchcfonaaVZ
import Derived.Test.YtnmllpfchcfonaaOpenV
import Derived.Test.YtnmllpfchcfonaaG1
namespace Go.Proofs.Ytnmllpfchcfonaa
open Go.RowKit
set_option linter.unusedVariables false
set_option linter.unusedSimpArgs false
set_option maxRecDepth 100000

theorem w64 {n : Int} (h1 : -9223372036854775808 ≤ n) (h2 : n < 9223372036854775808) : IntKind.i64.wrap n = n := by
  rw [IntKind.wrap_i64]; omega
theorem iter_ind {α β : Type} {step : α → Option (α ⊕ β)} (I : α → Prop) (m : α → Nat) (Q : β → Prop)
    (h : ∀ x, I x → (∃ y, step x = some (.inl y) ∧ I y ∧ m y < m x) ∨ ∃ z, step x = some (.inr z) ∧ Q z) :
    ∀ (n : Nat) (x : α), I x → m x < n → ∃ z, iter step n x = some z ∧ Q z
  | 0, x, _, hm => by omega
  | n + 1, x, hx, hm => by
    unfold iter
    rcases h x hx with ⟨y, h1, h2, h3⟩ | ⟨z, h1, h2⟩
    · rw [h1]
      exact iter_ind I m Q h n y h2 (by omega)
    · rw [h1]
      exact ⟨z, rfl, h2⟩
theorem bindS {α β : Type} (x : α) (f : α → Option β) : (some x).bind f = f x := rfl
/-- The loop that makes a copy. -/
theorem copyL {T : Type} (z0 : T) (f : T → Option T) (hf : ∀ x, f x = some x) (l : List T) (hl : l.length < 1073741824) :
    iter (α := ((List T × Unit × Int × Unit) × (List T × Unit))) (β := (((Unit × Unit) × (List T × Unit)) ⊕ Empty)) (fun x => bif (decide (x.1.2.2.1 < (x.1.1.length : Int))) then if h1 : 0 ≤ x.1.2.2.1 ∧ x.1.2.2.1.toNat < x.1.1.length then (let e2 := x.1.1[x.1.2.2.1.toNat]'h1.2; (f e2).bind fun y3 => if h4 : 0 ≤ x.1.2.2.1 ∧ x.1.2.2.1.toNat < x.2.1.length then if h5 : x.1.2.2.1.toNat < x.2.1.length then (let e6 := x.2.1[x.1.2.2.1.toNat]'h5; some (.inl ((x.1.1, (), (IntKind.i64.wrap (x.1.2.2.1 + (1 : Int))), ()), ((x.2.1.set x.1.2.2.1.toNat y3), ())))) else none else none) else none else some (.inr (.inl (((), ()), (x.2.1, ())))))
      big ((l, (), (0 : Int), ()), ((List.replicate (l.length : Int).toNat z0), ())) = some (.inl (((), ()), (l, ()))) := by
  obtain ⟨z, h1, h2⟩ := iter_ind (step := (fun x : ((List T × Unit × Int × Unit) × (List T × Unit)) => (bif (decide (x.1.2.2.1 < (x.1.1.length : Int))) then if h1 : 0 ≤ x.1.2.2.1 ∧ x.1.2.2.1.toNat < x.1.1.length then (let e2 := x.1.1[x.1.2.2.1.toNat]'h1.2; (f e2).bind fun y3 => if h4 : 0 ≤ x.1.2.2.1 ∧ x.1.2.2.1.toNat < x.2.1.length then if h5 : x.1.2.2.1.toNat < x.2.1.length then (let e6 := x.2.1[x.1.2.2.1.toNat]'h5; some (.inl ((x.1.1, (), (IntKind.i64.wrap (x.1.2.2.1 + (1 : Int))), ()), ((x.2.1.set x.1.2.2.1.toNat y3), ())))) else none else none) else none else some (.inr (.inl (((), ()), (x.2.1, ())))) : Option (((List T × Unit × Int × Unit) × (List T × Unit)) ⊕ (((Unit × Unit) × (List T × Unit)) ⊕ Empty)))))
    (fun x => ∃ (i : Nat) (a : List T), x = ((l, (), (i : Int), ()), (a, ())) ∧ i ≤ l.length ∧ a.length = l.length ∧ ∀ j, j < i → a[j]? = l[j]?)
    (fun x => l.length - x.1.2.2.1.toNat) (fun z => z = .inl (((), ()), (l, ()))) (by
      rintro x ⟨i, a, rfl, hi, ha, hj⟩
      dsimp only
      by_cases h : i < l.length
      · left
        have c1 : decide ((i : Int) < (l.length : Int)) = true := by simpa using h
        have c2 : 0 ≤ (i : Int) ∧ (i : Int).toNat < l.length := ⟨by omega, by simpa using h⟩
        have c3 : 0 ≤ (i : Int) ∧ (i : Int).toNat < a.length := ⟨by omega, by rw [ha]; simpa using h⟩
        rw [c1, cond_true, dif_pos c2, hf, bindS, dif_pos c3, dif_pos c3.2]
        refine ⟨_, rfl, ⟨i + 1, a.set i (l[i]'h), ?_, by omega, by simpa using ha, fun j hj' => ?_⟩, ?_⟩
        · rw [w64 (by omega) (by omega)]
          simp
        · rw [List.getElem?_set]
          by_cases e : i = j
          · subst e
            rw [if_pos rfl, if_pos (by omega), List.getElem?_eq_getElem h]
          · rw [if_neg e]
            exact hj j (by omega)
        · dsimp only
          rw [w64 (by omega) (by omega)]
          omega
      · right
        have c1 : decide ((i : Int) < (l.length : Int)) = false := by simpa using h
        rw [c1, cond_false]
        refine ⟨_, rfl, ?_⟩
        have : a = l := List.ext_getElem? fun j => by
          by_cases hjl : j < l.length
          · exact hj j (by omega)
          · rw [List.getElem?_eq_none (by omega), List.getElem?_eq_none (by omega)]
        rw [this])
    big ((l, (), (0 : Int), ()), ((List.replicate (l.length : Int).toNat z0), ())) ⟨0, _, rfl, by omega, by simp, fun j h => by omega⟩ (by dsimp only; unfold big; omega)
  rw [h1, h2]
/-- The loop that compares. -/
theorem eqLoop {T : Type} (f : T → T → Option Bool) (hf : ∀ x, f x x = some true) (l : List T) (hl : l.length < 1073741824) :
    iter (α := ((List T × List T × Int × Unit) × Unit)) (β := (((Bool × Unit) × Unit) ⊕ ((Unit × Unit) ⊕ Empty))) (fun x => bif (decide (x.1.2.2.1 < (x.1.1.length : Int))) then if h1 : 0 ≤ x.1.2.2.1 ∧ x.1.2.2.1.toNat < x.1.1.length then (let e2 := x.1.1[x.1.2.2.1.toNat]'h1.2; if h3 : 0 ≤ x.1.2.2.1 ∧ x.1.2.2.1.toNat < x.1.2.1.length then (let e4 := x.1.2.1[x.1.2.2.1.toNat]'h3.2; (f e2 e4).bind fun y5 => bif (!y5) then some (.inr (.inl ((false, ()), ()))) else some (.inl ((x.1.1, x.1.2.1, (IntKind.i64.wrap (x.1.2.2.1 + (1 : Int))), ()), ()))) else none) else none else some (.inr (.inr (.inl ((), ())))))
      big ((l, l, (0 : Int), ()), ()) = some (.inr (.inl ((), ()))) := by
  obtain ⟨z, h1, h2⟩ := iter_ind (step := (fun x : ((List T × List T × Int × Unit) × Unit) => (bif (decide (x.1.2.2.1 < (x.1.1.length : Int))) then if h1 : 0 ≤ x.1.2.2.1 ∧ x.1.2.2.1.toNat < x.1.1.length then (let e2 := x.1.1[x.1.2.2.1.toNat]'h1.2; if h3 : 0 ≤ x.1.2.2.1 ∧ x.1.2.2.1.toNat < x.1.2.1.length then (let e4 := x.1.2.1[x.1.2.2.1.toNat]'h3.2; (f e2 e4).bind fun y5 => bif (!y5) then some (.inr (.inl ((false, ()), ()))) else some (.inl ((x.1.1, x.1.2.1, (IntKind.i64.wrap (x.1.2.2.1 + (1 : Int))), ()), ()))) else none) else none else some (.inr (.inr (.inl ((), ())))) : Option (((List T × List T × Int × Unit) × Unit) ⊕ (((Bool × Unit) × Unit) ⊕ ((Unit × Unit) ⊕ Empty))))))
    (fun x => ∃ (i : Nat), x = ((l, l, (i : Int), ()), ()) ∧ i ≤ l.length)
    (fun x => l.length - x.1.2.2.1.toNat) (fun z => z = .inr (.inl ((), ()))) (by
      rintro x ⟨i, rfl, hi⟩
      dsimp only
      by_cases h : i < l.length
      · left
        have c1 : decide ((i : Int) < (l.length : Int)) = true := by simpa using h
        have c2 : 0 ≤ (i : Int) ∧ (i : Int).toNat < l.length := ⟨by omega, by simpa using h⟩
        rw [c1, cond_true, dif_pos c2, dif_pos c2, hf, bindS]
        refine ⟨_, rfl, ⟨i + 1, ?_, by omega⟩, ?_⟩
        · rw [w64 (by omega) (by omega)]
          simp
        · dsimp only
          rw [w64 (by omega) (by omega)]
          omega
      · right
        have c1 : decide ((i : Int) < (l.length : Int)) = false := by simpa using h
        rw [c1, cond_false]
        exact ⟨_, rfl, rfl⟩)
    big ((l, l, (0 : Int), ()), ()) ⟨0, rfl, by omega⟩ (by dsimp only; unfold big; omega)
  rw [h1, h2]
theorem p_toRequestS (l : List DReq) (h : l.length < 1073741824) : fl_toRequestS l = some l := by
  have e : iter Lfl_toRequestS_0 big ((l, (), (0 : Int), ()), ((List.replicate (l.length : Int).toNat (⟨(0 : Int), (0 : Int), (0 : Int), false, (0 : Int), (0 : Int)⟩ : DReq)), ())) = some (.inl (((), ()), (l, ()))) := copyL _ fl_toRequest (fun _ => rfl) l h
  unfold fl_toRequestS
  rw [if_pos ⟨by omega, by omega, by omega⟩, e]
  rfl
theorem p_toReplyS (l : List DRep) (h : l.length < 1073741824) : fl_toReplyS l = some l := by
  have e : iter Lfl_toReplyS_0 big ((l, (), (0 : Int), ()), ((List.replicate (l.length : Int).toNat (⟨(0 : Int), (0 : Int), (0 : Int), (0 : Int)⟩ : DRep)), ())) = some (.inl (((), ()), (l, ()))) := copyL _ fl_toReply (fun _ => rfl) l h
  unfold fl_toReplyS
  rw [if_pos ⟨by omega, by omega, by omega⟩, e]
  rfl
theorem p_eqRequestS (l : List DReq) (h : l.length < 1073741824) : fl_eqRequestS l l = some true := by
  have e : iter Lfl_eqRequestS_0 big ((l, l, (0 : Int), ()), ()) = some (.inr (.inl ((), ()))) := eqLoop fl_eqRequest (fun x => by simp [fl_eqRequest]) l h
  unfold fl_eqRequestS
  rw [e]
  simp
theorem p_eqReplyS (l : List DRep) (h : l.length < 1073741824) : fl_eqReplyS l l = some true := by
  have e : iter Lfl_eqReplyS_0 big ((l, l, (0 : Int), ()), ()) = some (.inr (.inl ((), ()))) := eqLoop fl_eqReply (fun x => by simp [fl_eqReply]) l h
  unfold fl_eqReplyS
  rw [e]
  simp
theorem find_none {α : Type} {p : α → Bool} {l : List α} (h : ∀ j (hj : j < l.length), p l[j] = false) : l.find? p = none := by
  rw [List.find?_eq_none]
  intro x hx
  obtain ⟨j, hj, rfl⟩ := List.mem_iff_getElem.1 hx
  rw [h j hj]; simp
theorem find_at {α : Type} {p : α → Bool} {l : List α} {i : Nat} (hi : i < l.length) (h : ∀ j (hj : j < i), p (l[j]'(by omega)) = false) (hp : p l[i] = true) : l.find? p = some l[i] := by
  rw [List.find?_eq_some_iff_getElem]
  exact ⟨hp, i, hi, rfl, fun j hj => by rw [h j hj]; rfl⟩
theorem p_requestOf (l : List DReq) (id : Int) (h : l.length < 1073741824) : fi_requestOf l id = some (match l.find? (fun r => r.id == id) with | some r => (r, true) | none => ((⟨0, 0, 0, false, 0, 0⟩ : DReq), false)) := by
  unfold fi_requestOf
  obtain ⟨z, h1, h2⟩ := iter_ind (step := Lfi_requestOf_0)
    (fun x => ∃ i : Nat, x = ((id, (), l, (l.length : Int), (i : Int), ()), (((0 : Int), (0 : Int), (0 : Int), false, (0 : Int), (0 : Int), ()), ())) ∧ i ≤ l.length ∧ ∀ j (hj : j < i) (hl : j < l.length), ((l[j]'hl).id == id) = false)
    (fun x => l.length - x.1.2.2.2.2.1.toNat)
    (fun z => (Sum.elim (fun z3 => some ((⟨z3.2.1.1, z3.2.1.2.1, z3.2.1.2.2.1, z3.2.1.2.2.2.1, z3.2.1.2.2.2.2.1, z3.2.1.2.2.2.2.2.1⟩ : DReq), z3.1.2.1)) (Sum.elim (fun z4 => some ((⟨(0 : Int), (0 : Int), (0 : Int), false, (0 : Int), (0 : Int)⟩ : DReq), false)) (fun z => nomatch z)) z) = some (match l.find? (fun r => r.id == id) with | some r => (r, true) | none => ((⟨0, 0, 0, false, 0, 0⟩ : DReq), false))) (by
      rintro x ⟨i, rfl, hi, hj⟩
      unfold Lfi_requestOf_0
      dsimp only
      by_cases h' : i < l.length
      · have c1 : decide ((i : Int) < (l.length : Int)) = true := by simpa using h'
        have c2 : 0 ≤ (i : Int) ∧ (i : Int).toNat < l.length := ⟨by omega, by simpa using h'⟩
        rw [c1, cond_true, dif_pos c2]
        simp only [Int.toNat_natCast]
        cases hp : (l[i].id == id) with
        | true =>
          right
          refine ⟨_, by rw [cond_true], ?_⟩
          rw [find_at (p := fun r => r.id == id) h' (fun j hj' => hj j hj' (by omega)) hp]
          rfl
        | false =>
          left
          refine ⟨_, by rw [cond_false], ⟨i + 1, ?_, by omega, fun j hj' hl => ?_⟩, ?_⟩
          · rw [w64 (by omega) (by omega)]
            simp
          · by_cases e : j = i
            · subst e; exact hp
            · exact hj j (by omega) hl
          · dsimp only
            rw [w64 (by omega) (by omega)]
            omega
      · right
        have c1 : decide ((i : Int) < (l.length : Int)) = false := by simpa using h'
        rw [c1, cond_false]
        refine ⟨_, rfl, ?_⟩
        rw [find_none (p := fun r => r.id == id) (fun j hjl => hj j (by omega) hjl)]
        rfl)
    big _ ⟨0, rfl, by omega, fun j h => by omega⟩ (by dsimp only; unfold big; omega)
  have h1 : iter Lfi_requestOf_0 big ((id, (), l, (l.length : Int), (0 : Int), ()), (((0 : Int), (0 : Int), (0 : Int), false, (0 : Int), (0 : Int), ()), ())) = some z := h1
  rw [h1]
  exact h2
/-- The place of the first request with a number. -/
def place (l : List DReq) (id : Int) : Int := match l.findIdx? (fun r => r.id == id) with
  | some i => (i : Int)
  | none => -1
theorem p_l19At (l : List DReq) (id : Int) (h : l.length < 1073741824) : fs_l19At l id = some (place l id) := by
  unfold fs_l19At
  obtain ⟨z, h1, h2⟩ := iter_ind (step := Lfs_l19At_0)
    (fun x => ∃ i : Nat, x = ((l, id, (i : Int), ()), ()) ∧ i ≤ l.length ∧ ∀ j (hj : j < i) (hl : j < l.length), ((l[j]'hl).id == id) = false)
    (fun x => l.length - x.1.2.2.1.toNat)
    (fun z => (Sum.elim (fun z3 => some z3.1.1) (Sum.elim (fun z4 => some (-1 : Int)) (fun z => nomatch z)) z) = some (place l id)) (by
      rintro x ⟨i, rfl, hi, hj⟩
      unfold Lfs_l19At_0
      dsimp only
      by_cases h' : i < l.length
      · have c1 : decide ((i : Int) < (l.length : Int)) = true := by simpa using h'
        have c2 : 0 ≤ (i : Int) ∧ (i : Int).toNat < l.length := ⟨by omega, by simpa using h'⟩
        rw [c1, cond_true, dif_pos c2]
        simp only [Int.toNat_natCast]
        cases hp : (l[i].id == id) with
        | true =>
          right
          refine ⟨_, by rw [cond_true], ?_⟩
          have : l.findIdx? (fun r => r.id == id) = some i := by
            rw [List.findIdx?_eq_some_iff_getElem]
            exact ⟨h', hp, fun j hj' => by rw [hj j hj' (by omega)]; simp⟩
          unfold place
          rw [this]
          rfl
        | false =>
          left
          refine ⟨_, by rw [cond_false], ⟨i + 1, ?_, by omega, fun j hj' hl => ?_⟩, ?_⟩
          · rw [w64 (by omega) (by omega)]
            simp
          · by_cases e : j = i
            · subst e; exact hp
            · exact hj j (by omega) hl
          · dsimp only
            rw [w64 (by omega) (by omega)]
            omega
      · right
        have c1 : decide ((i : Int) < (l.length : Int)) = false := by simpa using h'
        rw [c1, cond_false]
        refine ⟨_, rfl, ?_⟩
        have : l.findIdx? (fun r => r.id == id) = none := by
          rw [List.findIdx?_eq_none_iff]
          intro x hx
          obtain ⟨j, hjl, rfl⟩ := List.mem_iff_getElem.1 hx
          exact hj j (by omega) hjl
        unfold place
        rw [this]
        rfl)
    big _ ⟨0, rfl, by omega, fun j h => by omega⟩ (by dsimp only; unfold big; omega)
  have h1 : iter Lfs_l19At_0 big ((l, id, (0 : Int), ()), ()) = some z := h1
  rw [h1]
  exact h2
theorem take_foldl {α β : Type} (f : β → α → β) (b : β) (l : List α) (i : Nat) (h : i < l.length) : (l.take (i + 1)).foldl f b = f ((l.take i).foldl f b) l[i] := by
  rw [List.take_add_one, List.foldl_append, List.getElem?_eq_getElem h]
  rfl
theorem p_szRequestS (l : List DReq) (n : Int) (h : l.length ≤ 9223372036854775807) (h1 : 0 ≤ n) (h2 : n ≤ 1048576) : fl_szRequestS l n = some (if n < l.length then -1 else n - l.length) := by
  unfold fl_szRequestS
  rw [w64 (by omega) (by omega)]
  by_cases hc : n < l.length
  · have : decide (n - (l.length : Int) < 0) = true := by simp; omega
    rw [this, if_pos hc]; rfl
  · have : decide (n - (l.length : Int) < 0) = false := by simp; omega
    rw [this, if_neg hc]; rfl
theorem p_szReplyS (l : List DRep) (n : Int) (h : l.length ≤ 9223372036854775807) (h1 : 0 ≤ n) (h2 : n ≤ 1048576) : fl_szReplyS l n = some (if n < l.length then -1 else n - l.length) := by
  unfold fl_szReplyS
  rw [w64 (by omega) (by omega)]
  by_cases hc : n < l.length
  · have : decide (n - (l.length : Int) < 0) = true := by simp; omega
    rw [this, if_pos hc]; rfl
  · have : decide (n - (l.length : Int) < 0) = false := by simp; omega
    rw [this, if_neg hc]; rfl
/-- A loop that goes through n turns: S gives the state at each. -/
theorem iter_run {α β : Type} {step : α → Option (α ⊕ β)} (S : Nat → α) {z : β} : ∀ (n i fuel : Nat), (∀ k, i ≤ k → k < i + n → step (S k) = some (.inl (S (k + 1)))) → step (S (i + n)) = some (.inr z) → n < fuel → iter step fuel (S i) = some z
  | 0, i, fuel, _, hz, hf => by
    match fuel, hf with
    | f + 1, _ => unfold iter; rw [Nat.add_zero] at hz; rw [hz]
  | n + 1, i, fuel, hs, hz, hf => by
    match fuel, hf with
    | f + 1, hf =>
      unfold iter
      rw [hs i (Nat.le_refl _) (by omega)]
      exact iter_run S n (i + 1) f (fun k h1 h2 => hs k (by omega) (by omega)) (by rw [show i + 1 + n = i + (n + 1) by omega]; exact hz) (by omega)
theorem wrap_succ {i : Nat} (h : i < 4611686018427387904) : IntKind.i64.wrap ((i : Int) + 1) = ((i + 1 : Nat) : Int) := by
  rw [w64 (by omega) (by omega)]; simp
theorem p_between (x a b : Int) : fi_between x a b = some (decide (a ≤ x) && decide (x ≤ b)) := by
  unfold fi_between
  by_cases h : a ≤ x
  · have : decide (x ≥ a) = true := decide_eq_true h
    rw [this]; rfl
  · have : decide (x ≥ a) = false := decide_eq_false h
    rw [this]; rfl
theorem p_between_t {x a b : Int} (h : a ≤ x) (h' : x ≤ b) : fi_between x a b = some true := by
  rw [p_between, decide_eq_true h, decide_eq_true h']; rfl
theorem p_in_t {x a b : Int} (h : a ≤ x) (h' : x ≤ b) : fs_l01In x a b = some true := p_between_t h h'
/-- One reply more. -/
def expF (lines : Int) (l : List DReq) (st : List Int × List DFact) (x : DRep) : List Int × List DFact :=
  match l.find? (fun r => r.id == x.id) with
  | none => st
  | some r => if 0 ≤ r.line ∧ r.line ≤ lines - 1 then (if r.write = true then (st.1.set r.line.toNat r.data, st.2 ++ [⟨r.line, 0, 0⟩]) else (st.1, st.2 ++ [⟨r.line, st.1.getD r.line.toNat 0, x.code⟩])) else st
def expS (lines : Int) (l : List DReq) (rs : List DRep) : List Int × List DFact := rs.foldl (expF lines l) (List.replicate lines.toNat 0, [])
theorem expF_len (lines : Int) (l : List DReq) (st : List Int × List DFact) (x : DRep) : (expF lines l st x).1.length = st.1.length ∧ (expF lines l st x).2.length ≤ st.2.length + 1 := by
  unfold expF
  split
  · exact ⟨rfl, by omega⟩
  · split
    · split <;> simp
    · exact ⟨rfl, by omega⟩
theorem expS_len (lines : Int) (l : List DReq) (rs : List DRep) : (expS lines l rs).1.length = lines.toNat ∧ (expS lines l rs).2.length ≤ rs.length := by
  have key : ∀ (rs : List DRep) st, (rs.foldl (expF lines l) st).1.length = st.1.length ∧ (rs.foldl (expF lines l) st).2.length ≤ st.2.length + rs.length := by
    intro rs
    induction rs with
    | nil => intro st; simp
    | cons x rs ih =>
      intro st
      have h1 := expF_len lines l st x
      have h2 := ih (expF lines l st x)
      simp only [List.foldl_cons, List.length_cons]
      omega
  have := key rs (List.replicate lines.toNat 0, [])
  simpa [expS] using this
theorem expS_succ (lines : Int) (l : List DReq) (rs : List DRep) {i : Nat} (h : i < rs.length) : expS lines l (rs.take (i + 1)) = expF lines l (expS lines l (rs.take i)) rs[i] := take_foldl _ _ _ _ h
def expd (lines : Int) (l : List DReq) (rs : List DRep) : List DFact := if 1 ≤ lines ∧ lines ≤ 1024 then (expS lines l rs).2 else []
theorem ok1 {α : Type} {out : List α} {x : α} (h : out.length < 1073741822) : okLen (out.length + [x].length) = true := by
  unfold okLen; refine decide_eq_true ?_; simp; omega
theorem bw (x a b : Int) (h : ¬ (a ≤ x ∧ x ≤ b)) : fi_between x a b = some false := by
  rw [p_between]
  by_cases h1 : a ≤ x
  · have : ¬ x ≤ b := fun h2 => h ⟨h1, h2⟩
    rw [decide_eq_true h1, decide_eq_false this]; rfl
  · rw [decide_eq_false h1]; rfl
theorem bw' (x a b : Int) (h : ¬ (a ≤ x ∧ x ≤ b)) : fs_l01In x a b = some false := bw x a b h
theorem p_iExpected (lines : Int) (l : List DReq) (rs : List DRep) (h : l.length < 1073741820) (h' : rs.length < 1073741820) : fi_Expected lines l rs = some (expd lines l rs) := by
  unfold fi_Expected expd
  by_cases hl : 1 ≤ lines ∧ lines ≤ 1024
  · rw [p_between_t hl.1 hl.2, bindS, if_pos hl]
    simp only [Bool.not_true, cond_false]
    rw [if_pos ⟨by omega, by omega, by omega⟩]
    have e := iter_run (step := Lfi_Expected_0) (fun i => ((lines, l, (), (), rs, (rs.length : Int), (i : Int), ()), ((expS lines l (rs.take i)).1, (expS lines l (rs.take i)).2, ()))) (z := .inl (((), ()), ((expS lines l rs).2, ()))) rs.length 0 big (fun i _ hi => ?_) ?_ (by unfold big; omega)
    · have e : iter Lfi_Expected_0 big ((lines, l, (), (), rs, (rs.length : Int), (0 : Int), ()), ((List.replicate lines.toNat (0 : Int)), ([] : List DFact), ())) = _ := e
      rw [e]; rfl
    · have hi : i < rs.length := by omega
      unfold Lfi_Expected_0
      dsimp only
      have c1 : decide ((i : Int) < (rs.length : Int)) = true := decide_eq_true (by omega)
      have c2 : 0 ≤ (i : Int) ∧ (i : Int).toNat < rs.length := ⟨by omega, by simpa using hi⟩
      obtain ⟨hm, ho⟩ := expS_len lines l (rs.take i)
      rw [List.length_take] at ho
      rw [c1, cond_true, dif_pos c2, wrap_succ (by omega), expS_succ lines l rs hi]
      simp only [Int.toNat_natCast]
      generalize expS lines l (rs.take i) = st at hm ho
      rw [p_requestOf l _ (by omega), bindS]
      unfold expF
      cases hf : l.find? (fun r => r.id == rs[i].id) with
      | none => rfl
      | some r =>
        simp only [Bool.not_true, cond_false]
        rw [w64 (n := lines - 1) (by omega) (by omega)]
        by_cases hb : 0 ≤ r.line ∧ r.line ≤ lines - 1
        · rw [p_between_t hb.1 hb.2, bindS, if_pos hb]
          have c3 : 0 ≤ r.line ∧ r.line.toNat < st.1.length := ⟨hb.1, by omega⟩
          simp only [Bool.not_true, cond_false]
          cases hw : r.write with
          | true =>
            rw [cond_true, dif_pos c3, dif_pos c3.2, ok1 (by omega)]
            rfl
          | false =>
            rw [cond_false, dif_pos c3, dif_pos c3.2, ok1 (by omega)]
            rw [List.getD_eq_getElem?_getD, List.getElem?_eq_getElem c3.2]
            rfl
        · rw [bw _ _ _ hb, bindS, if_neg hb]
          rfl
    · rw [Nat.zero_add]
      unfold Lfi_Expected_0
      dsimp only
      have c1 : decide ((rs.length : Int) < (rs.length : Int)) = false := decide_eq_false (by omega)
      rw [c1, cond_false, List.take_length]
  · rw [bw _ _ _ hl, bindS, if_neg hl]
    rfl
theorem p_sExpected (lines : Int) (l : List DReq) (rs : List DRep) (h : l.length < 1073741820) (h' : rs.length < 1073741820) : fs_Expected lines l rs = some (expd lines l rs) := by
  unfold fs_Expected expd
  by_cases hl : 1 ≤ lines ∧ lines ≤ 1024
  · rw [p_in_t hl.1 hl.2, bindS, if_pos hl]
    simp only [Bool.not_true, cond_false]
    rw [if_pos ⟨by omega, by omega, by omega⟩]
    have e := iter_run (step := Lfs_Expected_0) (fun i => ((lines, l, rs, (), (), (i : Int), ()), ((expS lines l (rs.take i)).2, (expS lines l (rs.take i)).1, ()))) (z := .inl (((), ()), ((expS lines l rs).2, ()))) rs.length 0 big (fun i _ hi => ?_) ?_ (by unfold big; omega)
    · have e : iter Lfs_Expected_0 big ((lines, l, rs, (), (), (0 : Int), ()), (([] : List DFact), (List.replicate lines.toNat (0 : Int)), ())) = _ := e
      rw [e]; rfl
    · have hi : i < rs.length := by omega
      unfold Lfs_Expected_0
      dsimp only
      have c1 : decide ((i : Int) < (rs.length : Int)) = true := decide_eq_true (by omega)
      have c2 : 0 ≤ (i : Int) ∧ (i : Int).toNat < rs.length := ⟨by omega, by simpa using hi⟩
      obtain ⟨hm, ho⟩ := expS_len lines l (rs.take i)
      rw [List.length_take] at ho
      rw [c1, cond_true, dif_pos c2, wrap_succ (by omega), expS_succ lines l rs hi]
      simp only [Int.toNat_natCast]
      generalize expS lines l (rs.take i) = st at hm ho
      rw [p_l19At l _ (by omega), bindS]
      unfold expF
      cases hf : l.findIdx? (fun r => r.id == rs[i].id) with
      | none =>
        have hpl : place l rs[i].id = -1 := by unfold place; rw [hf]
        have hfi : l.find? (fun r => r.id == rs[i].id) = none := by
          rw [List.find?_eq_none]
          intro x hx
          have := List.findIdx?_eq_none_iff.1 hf x hx
          simpa using this
        rw [hfi, hpl]
        rfl
      | some k =>
        obtain ⟨k1, k2, k3⟩ := List.findIdx?_eq_some_iff_getElem.1 hf
        have hpl : place l rs[i].id = (k : Int) := by unfold place; rw [hf]
        have hfi : l.find? (fun r => r.id == rs[i].id) = some l[k] := find_at k1 (fun j hj => by simpa using k3 j hj) k2
        have c3 : decide (place l rs[i].id < 0) = false := by rw [hpl]; exact decide_eq_false (by omega)
        have c4 : 0 ≤ place l rs[i].id ∧ (place l rs[i].id).toNat < l.length := by rw [hpl]; exact ⟨by omega, by simpa using k1⟩
        rw [hfi, c3, cond_false, dif_pos c4]
        simp only [hpl, Int.toNat_natCast]
        rw [w64 (n := lines - 1) (by omega) (by omega)]
        by_cases hb : 0 ≤ l[k].line ∧ l[k].line ≤ lines - 1
        · rw [p_in_t hb.1 hb.2, bindS, if_pos hb]
          have c5 : 0 ≤ l[k].line ∧ l[k].line.toNat < st.1.length := ⟨hb.1, by omega⟩
          have c6 : 0 ≤ (k : Int) ∧ k < l.length := ⟨by omega, k1⟩
          have c7 : 0 ≤ (i : Int) ∧ i < rs.length := ⟨by omega, hi⟩
          simp only [Bool.not_true, cond_false]
          rw [dif_pos c6]
          cases hw : l[k].write with
          | true =>
            rw [cond_true, dif_pos c5, dif_pos c5.2, ok1 (by omega)]
            rfl
          | false =>
            rw [cond_false, dif_pos c5, dif_pos c5.2, dif_pos c7, ok1 (by omega)]
            rw [List.getD_eq_getElem?_getD, List.getElem?_eq_getElem c5.2]
            rfl
        · rw [bw' _ _ _ hb, bindS, if_neg hb]
          rfl
    · rw [Nat.zero_add]
      unfold Lfs_Expected_0
      dsimp only
      have c1 : decide ((rs.length : Int) < (rs.length : Int)) = false := decide_eq_false (by omega)
      rw [c1, cond_false, List.take_length]
  · rw [bw' _ _ _ hl, bindS, if_neg hl]
    rfl
/-- A loop that stops early where a test of an element fails. -/
theorem iter_all {α β T : Type} {step : α → Option (α ⊕ β)} (l : List T) (q : T → Bool) (S : Nat → α) (zf z : β) (fuel : Nat) (hs : ∀ k (h : k < l.length), step (S k) = some (bif q l[k] then .inl (S (k + 1)) else .inr zf)) (hz : step (S l.length) = some (.inr z)) (hf : l.length < fuel) :
    iter step fuel (S 0) = some (bif l.all q then z else zf) := by
  have key : ∀ (n i fuel : Nat), i + n = l.length → n < fuel → iter step fuel (S i) = some (bif (l.drop i).all q then z else zf) := by
    intro n
    induction n with
    | zero =>
      intro i fuel hi hf
      match fuel, hf with
      | f + 1, _ =>
        have : i = l.length := by omega
        subst this
        unfold iter
        rw [hz]
        simp
    | succ n ih =>
      intro i fuel hi hf
      match fuel, hf with
      | f + 1, hf =>
        have hlt : i < l.length := by omega
        unfold iter
        rw [hs i hlt, List.drop_eq_getElem_cons hlt, List.all_cons]
        cases q l[i] with
        | true => simp only [cond_true, Bool.true_and]; exact ih (i + 1) f (by omega) (by omega)
        | false => rfl
  exact key l.length 0 fuel (by omega) hf
theorem wrapS {i : Nat} (h : i < 4611686018427387904) : IntKind.i64.wrap ((i : Int) + 1) = ((i + 1 : Nat) : Int) := by
  rw [w64 (by omega) (by omega)]; simp
theorem bigLt {n : Nat} (h : n < 1073741824) : n < big := by unfold big; omega
def inR (x a b : Int) : Bool := decide (a ≤ x) && decide (x ≤ b)
theorem m_between (x a b : Int) : fi_between x a b = some (inR x a b) := by
  unfold fi_between inR
  by_cases h : a ≤ x <;> simp [h]
theorem m_in (x a b : Int) : fs_l01In x a b = some (inR x a b) := m_between x a b
def gmT : Nat := 116196760129267793630862849262464326346044543732748708940920453221664288556434379745879494961270582141731748813355742142288220638766218855867759359510984593843506004200114943278699875244065120512813025380665946106619127097398772031257643617143689515450995722003729973585221105779229319991106539050771048038400
def gm (a b : Nat) : Nat := (gmT / 2 ^ (4 * (16 * a + b))) % 16
def byL : List Nat := [8, 14, 7, 1]
def byG (k : Nat) : Nat := byL.getD k 0
/-- One turn of the inner loop, in row m (i = m + 3). -/
def inn (r : List Nat) (m f : Nat) : Nat → List Nat
  | 0 => r
  | k + 1 => (inn r m f k).set (m + k) ((inn r m f k).getD (m + k) 0 ^^^ gm (byG k) f)
/-- Behind t rows. -/
def out (r : List Nat) : Nat → List Nat
  | 0 => r
  | t + 1 => inn (out r t) (7 - t) ((out r t).getD (10 - t) 0) 4
def repOk (r : DRep) : Prop := (-9223372036854775808 ≤ r.id ∧ r.id ≤ 9223372036854775807) ∧ (-9223372036854775808 ≤ r.at_ ∧ r.at_ ≤ 9223372036854775807)
def RepI (r : DRep) : Prop := repOk r ∧ in64 r.data ∧ in64 r.code
theorem cs_four {α : Type} {cs : List α} (h : cs.length = 4) : cs = (cs.drop 0).take 1 ++ (cs.drop 1).take 1 ++ (cs.drop 2).take 1 ++ (cs.drop 3).take 1 := by
  match cs, h with
  | [a, b, c, d], _ => rfl
theorem opn_Reply {H : Type} {enc' : TypeId × Value → H} {w : World} : Opn enc' Try.prog w 126 .Rep RepI := fun n cs x hx => by
  obtain ⟨a, ha, r1⟩ := Opn.part Try.underlying126 hx (i := 0) rfl (Opn.int Try.underlying3) (off := 0) (k := 1) rfl (by kernel_rfl)
  obtain ⟨b, hb, r2⟩ := Opn.part Try.underlying126 hx (i := 1) rfl (Opn.int Try.underlying3) (off := 1) (k := 1) rfl (by kernel_rfl)
  obtain ⟨c, hc', r3⟩ := Opn.part Try.underlying126 hx (i := 2) rfl (Opn.int Try.underlying3) (off := 2) (k := 1) rfl (by kernel_rfl)
  obtain ⟨d, hd, r4⟩ := Opn.part Try.underlying126 hx (i := 3) rfl (Opn.int Try.underlying3) (off := 3) (k := 1) rfl (by kernel_rfl)
  have hl := Opn.len Try.underlying126 hx
  have hc : Try.prog.cellsOf 126 = 4 := by kernel_rfl
  rw [hc] at hl
  refine ⟨⟨a, b, c, d⟩, ⟨⟨ha, hb⟩, hc', hd⟩, ?_⟩
  rw [cs_four hl]
  exact ((r1.append r2).append r3).append r4
theorem mapGet_set (l : List (Int × Bool)) (k j : Int) : mapGet (mapSet l k true) j = (j == k || mapGet l j) := by
  induction l with
  | nil =>
    simp only [mapSet, mapGet]
    cases (j == k) <;> rfl
  | cons p ps ih =>
    simp only [mapSet]
    cases hk : (k == p.1) with
    | true =>
      have e : k = p.1 := by simpa using hk
      rw [cond_true]
      simp only [mapGet]
      rw [← e]
      cases (j == k) <;> rfl
    | false =>
      rw [cond_false]
      simp only [mapGet]
      rw [ih]
      cases hj : (j == p.1) with
      | true =>
        have e : j = p.1 := by simpa using hj
        have hn : (j == k) = false := by
          rw [e]
          cases hb : (p.1 == k) with
          | false => rfl
          | true =>
            have e2 : p.1 = k := by simpa using hb
            rw [e2, beq_self_eq_true] at hk
            cases hk
        rw [hn]
        rfl
      | false => rfl
def seenM (l : List DRep) : List (Int × Bool) := l.foldl (fun m x => mapSet m x.id true) []
theorem seenM_snoc (l : List DRep) (x : DRep) : seenM (l ++ [x]) = mapSet (seenM l) x.id true := by
  unfold seenM
  rw [List.foldl_append]
  rfl
theorem seenM_get (l : List DRep) (k : Int) : mapGet (seenM l) k = l.any fun x => x.id == k := by
  rcases List.eq_nil_or_concat l with rfl | ⟨xs, x, rfl⟩
  · rfl
  · rw [List.concat_eq_append, seenM_snoc, mapGet_set, seenM_get xs k, List.any_append]
    simp only [List.any_cons, List.any_nil, Bool.or_false]
    rw [Bool.or_comm]
    congr 1
    exact Bool.eq_iff_iff.2 ⟨fun h => by simpa using (by simpa using h : k = x.id).symm, fun h => by simpa using (by simpa using h : x.id = k).symm⟩
  termination_by l.length
  decreasing_by subst_vars; simp
/-- Whether answer i is right. -/
def ansB (rs : List DRep) (fs : List DFact) (i : Nat) : Bool := match rs[i]?, fs[i]? with
  | some x, some f => !((rs.take i).any fun y => y.id == x.id) && (x.data == f.data || (x.code == 2 && x.data == 0))
  | _, _ => false
def ansAll (rs : List DRep) (fs : List DFact) : Bool := (List.range rs.length).all (ansB rs fs)
theorem ansB_eq {rs : List DRep} {fs : List DFact} {i : Nat} (h : i < rs.length) (h' : i < fs.length) : ansB rs fs i = (!((rs.take i).any fun y => y.id == rs[i].id) && (rs[i].data == fs[i].data || (rs[i].code == 2 && rs[i].data == 0))) := by
  unfold ansB
  rw [List.getElem?_eq_getElem h, List.getElem?_eq_getElem h']
theorem m_iAns (rs : List DRep) (fs : List DFact) (hl : rs.length < 1073741820) (he : fs.length = rs.length) :
    iter Lfi_AnswersOk_0 big (((), (), rs, (rs.length : Int), (0 : Int), ()), (fs, ([] : List (Int × Bool)), ())) = some (bif ansAll rs fs then .inr (.inl ((), ())) else .inl ((false, ()), ())) := by
  have e := iter_all (step := Lfi_AnswersOk_0) (List.range rs.length) (ansB rs fs) (fun i => (((), (), rs, (rs.length : Int), (i : Int), ()), (fs, seenM (rs.take i), ()))) (.inl ((false, ()), ())) (.inr (.inl ((), ()))) big (fun i hi => ?_) ?_ (by rw [List.length_range]; exact bigLt (by omega))
  · exact e
  · rw [List.length_range] at hi
    have hg : (List.range rs.length)[i]'(by rw [List.length_range]; exact hi) = i := List.getElem_range _
    rw [hg, ansB_eq hi (by omega)]
    unfold Lfi_AnswersOk_0
    dsimp only
    rw [decide_eq_true (by omega), cond_true, dif_pos ⟨by omega, by omega⟩]
    simp only [Int.toNat_natCast]
    rw [seenM_get]
    have hsn : mapSet (seenM (rs.take i)) rs[i].id true = seenM (rs.take (i + 1)) := by rw [List.take_succ_eq_append_getElem hi, seenM_snoc]
    cases h1 : (rs.take i).any fun y => y.id == rs[i].id with
    | true => rfl
    | false =>
      rw [cond_false, dif_pos ⟨by omega, by omega⟩, dif_pos (by omega), wrapS (by omega), hsn]
      cases h2 : (rs[i].data == fs[i].data) with
      | true =>
        have : (rs[i].data != fs[i].data) = false := by rw [bne, h2]; rfl
        rw [this]; rfl
      | false =>
        have : (rs[i].data != fs[i].data) = true := by rw [bne, h2]; rfl
        rw [this, cond_true]
        cases h3 : (rs[i].code == (2 : Int)) with
        | false =>
          have : (rs[i].code != (2 : Int)) = true := by rw [bne, h3]; rfl
          rw [this]; rfl
        | true =>
          have : (rs[i].code != (2 : Int)) = false := by rw [bne, h3]; rfl
          rw [this, cond_false]
          cases h4 : (rs[i].data == (0 : Int)) with
          | false =>
            have : (rs[i].data != (0 : Int)) = true := by rw [bne, h4]; rfl
            rw [this]; rfl
          | true =>
            have : (rs[i].data != (0 : Int)) = false := by rw [bne, h4]; rfl
            rw [this]; rfl
  · rw [List.length_range]
    unfold Lfi_AnswersOk_0
    dsimp only
    rw [decide_eq_false (by omega), cond_false]
theorem m_sIn (rs : List DRep) (fs : List DFact) (hl : rs.length < 1073741820) {i : Nat} (hi : i < rs.length) :
    iter Lfs_AnswersOk_2 big ((rs, (), (i : Int), (0 : Int), ()), (fs, ())) = some (bif (rs.take i).any (fun y => y.id == rs[i].id) then .inl ((false, ()), ()) else .inr (.inl ((rs, (), (i : Int), ()), (fs, ())))) := by
  have hlen : (rs.take i).length = i := by rw [List.length_take]; omega
  have e := iter_all (step := Lfs_AnswersOk_2) (rs.take i) (fun y => !(y.id == rs[i].id)) (fun k => ((rs, (), (i : Int), (k : Int), ()), (fs, ()))) (.inl ((false, ()), ())) (.inr (.inl ((rs, (), (i : Int), ()), (fs, ())))) big (fun k hk => ?_) ?_ (by rw [hlen]; exact bigLt (by omega))
  · refine e.trans ?_
    congr 1
    have : (rs.take i).all (fun y => !(y.id == rs[i].id)) = !(rs.take i).any fun y => y.id == rs[i].id := by rw [List.any_eq_not_all_not, Bool.not_not]
    rw [this]
    cases (rs.take i).any fun y => y.id == rs[i].id <;> rfl
  · have hk' : k < i := by omega
    have hg : (rs.take i)[k] = rs[k]'(by omega) := by rw [List.getElem_take]
    rw [hg]
    unfold Lfs_AnswersOk_2
    dsimp only
    rw [decide_eq_true (by omega), cond_true, dif_pos ⟨by omega, by omega⟩, dif_pos ⟨by omega, by omega⟩]
    simp only [Int.toNat_natCast]
    rw [wrapS (by omega)]
    cases (rs[k].id == rs[i].id) <;> rfl
  · rw [hlen]
    unfold Lfs_AnswersOk_2
    dsimp only
    rw [decide_eq_false (by omega), cond_false]
theorem m_sAns (rs : List DRep) (fs : List DFact) (hl : rs.length < 1073741820) (he : fs.length = rs.length) :
    iter Lfs_AnswersOk_0 big ((rs, (), (0 : Int), ()), (fs, ())) = some (bif ansAll rs fs then .inr (.inl ((), ())) else .inl ((false, ()), ())) := by
  have e := iter_all (step := Lfs_AnswersOk_0) (List.range rs.length) (ansB rs fs) (fun i => ((rs, (), (i : Int), ()), (fs, ()))) (.inl ((false, ()), ())) (.inr (.inl ((), ()))) big (fun i hi => ?_) ?_ (by rw [List.length_range]; exact bigLt (by omega))
  · exact e
  · rw [List.length_range] at hi
    have hg : (List.range rs.length)[i]'(by rw [List.length_range]; exact hi) = i := List.getElem_range _
    rw [hg, ansB_eq hi (by omega)]
    unfold Lfs_AnswersOk_0
    dsimp only
    rw [decide_eq_true (by omega), cond_true, m_sIn rs fs hl hi, bindS]
    cases h1 : (rs.take i).any fun y => y.id == rs[i].id with
    | true => rfl
    | false =>
      simp only [cond_false, Sum.elim_inl, Sum.elim_inr]
      rw [dif_pos ⟨by omega, by omega⟩]
      simp only [Int.toNat_natCast]
      rw [wrapS (by omega)]
      cases h3 : (rs[i].code == (2 : Int)) with
      | true =>
        rw [cond_true, dif_pos ⟨by omega, by omega⟩, dif_pos ⟨by omega, by omega⟩, dif_pos ⟨by omega, by omega⟩, dif_pos (by omega)]
        cases h2 : (rs[i].data == fs[i].data) with
        | true =>
          have : (rs[i].data != fs[i].data) = false := by rw [bne, h2]; rfl
          rw [this]; rfl
        | false =>
          have : (rs[i].data != fs[i].data) = true := by rw [bne, h2]; rfl
          rw [this, cond_true]
          cases h4 : (rs[i].data == (0 : Int)) <;> rfl
      | false =>
        rw [cond_false, dif_pos ⟨by omega, by omega⟩, dif_pos ⟨by omega, by omega⟩, dif_pos (by omega)]
        cases h2 : (rs[i].data == fs[i].data) with
        | true =>
          have : (rs[i].data != fs[i].data) = false := by rw [bne, h2]; rfl
          rw [this]; rfl
        | false =>
          have : (rs[i].data != fs[i].data) = true := by rw [bne, h2]; rfl
          rw [this]; rfl
  · rw [List.length_range]
    unfold Lfs_AnswersOk_0
    dsimp only
    rw [decide_eq_false (by omega), cond_false]
def ansOk (lines : Int) (l : List DReq) (rs : List DRep) : Bool := inR lines 1 1024 && ((expd lines l rs).length : Int) == (rs.length : Int) && ansAll rs (expd lines l rs)
theorem m_iAnswersOk (lines : Int) (l : List DReq) (rs : List DRep) (h : l.length < 1073741820) (h' : rs.length < 1073741820) : fi_AnswersOk lines l rs = some (ansOk lines l rs) := by
  unfold fi_AnswersOk ansOk
  rw [p_iExpected _ _ _ h h', bindS, m_between, bindS]
  cases inR lines 1 1024 with
  | false => rfl
  | true =>
    rw [Bool.not_true, cond_false, Bool.true_and]
    cases he : (((expd lines l rs).length : Int) == (rs.length : Int)) with
    | false =>
      have : (((expd lines l rs).length : Int) != (rs.length : Int)) = true := by rw [bne, he]; rfl
      rw [this]; rfl
    | true =>
      have : (((expd lines l rs).length : Int) != (rs.length : Int)) = false := by rw [bne, he]; rfl
      have hn : (expd lines l rs).length = rs.length := Int.ofNat.inj (by simpa using he)
      rw [this, cond_false, m_iAns _ _ h' hn, bindS, Bool.true_and]
      cases ansAll rs (expd lines l rs) <;> rfl
theorem m_sAnswersOk (lines : Int) (l : List DReq) (rs : List DRep) (h : l.length < 1073741820) (h' : rs.length < 1073741820) : fs_AnswersOk lines l rs = some (ansOk lines l rs) := by
  unfold fs_AnswersOk ansOk
  rw [p_sExpected _ _ _ h h', bindS, m_in, bindS]
  cases inR lines 1 1024 with
  | false => rfl
  | true =>
    rw [Bool.not_true, cond_false, Bool.true_and]
    cases he : (((expd lines l rs).length : Int) == (rs.length : Int)) with
    | false =>
      have : (((expd lines l rs).length : Int) != (rs.length : Int)) = true := by rw [bne, he]; rfl
      rw [this]; rfl
    | true =>
      have : (((expd lines l rs).length : Int) != (rs.length : Int)) = false := by rw [bne, he]; rfl
      have hn : (expd lines l rs).length = rs.length := Int.ofNat.inj (by simpa using he)
      rw [this, cond_false, m_sAns _ _ h' hn, bindS, Bool.true_and]
      cases ansAll rs (expd lines l rs) <;> rfl
theorem p_FnExactAnswersOk (x : Int) (l : List DReq) (rs : List DRep) (hb : l.length ≤ 9223372036854775807) (hb' : rs.length ≤ 9223372036854775807) : fl_FnExactAnswersOk x l rs = some true := by
  unfold fl_FnExactAnswersOk
  rw [p_szRequestS l _ hb (by omega) (by omega), bindS]
  by_cases c : (1048576 : Int) < l.length
  · rw [if_pos c]; rfl
  · rw [if_neg c]
    have c1 : decide ((1048576 : Int) - (l.length : Int) < 0) = false := decide_eq_false (by omega)
    rw [c1, cond_false, p_szReplyS rs _ hb' (by omega) (by omega), bindS]
    by_cases c' : (1048576 : Int) - l.length < rs.length
    · rw [if_pos c']; rfl
    · rw [if_neg c']
      have h : l.length < 1073741820 := by omega
      have h' : rs.length < 1073741820 := by omega
      have c2 : decide ((1048576 : Int) - (l.length : Int) - (rs.length : Int) < 0) = false := decide_eq_false (by omega)
      simp only [c2, cond_false, p_toRequestS l (by omega), p_toReplyS rs (by omega), m_sAnswersOk x l rs h h', m_iAnswersOk x l rs h h', bindS, Bool.not_true, p_eqRequestS l (by omega), p_eqReplyS rs (by omega), beq_self_eq_true]
def ReqI (_ : DReq) : Prop := True
theorem cs_six {α : Type} {cs : List α} (h : cs.length = 6) : cs = (cs.drop 0).take 1 ++ (cs.drop 1).take 1 ++ (cs.drop 2).take 1 ++ (cs.drop 3).take 1 ++ (cs.drop 4).take 1 ++ (cs.drop 5).take 1 := by
  match cs, h with
  | [a, b, c, d, e, f], _ => rfl
theorem opn_Request {H : Type} {enc' : TypeId × Value → H} {w : World} : Opn enc' Try.prog w 124 .Req ReqI := fun n cs x hx => by
  obtain ⟨a, ha, r1⟩ := Opn.part Try.underlying124 hx (i := 0) rfl (Opn.int Try.underlying3) (off := 0) (k := 1) rfl (by kernel_rfl)
  obtain ⟨b, hb, r2⟩ := Opn.part Try.underlying124 hx (i := 1) rfl (Opn.int Try.underlying3) (off := 1) (k := 1) rfl (by kernel_rfl)
  obtain ⟨c, hc', r3⟩ := Opn.part Try.underlying124 hx (i := 2) rfl (Opn.int Try.underlying3) (off := 2) (k := 1) rfl (by kernel_rfl)
  obtain ⟨d, hd, r4⟩ := Opn.part Try.underlying124 hx (i := 3) rfl (Opn.bool Try.underlying4) (off := 3) (k := 1) rfl (by kernel_rfl)
  obtain ⟨e, he, r5⟩ := Opn.part Try.underlying124 hx (i := 4) rfl (Opn.int Try.underlying3) (off := 4) (k := 1) rfl (by kernel_rfl)
  obtain ⟨f, hf, r6⟩ := Opn.part Try.underlying124 hx (i := 5) rfl (Opn.int Try.underlying3) (off := 5) (k := 1) rfl (by kernel_rfl)
  have hl := Opn.len Try.underlying124 hx
  have hc : Try.prog.cellsOf 124 = 6 := by kernel_rfl
  rw [hc] at hl
  refine ⟨⟨a, b, c, d, e, f⟩, trivial, ?_⟩
  rw [cs_six hl]
  exact ((((r1.append r2).append r3).append r4).append r5).append r6
theorem open_RequestL {H : Type} {enc' : TypeId × Value → H} {w : World} {base : Nat} {v : Value} {d : DataW H} {p : List MemPlace} (hv : Value.okWide Try.prog w .any base 49 v) (h : DataW.Trod enc' Try.prog w 0 (fun _ => true) true 49 v d p) : RdL .Req ReqI w v :=
  openSl Try.underlying49 (by kernel_rfl) opn_Request hv h
theorem open_ReplyL {H : Type} {enc' : TypeId × Value → H} {w : World} {base : Nat} {v : Value} {d : DataW H} {p : List MemPlace} (hv : Value.okWide Try.prog w .any base 50 v) (h : DataW.Trod enc' Try.prog w 0 (fun _ => true) true 50 v d p) : RdL .Rep RepI w v :=
  openSl Try.underlying50 (by kernel_rfl) opn_Reply hv h
theorem law_FnExactAnswersOk (v0 v1 v2 : Value) (w : World) (r0 : RdInt w v0) (r1 : RdL .Req ReqI w v1) (r2 : RdL .Rep RepI w v2) : Calls Try.prog 5 #[v0, v1, v2] w fun e w' => e = .returned (.bool true) ∧ Below w.heap.size w w' := by
  obtain ⟨x, rfl, _, _⟩ := r0
  obtain ⟨l, hl, _, h0⟩ := r1
  obtain ⟨rs, hr, _, h1⟩ := r2
  unfold maxLen at hl hr
  exact law_of ok_fl_FnExactAnswersOk (ctrT_run (ai := [(false, .int), (false, .sl .Req), (false, .sl .Rep)]) (x := (x, l, rs, ())) (by kernel_rfl) (p_FnExactAnswersOk x l rs hl hr)) (args3 (.int _ _ _) h0 h1)
end Go.Proofs.Ytnmllpfchcfonaa
