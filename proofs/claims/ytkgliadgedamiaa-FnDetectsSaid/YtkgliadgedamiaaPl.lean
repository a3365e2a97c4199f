/-
  Plain laws of the loops that copy and compare. Nothing here is a claim.
-/
import Derived.Test.YtkgliadgedamiaaVZ
namespace Go.Proofs.Ytkgliadgedamiaa
open Go.RowKit
set_option linter.unusedVariables false
set_option maxRecDepth 100000

theorem w64 {n : Int} (h1 : -9223372036854775808 ≤ n) (h2 : n < 9223372036854775808) : IntKind.i64.wrap n = n := by
  rw [IntKind.wrap_i64]; omega
theorem iter_ind {α β : Type} {step : α → Option (α ⊕ β)} (I : α → Prop) (m : α → Nat) (Q : β → Prop)
    (h : ∀ x, I x → (∃ y, step x = some (.inl y) ∧ I y ∧ m y < m x) ∨ ∃ z, step x = some (.inr z) ∧ Q z) :
    ∀ (n : Nat) (x : α), I x → m x < n → ∃ z, iter step n x = some z ∧ Q z
  | 0, x, _, hm => by omega
  | n + 1, x, hx, hm => by
    unfold iter
    rcases h x hx with ⟨y, h1, h2, h3⟩ | ⟨z, h1, h2⟩
    · rw [h1]
      exact iter_ind I m Q h n y h2 (by omega)
    · rw [h1]
      exact ⟨z, rfl, h2⟩
theorem bindS {α β : Type} (x : α) (f : α → Option β) : (some x).bind f = f x := rfl
/-- The loop that makes a copy. -/
theorem copyL {T : Type} (z0 : T) (f : T → Option T) (hf : ∀ x, f x = some x) (l : List T) (hl : l.length < 1073741824) :
    iter (α := ((List T × Unit × Int × Unit) × (List T × Unit))) (β := (((Unit × Unit) × (List T × Unit)) ⊕ Empty)) (fun x => bif (decide (x.1.2.2.1 < (x.1.1.length : Int))) then if h1 : 0 ≤ x.1.2.2.1 ∧ x.1.2.2.1.toNat < x.1.1.length then (let e2 := x.1.1[x.1.2.2.1.toNat]'h1.2; (f e2).bind fun y3 => if h4 : 0 ≤ x.1.2.2.1 ∧ x.1.2.2.1.toNat < x.2.1.length then if h5 : x.1.2.2.1.toNat < x.2.1.length then (let e6 := x.2.1[x.1.2.2.1.toNat]'h5; some (.inl ((x.1.1, (), (IntKind.i64.wrap (x.1.2.2.1 + (1 : Int))), ()), ((x.2.1.set x.1.2.2.1.toNat y3), ())))) else none else none) else none else some (.inr (.inl (((), ()), (x.2.1, ())))))
      big ((l, (), (0 : Int), ()), ((List.replicate (l.length : Int).toNat z0), ())) = some (.inl (((), ()), (l, ()))) := by
  obtain ⟨z, h1, h2⟩ := iter_ind (step := (fun x : ((List T × Unit × Int × Unit) × (List T × Unit)) => (bif (decide (x.1.2.2.1 < (x.1.1.length : Int))) then if h1 : 0 ≤ x.1.2.2.1 ∧ x.1.2.2.1.toNat < x.1.1.length then (let e2 := x.1.1[x.1.2.2.1.toNat]'h1.2; (f e2).bind fun y3 => if h4 : 0 ≤ x.1.2.2.1 ∧ x.1.2.2.1.toNat < x.2.1.length then if h5 : x.1.2.2.1.toNat < x.2.1.length then (let e6 := x.2.1[x.1.2.2.1.toNat]'h5; some (.inl ((x.1.1, (), (IntKind.i64.wrap (x.1.2.2.1 + (1 : Int))), ()), ((x.2.1.set x.1.2.2.1.toNat y3), ())))) else none else none) else none else some (.inr (.inl (((), ()), (x.2.1, ())))) : Option (((List T × Unit × Int × Unit) × (List T × Unit)) ⊕ (((Unit × Unit) × (List T × Unit)) ⊕ Empty)))))
    (fun x => ∃ (i : Nat) (a : List T), x = ((l, (), (i : Int), ()), (a, ())) ∧ i ≤ l.length ∧ a.length = l.length ∧ ∀ j, j < i → a[j]? = l[j]?)
    (fun x => l.length - x.1.2.2.1.toNat) (fun z => z = .inl (((), ()), (l, ()))) (by
      rintro x ⟨i, a, rfl, hi, ha, hj⟩
      dsimp only
      by_cases h : i < l.length
      · left
        have c1 : decide ((i : Int) < (l.length : Int)) = true := by simpa using h
        have c2 : 0 ≤ (i : Int) ∧ (i : Int).toNat < l.length := ⟨by omega, by simpa using h⟩
        have c3 : 0 ≤ (i : Int) ∧ (i : Int).toNat < a.length := ⟨by omega, by rw [ha]; simpa using h⟩
        rw [c1, cond_true, dif_pos c2, hf, bindS, dif_pos c3, dif_pos c3.2]
        refine ⟨_, rfl, ⟨i + 1, a.set i (l[i]'h), ?_, by omega, by simpa using ha, fun j hj' => ?_⟩, ?_⟩
        · rw [w64 (by omega) (by omega)]
          simp
        · rw [List.getElem?_set]
          by_cases e : i = j
          · subst e
            rw [if_pos rfl, if_pos (by omega), List.getElem?_eq_getElem h]
          · rw [if_neg e]
            exact hj j (by omega)
        · dsimp only
          rw [w64 (by omega) (by omega)]
          omega
      · right
        have c1 : decide ((i : Int) < (l.length : Int)) = false := by simpa using h
        rw [c1, cond_false]
        refine ⟨_, rfl, ?_⟩
        have : a = l := List.ext_getElem? fun j => by
          by_cases hjl : j < l.length
          · exact hj j (by omega)
          · rw [List.getElem?_eq_none (by omega), List.getElem?_eq_none (by omega)]
        rw [this])
    big ((l, (), (0 : Int), ()), ((List.replicate (l.length : Int).toNat z0), ())) ⟨0, _, rfl, by omega, by simp, fun j h => by omega⟩ (by dsimp only; unfold big; omega)
  rw [h1, h2]
/-- The loop that compares. -/
theorem eqLoop {T : Type} (f : T → T → Option Bool) (hf : ∀ x, f x x = some true) (l : List T) (hl : l.length < 1073741824) :
    iter (α := ((List T × List T × Int × Unit) × Unit)) (β := (((Bool × Unit) × Unit) ⊕ ((Unit × Unit) ⊕ Empty))) (fun x => bif (decide (x.1.2.2.1 < (x.1.1.length : Int))) then if h1 : 0 ≤ x.1.2.2.1 ∧ x.1.2.2.1.toNat < x.1.1.length then (let e2 := x.1.1[x.1.2.2.1.toNat]'h1.2; if h3 : 0 ≤ x.1.2.2.1 ∧ x.1.2.2.1.toNat < x.1.2.1.length then (let e4 := x.1.2.1[x.1.2.2.1.toNat]'h3.2; (f e2 e4).bind fun y5 => bif (!y5) then some (.inr (.inl ((false, ()), ()))) else some (.inl ((x.1.1, x.1.2.1, (IntKind.i64.wrap (x.1.2.2.1 + (1 : Int))), ()), ()))) else none) else none else some (.inr (.inr (.inl ((), ())))))
      big ((l, l, (0 : Int), ()), ()) = some (.inr (.inl ((), ()))) := by
  obtain ⟨z, h1, h2⟩ := iter_ind (step := (fun x : ((List T × List T × Int × Unit) × Unit) => (bif (decide (x.1.2.2.1 < (x.1.1.length : Int))) then if h1 : 0 ≤ x.1.2.2.1 ∧ x.1.2.2.1.toNat < x.1.1.length then (let e2 := x.1.1[x.1.2.2.1.toNat]'h1.2; if h3 : 0 ≤ x.1.2.2.1 ∧ x.1.2.2.1.toNat < x.1.2.1.length then (let e4 := x.1.2.1[x.1.2.2.1.toNat]'h3.2; (f e2 e4).bind fun y5 => bif (!y5) then some (.inr (.inl ((false, ()), ()))) else some (.inl ((x.1.1, x.1.2.1, (IntKind.i64.wrap (x.1.2.2.1 + (1 : Int))), ()), ()))) else none) else none else some (.inr (.inr (.inl ((), ())))) : Option (((List T × List T × Int × Unit) × Unit) ⊕ (((Bool × Unit) × Unit) ⊕ ((Unit × Unit) ⊕ Empty))))))
    (fun x => ∃ (i : Nat), x = ((l, l, (i : Int), ()), ()) ∧ i ≤ l.length)
    (fun x => l.length - x.1.2.2.1.toNat) (fun z => z = .inr (.inl ((), ()))) (by
      rintro x ⟨i, rfl, hi⟩
      dsimp only
      by_cases h : i < l.length
      · left
        have c1 : decide ((i : Int) < (l.length : Int)) = true := by simpa using h
        have c2 : 0 ≤ (i : Int) ∧ (i : Int).toNat < l.length := ⟨by omega, by simpa using h⟩
        rw [c1, cond_true, dif_pos c2, dif_pos c2, hf, bindS]
        refine ⟨_, rfl, ⟨i + 1, ?_, by omega⟩, ?_⟩
        · rw [w64 (by omega) (by omega)]
          simp
        · dsimp only
          rw [w64 (by omega) (by omega)]
          omega
      · right
        have c1 : decide ((i : Int) < (l.length : Int)) = false := by simpa using h
        rw [c1, cond_false]
        exact ⟨_, rfl, rfl⟩)
    big ((l, l, (0 : Int), ()), ()) ⟨0, rfl, by omega⟩ (by dsimp only; unfold big; omega)
  rw [h1, h2]
end Go.Proofs.Ytkgliadgedamiaa
