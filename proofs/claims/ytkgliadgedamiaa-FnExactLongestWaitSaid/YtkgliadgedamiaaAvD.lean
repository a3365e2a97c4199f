/-
  Operations by contents: what each computes of a state, and that a world follows. First part: operations that make no memory. Nothing here is a claim.
-/
import Derived.Test.YtkgliadgedamiaaAvC
import Derived.Handy
namespace Go.Proofs.Ytkgliadgedamiaa
open Go.RowKit
set_option linter.unusedVariables false

def constA : Value → A
  | .bool b => .lf (.v (.bool b))
  | .int k n => .lf (.v (.int k n))
  | .string s => .lf (.v (.str s))
  | .slice none 0 0 => .lf (.v .nil)
  | _ => .undef
def opd (σ : S) : Operand → A
  | .tmp t => σ.t t
  | .const v => constA v
  | .func f => .fn f []
  | .global _ => .undef
def putK {X : Type} (N : Nat) (σ : S) (dst : Option Tmp) (x : A) (k : S → Option X) : Option X :=
  match dst with
  | none => k σ
  | some d => bif Nat.blt d N then k (σ.set d x) else none
def OpS (P : Program) (w0 : World) (N : Nat) (o : Oper) (σ σ' : S) : Prop :=
  ∀ a w K Q, R w0 N σ a w → (∀ a' w', R w0 N σ' a' w' → K a' w') → o.wp P a w K Q

section
variable {P : Program} {w w0 : World} {B N : Nat} {lab : Lab} {ρ : Nat → Loc} {σ : S} {a : Act} {X : Type} {r : X} {k : S → Option X} {o : Oper}

theorem constA_ok (v : Value) : RA w B lab ρ (constA v) v := by
  unfold constA
  split
  · exact ⟨rfl, .bool _ _⟩
  · exact ⟨rfl, .int _ _ _⟩
  · exact ⟨rfl, .str _ _⟩
  · exact ⟨rfl, .nil _⟩
  · trivial
theorem Rl.opd (h : Rl w0 N lab ρ σ a w) (x : Operand) : RA w w0.heap.size lab ρ (opd σ x) (a.eval x) := by
  cases x with
  | tmp t => exact h.tmp t
  | const v => exact constA_ok v
  | func f => exact ⟨#[], rfl, rfl, by simp⟩
  | global g => trivial

/-- An operation that only gives a value. -/
theorem OpS.val {x : A} (hk : putK N σ o.dst x k = some r) (h : ∀ lab ρ a w, Rl w0 N lab ρ σ a w → ∃ v, (execOp a.eval o).run P w = .ok (.value v) w ∧ RA w w0.heap.size lab ρ x v) : ∃ σ', k σ' = some r ∧ OpS P w0 N o σ σ' := by
  unfold putK at hk
  split at hk
  · rename_i hd
    refine ⟨σ, hk, fun a w K Q hR hK => ?_⟩
    obtain ⟨lab, ρ, hl⟩ := hR
    obtain ⟨v, hv, hx⟩ := h lab ρ a w hl
    unfold Oper.wp
    rw [hv, Oper.upon_value, hd]
    exact hK _ _ ⟨lab, ρ, hl⟩
  · rename_i d hd
    cases hN : Nat.blt d N with
    | false => rw [hN] at hk; cases hk
    | true =>
      rw [hN] at hk
      refine ⟨_, hk, fun a w K Q hR hK => ?_⟩
      obtain ⟨lab, ρ, hl⟩ := hR
      obtain ⟨v, hv, hx⟩ := h lab ρ a w hl
      unfold Oper.wp
      rw [hv, Oper.upon_value, hd]
      exact hK _ _ ⟨lab, ρ, hl.set hx (by have := Nat.le_of_ble_eq_true hN; omega)⟩

/-! Contents of leaves. -/
def getK {X : Type} (m : Nat → Option Root) : List Nat → (V → Option X) → Option X
  | [r], k => match m r with
    | some (.sl y) => k y
    | _ => none
  | j :: i :: s :: q, k => getK m q fun y => match y with
    | .sl t (o + 2) _ l => if s = csz t then (if h : i < l.length then (match (enc t o l[i])[j]? with | some z => k z | none => none) else none) else none
    | _ => none
  | _, _ => none
theorem getK_ok {m : Nat → Option Root} : ∀ (q : List Nat) (k : V → Option X), getK m q k = some r → ∃ y, Get m q y ∧ k y = some r
  | [], _, h => by simp [getK] at h
  | [x], k, h => by
    simp only [getK] at h
    split at h
    · rename_i y hy; exact ⟨y, .root x y hy, h⟩
    · cases h
  | [_, _], _, h => by simp [getK] at h
  | j :: i :: s :: q, k, h => by
    simp only [getK] at h
    obtain ⟨y, hy, h2⟩ := getK_ok q _ h
    clear h
    split at h2
    · split at h2
      · rename_i hs
        subst hs
        split at h2
        · rename_i hi
          split at h2
          · rename_i z hz; exact ⟨z, .elem j i q _ _ _ _ z hy hi hz, h2⟩
          · cases h2
        · cases h2
      · cases h2
    · cases h2
/-- The contents behind a leaf. -/
def lfK {X : Type} (σ : S) (x : Lf) (k : V → Option X) : Option X :=
  match x with
  | .v y => k y
  | .own q => getK σ.m q k
  | .dead => none
theorem lfK_ok {x : Lf} {k : V → Option X} (h : lfK σ x k = some r) {u : Value} (hR : Rl w0 N lab ρ σ a w) (hu : RLf w w0.heap.size lab ρ x u) : ∃ y q, k y = some r ∧ RV w w0.heap.size lab q y u := by
  cases x with
  | v y => exact ⟨y, [], h, hu.2⟩
  | dead => cases h
  | own q =>
    obtain ⟨y, hy, h'⟩ := getK_ok q k h
    obtain ⟨v, hv, hr⟩ := hy.ok hR.root
    have : v = u := by
      have h2 := hu.2
      rw [hv] at h2
      injection h2
    subst this
    exact ⟨y, q, h', hr⟩
/-- One plain value. -/
def vK {X : Type} (x : A) (k : V → Option X) : Option X :=
  match x with
  | .lf (.v y) => k y
  | _ => none
theorem vK_ok {x : A} {k : V → Option X} (h : vK x k = some r) : ∃ y, x = .lf (.v y) ∧ k y = some r := by
  unfold vK at h
  split at h
  · exact ⟨_, rfl, h⟩
  · cases h
theorem RV.int_inv {q : List Nat} {k : IntKind} {n : Int} {u : Value} (h : RV w B lab q (.int k n) u) : u = .int k n := by cases h; rfl
theorem RV.bool_inv {q : List Nat} {n : Bool} {u : Value} (h : RV w B lab q (.bool n) u) : u = .bool n := by cases h; rfl
theorem RV.str_inv {q : List Nat} {n : ByteArray} {u : Value} (h : RV w B lab q (.str n) u) : u = .string n := by cases h; rfl

/-! Arithmetic and comparison. -/
def okLen (n : Nat) : Bool := decide (n < 1073741824)
def binK {X : Type} (P : Program) (ty : TypeId) (op : BinOp) (x y : V) (k : V → Option X) : Option X :=
  match x, y with
  | .int kx a, .int ky b => match op with
    | .shl => if b < 0 then none else k (.int kx (kx.wrap (a * 2 ^ (min b.toNat kx.bits))))
    | .shr => if b < 0 then none else k (.int kx (a.fdiv (2 ^ (min b.toNat kx.bits))))
    | op => if kx = ky then (match op with
      | .add => k (.int kx (kx.wrap (a + b)))
      | .sub => k (.int kx (kx.wrap (a - b)))
      | .mul => k (.int kx (kx.wrap (a * b)))
      | .quo => if b = 0 then none else k (.int kx (kx.wrap (a.tdiv b)))
      | .rem => if b = 0 then none else k (.int kx (a.tmod b))
      | .and => k (.int kx (bits .and kx a b))
      | .or => k (.int kx (bits .or kx a b))
      | .xor => k (.int kx (bits .xor kx a b))
      | .andNot => k (.int kx (bits .andNot kx a b))
      | .eql => k (.bool (a == b))
      | .neq => k (.bool (a != b))
      | .lss => k (.bool (decide (a < b)))
      | .leq => k (.bool (decide (a ≤ b)))
      | .gtr => k (.bool (decide (a > b)))
      | .geq => k (.bool (decide (a ≥ b)))
      | _ => none) else none
  | .bool a, .bool b => match P.underlying ty with
    | some .bool => (match op with
      | .eql => k (.bool (a == b))
      | .neq => k (.bool (!(a == b)))
      | _ => none)
    | _ => none
  | .str a, .str b => match op with
    | .add => bif okLen (a.size + b.size) then k (.str (a ++ b)) else none
    | .eql => k (.bool (a.toList == b.toList))
    | .neq => k (.bool (!(a.toList == b.toList)))
    | _ => none
  | _, _ => none
theorem binK_ok {ty : TypeId} {op : BinOp} {x y : V} {k : V → Option X} (h : binK P ty op x y k = some r) : ∃ z, k z = some r ∧ z.plain = true ∧ ∀ (w : World) (B : Nat) (lab : Lab) (xo yo : Operand) (q q' : List Nat) (u v : Value), RV w B lab q x u → RV w B lab q' y v →
    ∃ t, (do eqGuard op ty xo yo u v; binOp op ty u v : Sem Value).run P w = .ok t w ∧ RV w B lab [] z t := by
  unfold binK at h
  split at h
  · rename_i kx a ky b
    split at h
    · split at h
      · cases h
      · rename_i hb
        refine ⟨_, h, rfl, fun w B lab xo yo q q' u v hu hv => ?_⟩
        obtain rfl := hu.int_inv
        obtain rfl := hv.int_inv
        exact ⟨_, by simp [eqGuard, binOp, Op.shift, hb], .int _ _ _⟩
    · split at h
      · cases h
      · rename_i hb
        refine ⟨_, h, rfl, fun w B lab xo yo q q' u v hu hv => ?_⟩
        obtain rfl := hu.int_inv
        obtain rfl := hv.int_inv
        exact ⟨_, by simp [eqGuard, binOp, Op.shift, hb], .int _ _ _⟩
    · rename_i h1 h2
      split at h
      · rename_i hk
        subst hk
        cases op
        case shl => exact absurd rfl h1
        case shr => exact absurd rfl h2
        case quo =>
          by_cases hb : b = 0
          · simp only [hb, if_true] at h; cases h
          · simp only [hb, if_false] at h
            refine ⟨_, h, rfl, fun w B lab xo yo q q' u v hu hv => ?_⟩
            obtain rfl := hu.int_inv
            obtain rfl := hv.int_inv
            exact ⟨_, by simp [eqGuard, binOp, Op.intDiv, hb], .int _ _ _⟩
        case rem =>
          by_cases hb : b = 0
          · simp only [hb, if_true] at h; cases h
          · simp only [hb, if_false] at h
            refine ⟨_, h, rfl, fun w B lab xo yo q q' u v hu hv => ?_⟩
            obtain rfl := hu.int_inv
            obtain rfl := hv.int_inv
            exact ⟨_, by simp [eqGuard, binOp, Op.intDiv, hb], .int _ _ _⟩
        all_goals first
          | (refine ⟨_, h, rfl, fun w B lab xo yo q q' u v hu hv => ?_⟩
             obtain rfl := hu.int_inv
             obtain rfl := hv.int_inv
             first
               | (refine ⟨_, ?_, .int _ _ _⟩; simp [eqGuard, binOp, Op.intArith]; done)
               | (refine ⟨_, ?_, .int _ _ _⟩; simp [eqGuard, binOp, intBits_and, intBits_or, intBits_xor, intBits_andNot]; done)
               | (refine ⟨_, ?_, .bool _ _⟩; simp [eqGuard, binOp, Op.intCmp]; done))
          | cases h
      · cases h
  · rename_i a b
    split at h
    · rename_i hty
      split at h
      · refine ⟨_, h, rfl, fun w B lab xo yo q q' u v hu hv => ?_⟩
        obtain rfl := hu.bool_inv
        obtain rfl := hv.bool_inv
        have e : binOp .eql ty (.bool a) (.bool b) = (do pure (.bool (← Op.equal ty (.bool a) (.bool b)))) := rfl
        have g : eqGuard .eql ty xo yo (.bool a) (.bool b) = pure () := rfl
        exact ⟨_, by rw [e, g, Sem.run_bind, Sem.run_pure, Result.andThen_ok, Sem.run_bind, run_equal_bool _ _ _ _ hty]; rfl, .bool _ _⟩
      · refine ⟨_, h, rfl, fun w B lab xo yo q q' u v hu hv => ?_⟩
        obtain rfl := hu.bool_inv
        obtain rfl := hv.bool_inv
        have e : binOp .neq ty (.bool a) (.bool b) = (do pure (.bool (!(← Op.equal ty (.bool a) (.bool b))))) := rfl
        have g : eqGuard .neq ty xo yo (.bool a) (.bool b) = pure () := rfl
        exact ⟨_, by rw [e, g, Sem.run_bind, Sem.run_pure, Result.andThen_ok, Sem.run_bind, run_equal_bool _ _ _ _ hty]; rfl, .bool _ _⟩
      · cases h
    · cases h
  · rename_i a b
    split at h
    · cases hL : okLen (a.size + b.size) with
      | false => rw [hL] at h; cases h
      | true =>
        rw [hL] at h
        refine ⟨_, h, rfl, fun w B lab xo yo q q' u v hu hv => ?_⟩
        obtain rfl := hu.str_inv
        obtain rfl := hv.str_inv
        have hL' : a.size + b.size < 1073741824 := by simpa [okLen] using hL
        refine ⟨_, ?_, .str _ _⟩
        have h9 : IntKind.i64.max = 9223372036854775807 := rfl
        simp only [eqGuard, binOp, Op.stringOp, h9]
        simp
        omega
    · refine ⟨_, h, rfl, fun w B lab xo yo q q' u v hu hv => ?_⟩
      obtain rfl := hu.str_inv
      obtain rfl := hv.str_inv
      exact ⟨_, by simp [eqGuard, binOp, Op.stringOp], .bool _ _⟩
    · refine ⟨_, h, rfl, fun w B lab xo yo q q' u v hu hv => ?_⟩
      obtain rfl := hu.str_inv
      obtain rfl := hv.str_inv
      exact ⟨_, by simp [eqGuard, binOp, Op.stringOp], .bool _ _⟩
    · cases h
  · cases h
def unK {X : Type} (op : UnOp) (x : V) (k : V → Option X) : Option X :=
  match op, x with
  | .not, .bool b => k (.bool (!b))
  | .neg, .int kx n => k (.int kx (kx.wrap (0 - n)))
  | _, _ => none
theorem unK_ok {op : UnOp} {x : V} {k : V → Option X} (h : unK op x k = some r) : ∃ z, k z = some r ∧ z.plain = true ∧ ∀ (w : World) (B : Nat) (lab : Lab) (q : List Nat) (u : Value), RV w B lab q x u → ∃ t, (Op.unary op u).run P w = .ok t w ∧ RV w B lab [] z t := by
  unfold unK at h
  split at h
  · refine ⟨_, h, rfl, fun w B lab q u hu => ?_⟩
    obtain rfl := hu.bool_inv
    exact ⟨_, by simp [Op.unary], .bool _ _⟩
  · refine ⟨_, h, rfl, fun w B lab q u hu => ?_⟩
    obtain rfl := hu.int_inv
    exact ⟨_, by simp [Op.unary, Op.intArith], .int _ _ _⟩
  · cases h
theorem V.plain_fro {x : V} (h : x.plain = true) : x.fro = true := by cases x <;> first | rfl | cases h
end
end Go.Proofs.Ytkgliadgedamiaa
