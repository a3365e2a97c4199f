/-
  Plain laws. Nothing here is a claim.
-/
import Derived.Test.YtnmllpfchcfonaaVZ
import Derived.Test.YtnmllpfchcfonaaOpenV
import Derived.Test.YtnmllpfchcfonaaG1
namespace Go.Proofs.Ytnmllpfchcfonaa
open Go.RowKit
set_option linter.unusedVariables false
set_option linter.unusedSimpArgs false
set_option maxRecDepth 100000

theorem w64 {n : Int} (h1 : -9223372036854775808 ≤ n) (h2 : n < 9223372036854775808) : IntKind.i64.wrap n = n := by
  rw [IntKind.wrap_i64]; omega
theorem iter_ind {α β : Type} {step : α → Option (α ⊕ β)} (I : α → Prop) (m : α → Nat) (Q : β → Prop)
    (h : ∀ x, I x → (∃ y, step x = some (.inl y) ∧ I y ∧ m y < m x) ∨ ∃ z, step x = some (.inr z) ∧ Q z) :
    ∀ (n : Nat) (x : α), I x → m x < n → ∃ z, iter step n x = some z ∧ Q z
  | 0, x, _, hm => by omega
  | n + 1, x, hx, hm => by
    unfold iter
    rcases h x hx with ⟨y, h1, h2, h3⟩ | ⟨z, h1, h2⟩
    · rw [h1]
      exact iter_ind I m Q h n y h2 (by omega)
    · rw [h1]
      exact ⟨z, rfl, h2⟩
theorem bindS {α β : Type} (x : α) (f : α → Option β) : (some x).bind f = f x := rfl
theorem find_none {α : Type} {p : α → Bool} {l : List α} (h : ∀ j (hj : j < l.length), p l[j] = false) : l.find? p = none := by
  rw [List.find?_eq_none]
  intro x hx
  obtain ⟨j, hj, rfl⟩ := List.mem_iff_getElem.1 hx
  rw [h j hj]; simp
theorem find_at {α : Type} {p : α → Bool} {l : List α} {i : Nat} (hi : i < l.length) (h : ∀ j (hj : j < i), p (l[j]'(by omega)) = false) (hp : p l[i] = true) : l.find? p = some l[i] := by
  rw [List.find?_eq_some_iff_getElem]
  exact ⟨hp, i, hi, rfl, fun j hj => by rw [h j hj]; rfl⟩
theorem p_requestOf (l : List DReq) (id : Int) (h : l.length < 1073741824) : fi_requestOf l id = some (match l.find? (fun r => r.id == id) with | some r => (r, true) | none => ((⟨0, 0, 0, false, 0, 0⟩ : DReq), false)) := by
  unfold fi_requestOf
  obtain ⟨z, h1, h2⟩ := iter_ind (step := Lfi_requestOf_0)
    (fun x => ∃ i : Nat, x = ((id, (), l, (l.length : Int), (i : Int), ()), (((0 : Int), (0 : Int), (0 : Int), false, (0 : Int), (0 : Int), ()), ())) ∧ i ≤ l.length ∧ ∀ j (hj : j < i) (hl : j < l.length), ((l[j]'hl).id == id) = false)
    (fun x => l.length - x.1.2.2.2.2.1.toNat)
    (fun z => (Sum.elim (fun z3 => some ((⟨z3.2.1.1, z3.2.1.2.1, z3.2.1.2.2.1, z3.2.1.2.2.2.1, z3.2.1.2.2.2.2.1, z3.2.1.2.2.2.2.2.1⟩ : DReq), z3.1.2.1)) (Sum.elim (fun z4 => some ((⟨(0 : Int), (0 : Int), (0 : Int), false, (0 : Int), (0 : Int)⟩ : DReq), false)) (fun z => nomatch z)) z) = some (match l.find? (fun r => r.id == id) with | some r => (r, true) | none => ((⟨0, 0, 0, false, 0, 0⟩ : DReq), false))) (by
      rintro x ⟨i, rfl, hi, hj⟩
      unfold Lfi_requestOf_0
      dsimp only
      by_cases h' : i < l.length
      · have c1 : decide ((i : Int) < (l.length : Int)) = true := by simpa using h'
        have c2 : 0 ≤ (i : Int) ∧ (i : Int).toNat < l.length := ⟨by omega, by simpa using h'⟩
        rw [c1, cond_true, dif_pos c2]
        simp only [Int.toNat_natCast]
        cases hp : (l[i].id == id) with
        | true =>
          right
          refine ⟨_, by rw [cond_true], ?_⟩
          rw [find_at (p := fun r => r.id == id) h' (fun j hj' => hj j hj' (by omega)) hp]
          rfl
        | false =>
          left
          refine ⟨_, by rw [cond_false], ⟨i + 1, ?_, by omega, fun j hj' hl => ?_⟩, ?_⟩
          · rw [w64 (by omega) (by omega)]
            simp
          · by_cases e : j = i
            · subst e; exact hp
            · exact hj j (by omega) hl
          · dsimp only
            rw [w64 (by omega) (by omega)]
            omega
      · right
        have c1 : decide ((i : Int) < (l.length : Int)) = false := by simpa using h'
        rw [c1, cond_false]
        refine ⟨_, rfl, ?_⟩
        rw [find_none (p := fun r => r.id == id) (fun j hjl => hj j (by omega) hjl)]
        rfl)
    big _ ⟨0, rfl, by omega, fun j h => by omega⟩ (by dsimp only; unfold big; omega)
  have h1 : iter Lfi_requestOf_0 big ((id, (), l, (l.length : Int), (0 : Int), ()), (((0 : Int), (0 : Int), (0 : Int), false, (0 : Int), (0 : Int), ()), ())) = some z := h1
  rw [h1]
  exact h2
/-- The place of the first request with a number. -/
def place (l : List DReq) (id : Int) : Int := match l.findIdx? (fun r => r.id == id) with
  | some i => (i : Int)
  | none => -1
theorem p_l19At (l : List DReq) (id : Int) (h : l.length < 1073741824) : fs_l19At l id = some (place l id) := by
  unfold fs_l19At
  obtain ⟨z, h1, h2⟩ := iter_ind (step := Lfs_l19At_0)
    (fun x => ∃ i : Nat, x = ((l, id, (i : Int), ()), ()) ∧ i ≤ l.length ∧ ∀ j (hj : j < i) (hl : j < l.length), ((l[j]'hl).id == id) = false)
    (fun x => l.length - x.1.2.2.1.toNat)
    (fun z => (Sum.elim (fun z3 => some z3.1.1) (Sum.elim (fun z4 => some (-1 : Int)) (fun z => nomatch z)) z) = some (place l id)) (by
      rintro x ⟨i, rfl, hi, hj⟩
      unfold Lfs_l19At_0
      dsimp only
      by_cases h' : i < l.length
      · have c1 : decide ((i : Int) < (l.length : Int)) = true := by simpa using h'
        have c2 : 0 ≤ (i : Int) ∧ (i : Int).toNat < l.length := ⟨by omega, by simpa using h'⟩
        rw [c1, cond_true, dif_pos c2]
        simp only [Int.toNat_natCast]
        cases hp : (l[i].id == id) with
        | true =>
          right
          refine ⟨_, by rw [cond_true], ?_⟩
          have : l.findIdx? (fun r => r.id == id) = some i := by
            rw [List.findIdx?_eq_some_iff_getElem]
            exact ⟨h', hp, fun j hj' => by rw [hj j hj' (by omega)]; simp⟩
          unfold place
          rw [this]
          rfl
        | false =>
          left
          refine ⟨_, by rw [cond_false], ⟨i + 1, ?_, by omega, fun j hj' hl => ?_⟩, ?_⟩
          · rw [w64 (by omega) (by omega)]
            simp
          · by_cases e : j = i
            · subst e; exact hp
            · exact hj j (by omega) hl
          · dsimp only
            rw [w64 (by omega) (by omega)]
            omega
      · right
        have c1 : decide ((i : Int) < (l.length : Int)) = false := by simpa using h'
        rw [c1, cond_false]
        refine ⟨_, rfl, ?_⟩
        have : l.findIdx? (fun r => r.id == id) = none := by
          rw [List.findIdx?_eq_none_iff]
          intro x hx
          obtain ⟨j, hjl, rfl⟩ := List.mem_iff_getElem.1 hx
          exact hj j (by omega) hjl
        unfold place
        rw [this]
        rfl)
    big _ ⟨0, rfl, by omega, fun j h => by omega⟩ (by dsimp only; unfold big; omega)
  have h1 : iter Lfs_l19At_0 big ((l, id, (0 : Int), ()), ()) = some z := h1
  rw [h1]
  exact h2
theorem take_foldl {α β : Type} (f : β → α → β) (b : β) (l : List α) (i : Nat) (h : i < l.length) : (l.take (i + 1)).foldl f b = f ((l.take i).foldl f b) l[i] := by
  rw [List.take_add_one, List.foldl_append, List.getElem?_eq_getElem h]
  rfl
/-- A loop that goes through n turns: S gives the state at each. -/
theorem iter_run {α β : Type} {step : α → Option (α ⊕ β)} (S : Nat → α) {z : β} : ∀ (n i fuel : Nat), (∀ k, i ≤ k → k < i + n → step (S k) = some (.inl (S (k + 1)))) → step (S (i + n)) = some (.inr z) → n < fuel → iter step fuel (S i) = some z
  | 0, i, fuel, _, hz, hf => by
    match fuel, hf with
    | f + 1, _ => unfold iter; rw [Nat.add_zero] at hz; rw [hz]
  | n + 1, i, fuel, hs, hz, hf => by
    match fuel, hf with
    | f + 1, hf =>
      unfold iter
      rw [hs i (Nat.le_refl _) (by omega)]
      exact iter_run S n (i + 1) f (fun k h1 h2 => hs k (by omega) (by omega)) (by rw [show i + 1 + n = i + (n + 1) by omega]; exact hz) (by omega)
theorem wrap_succ {i : Nat} (h : i < 4611686018427387904) : IntKind.i64.wrap ((i : Int) + 1) = ((i + 1 : Nat) : Int) := by
  rw [w64 (by omega) (by omega)]; simp
theorem and255 (y : Int) : 0 ≤ bits .and .i64 y 255 ∧ bits .and .i64 y 255 ≤ 255 := by
  have e : bits .and .i64 y 255 = IntKind.i64.wrap ((BitVec.ofInt 64 y &&& BitVec.ofInt 64 255).toNat : Int) := rfl
  have h : (BitVec.ofInt 64 y &&& BitVec.ofInt 64 255).toNat ≤ 255 := by
    rw [BitVec.toNat_and]
    exact Nat.le_trans Nat.and_le_right (by decide)
  rw [e, IntKind.wrap_i64]
  omega
/-- A cursor over some bytes. -/
structure Cok (b : List Int) (c : DCur) : Prop where
  eq : c.b = b
  lo : 0 ≤ c.i
  hi : c.i ≤ b.length
  len : b.length ≤ 1073741823
theorem Cok.eta {b : List Int} {c : DCur} (h : Cok b c) : (⟨b, c.i, c.h⟩ : DCur) = c := by
  obtain ⟨b', i, h'⟩ := c
  have := h.eq
  simp only at this
  subst this
  rfl
/-- A draw gives a value of P, and the cursor goes on. -/
def Dr {α : Type} (b : List Int) (f : Option (α × (DCur × Unit))) (P : α → Prop) : Prop := ∃ x c, f = some (x, (c, ())) ∧ Cok b c ∧ P x
theorem Dr.bind {α β : Type} {b : List Int} {f : Option (α × (DCur × Unit))} {g : α × (DCur × Unit) → Option (β × (DCur × Unit))} {P : α → Prop} {Q : β → Prop} (h : Dr b f P) (hg : ∀ x c, P x → Cok b c → Dr b (g (x, (c, ()))) Q) : Dr b (f.bind g) Q := by
  obtain ⟨x, c, h1, h2, h3⟩ := h
  rw [h1]
  exact hg x c h3 h2
theorem Dr.pure {α : Type} {b : List Int} {x : α} {c : DCur} {P : α → Prop} (hc : Cok b c) (hp : P x) : Dr b (some (x, (c, ()))) P := ⟨x, c, rfl, hc, hp⟩
theorem p_new (l : List Int) (h : l.length ≤ 1073741823) : ∃ y, fs_l01New l = some y := by
  unfold fs_l01New
  obtain ⟨z, h1, h2⟩ := iter_ind (step := Lfs_l01New_0)
    (fun x => ∃ (i : Nat) (y : Int), x = (((), y, (i : Int), ()), (l, ())) ∧ i ≤ l.length)
    (fun x => l.length - x.1.2.2.1.toNat) (fun z => ∃ y, (Sum.elim (fun z3 : ((Unit × Int × Unit) × ((List Int) × Unit)) => some z3.1.2.1) (fun z => nomatch z)) z = some y) (by
      rintro x ⟨i, y, rfl, hi⟩
      unfold Lfs_l01New_0
      dsimp only
      by_cases h' : i < l.length
      · have c1 : decide ((i : Int) < (l.length : Int)) = true := by simpa using h'
        have c2 : 0 ≤ (i : Int) ∧ (i : Int).toNat < l.length := ⟨by omega, by simpa using h'⟩
        rw [c1, cond_true]
        cases h4 : decide ((i : Int) < 4000) with
        | true =>
          rw [cond_true, dif_pos c2]
          left
          refine ⟨_, rfl, ⟨i + 1, _, by rw [wrap_succ (by omega)], by omega⟩, ?_⟩
          dsimp only
          rw [wrap_succ (by omega)]
          omega
        | false =>
          rw [cond_false]
          right
          exact ⟨_, rfl, _, rfl⟩
      · have c1 : decide ((i : Int) < (l.length : Int)) = false := by simpa using h'
        rw [c1, cond_false]
        right
        exact ⟨_, rfl, _, rfl⟩)
    big (((), (IntKind.i64.wrap ((97301 : Int) + (l.length : Int))), ((0 : Nat) : Int), ()), (l, ())) ⟨0, _, rfl, by omega⟩ (by dsimp only; unfold big; omega)
  have h1 : iter Lfs_l01New_0 big (((), (IntKind.i64.wrap ((97301 : Int) + (l.length : Int))), (0 : Int), ()), (l, ())) = some z := h1
  rw [h1]
  exact h2
theorem new_cok (l : List Int) (y : Int) (h : l.length ≤ 1073741823) : Cok l ⟨l, 0, y⟩ := ⟨rfl, Int.le_refl _, by simp, h⟩
theorem p_byte {b : List Int} {c : DCur} (hc : Cok b c) : Dr b (fs_l01Byte c) fun x => 0 ≤ x ∧ x ≤ 255 := by
  have hb := hc.eq
  have h1 := hc.lo
  have h2 := hc.hi
  have h3 := hc.len
  unfold fs_l01Byte
  by_cases h : c.i < (c.b.length : Int)
  · have c1 : decide (c.i < (c.b.length : Int)) = true := by simpa using h
    rw [c1, cond_true, dif_pos ⟨h1, by omega⟩]
    refine Dr.pure ⟨hb, ?_, ?_, h3⟩ (and255 _)
    · show 0 ≤ IntKind.i64.wrap (c.i + 1)
      rw [hb] at h
      rw [w64 (by omega) (by omega)]; omega
    · show IntKind.i64.wrap (c.i + 1) ≤ _
      rw [hb] at h
      rw [w64 (by omega) (by omega)]; omega
  · have c1 : decide (c.i < (c.b.length : Int)) = false := by simpa using h
    rw [c1, cond_false]
    exact Dr.pure ⟨hb, h1, h2, h3⟩ (and255 _)
theorem tmod_bd {x n : Int} (h : 0 ≤ x) (hn : 0 < n) : 0 ≤ x.tmod n ∧ x.tmod n < n := by
  rw [Int.tmod_eq_emod_of_nonneg h]
  exact ⟨Int.emod_nonneg _ (by omega), Int.emod_lt_of_pos _ hn⟩
theorem p_below {b : List Int} {c : DCur} (hc : Cok b c) (n : Int) : Dr b (fs_l01Below c n) fun x => 0 ≤ x ∧ (n ≤ 0 → x = 0) ∧ (0 < n → x < n) := by
  unfold fs_l01Below
  by_cases h0 : n ≤ 0
  · have c1 : decide (n ≤ 0) = true := by simpa using h0
    rw [c1, cond_true]
    exact Dr.pure hc ⟨Int.le_refl _, fun _ => rfl, fun h => by omega⟩
  · have c1 : decide (n ≤ 0) = false := by simpa using h0
    have hn : ¬ n = 0 := by omega
    rw [c1, cond_false]
    by_cases h1 : n ≤ 256
    · have c2 : decide (n ≤ 256) = true := by simpa using h1
      rw [c2, cond_true]
      refine (p_byte hc).bind fun x c' hx hc' => ?_
      rw [if_neg hn]
      dsimp only
      rw [hc.eq, hc'.eta]
      have := tmod_bd hx.1 (show 0 < n by omega)
      exact Dr.pure hc' ⟨this.1, fun h => by omega, fun _ => this.2⟩
    · have c2 : decide (n ≤ 256) = false := by simpa using h1
      rw [c2, cond_false, hc.eq]
      refine (p_byte hc).bind fun x1 k1 hx1 hk1 => ?_
      dsimp only
      rw [hk1.eta]
      refine (p_byte hk1).bind fun x2 k2 hx2 hk2 => ?_
      dsimp only
      rw [hk2.eta]
      refine (p_byte hk2).bind fun x3 k3 hx3 hk3 => ?_
      dsimp only
      rw [hk3.eta]
      refine (p_byte hk3).bind fun x4 k4 hx4 hk4 => ?_
      rw [if_neg hn]
      dsimp only
      rw [hk4.eta]
      rw [w64 (n := x1 * 16777216) (by omega) (by omega), w64 (n := x2 * 65536) (by omega) (by omega), w64 (n := x1 * 16777216 + x2 * 65536) (by omega) (by omega), w64 (n := x3 * 256) (by omega) (by omega), w64 (n := x1 * 16777216 + x2 * 65536 + x3 * 256) (by omega) (by omega), w64 (n := x1 * 16777216 + x2 * 65536 + x3 * 256 + x4) (by omega) (by omega)]
      have := tmod_bd (x := x1 * 16777216 + x2 * 65536 + x3 * 256 + x4) (by omega) (show 0 < n by omega)
      exact Dr.pure hk4 ⟨this.1, fun h => by omega, fun _ => this.2⟩
theorem p_between (x a b : Int) : fi_between x a b = some (decide (a ≤ x) && decide (x ≤ b)) := by
  unfold fi_between
  by_cases h : a ≤ x
  · have : decide (x ≥ a) = true := decide_eq_true h
    rw [this]; rfl
  · have : decide (x ≥ a) = false := decide_eq_false h
    rw [this]; rfl
theorem p_between_t {x a b : Int} (h : a ≤ x) (h' : x ≤ b) : fi_between x a b = some true := by
  rw [p_between, decide_eq_true h, decide_eq_true h']; rfl
theorem p_in_t {x a b : Int} (h : a ≤ x) (h' : x ≤ b) : fs_l01In x a b = some true := p_between_t h h'
/-- One reply more. -/
def expF (lines : Int) (l : List DReq) (st : List Int × List DFact) (x : DRep) : List Int × List DFact :=
  match l.find? (fun r => r.id == x.id) with
  | none => st
  | some r => if 0 ≤ r.line ∧ r.line ≤ lines - 1 then (if r.write = true then (st.1.set r.line.toNat r.data, st.2 ++ [⟨r.line, 0, 0⟩]) else (st.1, st.2 ++ [⟨r.line, st.1.getD r.line.toNat 0, x.code⟩])) else st
def expS (lines : Int) (l : List DReq) (rs : List DRep) : List Int × List DFact := rs.foldl (expF lines l) (List.replicate lines.toNat 0, [])
theorem expF_len (lines : Int) (l : List DReq) (st : List Int × List DFact) (x : DRep) : (expF lines l st x).1.length = st.1.length ∧ (expF lines l st x).2.length ≤ st.2.length + 1 := by
  unfold expF
  split
  · exact ⟨rfl, by omega⟩
  · split
    · split <;> simp
    · exact ⟨rfl, by omega⟩
theorem expS_len (lines : Int) (l : List DReq) (rs : List DRep) : (expS lines l rs).1.length = lines.toNat ∧ (expS lines l rs).2.length ≤ rs.length := by
  have key : ∀ (rs : List DRep) st, (rs.foldl (expF lines l) st).1.length = st.1.length ∧ (rs.foldl (expF lines l) st).2.length ≤ st.2.length + rs.length := by
    intro rs
    induction rs with
    | nil => intro st; simp
    | cons x rs ih =>
      intro st
      have h1 := expF_len lines l st x
      have h2 := ih (expF lines l st x)
      simp only [List.foldl_cons, List.length_cons]
      omega
  have := key rs (List.replicate lines.toNat 0, [])
  simpa [expS] using this
theorem expS_succ (lines : Int) (l : List DReq) (rs : List DRep) {i : Nat} (h : i < rs.length) : expS lines l (rs.take (i + 1)) = expF lines l (expS lines l (rs.take i)) rs[i] := take_foldl _ _ _ _ h
def expd (lines : Int) (l : List DReq) (rs : List DRep) : List DFact := if 1 ≤ lines ∧ lines ≤ 1024 then (expS lines l rs).2 else []
theorem ok1 {α : Type} {out : List α} {x : α} (h : out.length < 1073741822) : okLen (out.length + [x].length) = true := by
  unfold okLen; refine decide_eq_true ?_; simp; omega
theorem bw (x a b : Int) (h : ¬ (a ≤ x ∧ x ≤ b)) : fi_between x a b = some false := by
  rw [p_between]
  by_cases h1 : a ≤ x
  · have : ¬ x ≤ b := fun h2 => h ⟨h1, h2⟩
    rw [decide_eq_true h1, decide_eq_false this]; rfl
  · rw [decide_eq_false h1]; rfl
theorem bw' (x a b : Int) (h : ¬ (a ≤ x ∧ x ≤ b)) : fs_l01In x a b = some false := bw x a b h
theorem p_iExpected (lines : Int) (l : List DReq) (rs : List DRep) (h : l.length < 1073741820) (h' : rs.length < 1073741820) : fi_Expected lines l rs = some (expd lines l rs) := by
  unfold fi_Expected expd
  by_cases hl : 1 ≤ lines ∧ lines ≤ 1024
  · rw [p_between_t hl.1 hl.2, bindS, if_pos hl]
    simp only [Bool.not_true, cond_false]
    rw [if_pos ⟨by omega, by omega, by omega⟩]
    have e := iter_run (step := Lfi_Expected_0) (fun i => ((lines, l, (), (), rs, (rs.length : Int), (i : Int), ()), ((expS lines l (rs.take i)).1, (expS lines l (rs.take i)).2, ()))) (z := .inl (((), ()), ((expS lines l rs).2, ()))) rs.length 0 big (fun i _ hi => ?_) ?_ (by unfold big; omega)
    · have e : iter Lfi_Expected_0 big ((lines, l, (), (), rs, (rs.length : Int), (0 : Int), ()), ((List.replicate lines.toNat (0 : Int)), ([] : List DFact), ())) = _ := e
      rw [e]; rfl
    · have hi : i < rs.length := by omega
      unfold Lfi_Expected_0
      dsimp only
      have c1 : decide ((i : Int) < (rs.length : Int)) = true := decide_eq_true (by omega)
      have c2 : 0 ≤ (i : Int) ∧ (i : Int).toNat < rs.length := ⟨by omega, by simpa using hi⟩
      obtain ⟨hm, ho⟩ := expS_len lines l (rs.take i)
      rw [List.length_take] at ho
      rw [c1, cond_true, dif_pos c2, wrap_succ (by omega), expS_succ lines l rs hi]
      simp only [Int.toNat_natCast]
      generalize expS lines l (rs.take i) = st at hm ho
      rw [p_requestOf l _ (by omega), bindS]
      unfold expF
      cases hf : l.find? (fun r => r.id == rs[i].id) with
      | none => rfl
      | some r =>
        simp only [Bool.not_true, cond_false]
        rw [w64 (n := lines - 1) (by omega) (by omega)]
        by_cases hb : 0 ≤ r.line ∧ r.line ≤ lines - 1
        · rw [p_between_t hb.1 hb.2, bindS, if_pos hb]
          have c3 : 0 ≤ r.line ∧ r.line.toNat < st.1.length := ⟨hb.1, by omega⟩
          simp only [Bool.not_true, cond_false]
          cases hw : r.write with
          | true =>
            rw [cond_true, dif_pos c3, dif_pos c3.2, ok1 (by omega)]
            rfl
          | false =>
            rw [cond_false, dif_pos c3, dif_pos c3.2, ok1 (by omega)]
            rw [List.getD_eq_getElem?_getD, List.getElem?_eq_getElem c3.2]
            rfl
        · rw [bw _ _ _ hb, bindS, if_neg hb]
          rfl
    · rw [Nat.zero_add]
      unfold Lfi_Expected_0
      dsimp only
      have c1 : decide ((rs.length : Int) < (rs.length : Int)) = false := decide_eq_false (by omega)
      rw [c1, cond_false, List.take_length]
  · rw [bw _ _ _ hl, bindS, if_neg hl]
    rfl
theorem p_sExpected (lines : Int) (l : List DReq) (rs : List DRep) (h : l.length < 1073741820) (h' : rs.length < 1073741820) : fs_Expected lines l rs = some (expd lines l rs) := by
  unfold fs_Expected expd
  by_cases hl : 1 ≤ lines ∧ lines ≤ 1024
  · rw [p_in_t hl.1 hl.2, bindS, if_pos hl]
    simp only [Bool.not_true, cond_false]
    rw [if_pos ⟨by omega, by omega, by omega⟩]
    have e := iter_run (step := Lfs_Expected_0) (fun i => ((lines, l, rs, (), (), (i : Int), ()), ((expS lines l (rs.take i)).2, (expS lines l (rs.take i)).1, ()))) (z := .inl (((), ()), ((expS lines l rs).2, ()))) rs.length 0 big (fun i _ hi => ?_) ?_ (by unfold big; omega)
    · have e : iter Lfs_Expected_0 big ((lines, l, rs, (), (), (0 : Int), ()), (([] : List DFact), (List.replicate lines.toNat (0 : Int)), ())) = _ := e
      rw [e]; rfl
    · have hi : i < rs.length := by omega
      unfold Lfs_Expected_0
      dsimp only
      have c1 : decide ((i : Int) < (rs.length : Int)) = true := decide_eq_true (by omega)
      have c2 : 0 ≤ (i : Int) ∧ (i : Int).toNat < rs.length := ⟨by omega, by simpa using hi⟩
      obtain ⟨hm, ho⟩ := expS_len lines l (rs.take i)
      rw [List.length_take] at ho
      rw [c1, cond_true, dif_pos c2, wrap_succ (by omega), expS_succ lines l rs hi]
      simp only [Int.toNat_natCast]
      generalize expS lines l (rs.take i) = st at hm ho
      rw [p_l19At l _ (by omega), bindS]
      unfold expF
      cases hf : l.findIdx? (fun r => r.id == rs[i].id) with
      | none =>
        have hpl : place l rs[i].id = -1 := by unfold place; rw [hf]
        have hfi : l.find? (fun r => r.id == rs[i].id) = none := by
          rw [List.find?_eq_none]
          intro x hx
          have := List.findIdx?_eq_none_iff.1 hf x hx
          simpa using this
        rw [hfi, hpl]
        rfl
      | some k =>
        obtain ⟨k1, k2, k3⟩ := List.findIdx?_eq_some_iff_getElem.1 hf
        have hpl : place l rs[i].id = (k : Int) := by unfold place; rw [hf]
        have hfi : l.find? (fun r => r.id == rs[i].id) = some l[k] := find_at k1 (fun j hj => by simpa using k3 j hj) k2
        have c3 : decide (place l rs[i].id < 0) = false := by rw [hpl]; exact decide_eq_false (by omega)
        have c4 : 0 ≤ place l rs[i].id ∧ (place l rs[i].id).toNat < l.length := by rw [hpl]; exact ⟨by omega, by simpa using k1⟩
        rw [hfi, c3, cond_false, dif_pos c4]
        simp only [hpl, Int.toNat_natCast]
        rw [w64 (n := lines - 1) (by omega) (by omega)]
        by_cases hb : 0 ≤ l[k].line ∧ l[k].line ≤ lines - 1
        · rw [p_in_t hb.1 hb.2, bindS, if_pos hb]
          have c5 : 0 ≤ l[k].line ∧ l[k].line.toNat < st.1.length := ⟨hb.1, by omega⟩
          have c6 : 0 ≤ (k : Int) ∧ k < l.length := ⟨by omega, k1⟩
          have c7 : 0 ≤ (i : Int) ∧ i < rs.length := ⟨by omega, hi⟩
          simp only [Bool.not_true, cond_false]
          rw [dif_pos c6]
          cases hw : l[k].write with
          | true =>
            rw [cond_true, dif_pos c5, dif_pos c5.2, ok1 (by omega)]
            rfl
          | false =>
            rw [cond_false, dif_pos c5, dif_pos c5.2, dif_pos c7, ok1 (by omega)]
            rw [List.getD_eq_getElem?_getD, List.getElem?_eq_getElem c5.2]
            rfl
        · rw [bw' _ _ _ hb, bindS, if_neg hb]
          rfl
    · rw [Nat.zero_add]
      unfold Lfs_Expected_0
      dsimp only
      have c1 : decide ((rs.length : Int) < (rs.length : Int)) = false := decide_eq_false (by omega)
      rw [c1, cond_false, List.take_length]
  · rw [bw' _ _ _ hl, bindS, if_neg hl]
    rfl
/-- A loop that stops early where a test of an element fails. -/
theorem iter_all {α β T : Type} {step : α → Option (α ⊕ β)} (l : List T) (q : T → Bool) (S : Nat → α) (zf z : β) (fuel : Nat) (hs : ∀ k (h : k < l.length), step (S k) = some (bif q l[k] then .inl (S (k + 1)) else .inr zf)) (hz : step (S l.length) = some (.inr z)) (hf : l.length < fuel) :
    iter step fuel (S 0) = some (bif l.all q then z else zf) := by
  have key : ∀ (n i fuel : Nat), i + n = l.length → n < fuel → iter step fuel (S i) = some (bif (l.drop i).all q then z else zf) := by
    intro n
    induction n with
    | zero =>
      intro i fuel hi hf
      match fuel, hf with
      | f + 1, _ =>
        have : i = l.length := by omega
        subst this
        unfold iter
        rw [hz]
        simp
    | succ n ih =>
      intro i fuel hi hf
      match fuel, hf with
      | f + 1, hf =>
        have hlt : i < l.length := by omega
        unfold iter
        rw [hs i hlt, List.drop_eq_getElem_cons hlt, List.all_cons]
        cases q l[i] with
        | true => simp only [cond_true, Bool.true_and]; exact ih (i + 1) f (by omega) (by omega)
        | false => rfl
  exact key l.length 0 fuel (by omega) hf
theorem okLen_t {n : Nat} (h : n < 1073741824) : okLen n = true := decide_eq_true h
theorem wrapS {i : Nat} (h : i < 4611686018427387904) : IntKind.i64.wrap ((i : Int) + 1) = ((i + 1 : Nat) : Int) := by
  rw [w64 (by omega) (by omega)]; simp
theorem bigLt {n : Nat} (h : n < 1073741824) : n < big := by unfold big; omega
def inR (x a b : Int) : Bool := decide (a ≤ x) && decide (x ≤ b)
theorem m_between (x a b : Int) : fi_between x a b = some (inR x a b) := by
  unfold fi_between inR
  by_cases h : a ≤ x <;> simp [h]
theorem m_in (x a b : Int) : fs_l01In x a b = some (inR x a b) := m_between x a b
def gmT : Nat := 116196760129267793630862849262464326346044543732748708940920453221664288556434379745879494961270582141731748813355742142288220638766218855867759359510984593843506004200114943278699875244065120512813025380665946106619127097398772031257643617143689515450995722003729973585221105779229319991106539050771048038400
def gm (a b : Nat) : Nat := (gmT / 2 ^ (4 * (16 * a + b))) % 16
def byL : List Nat := [8, 14, 7, 1]
def byG (k : Nat) : Nat := byL.getD k 0
/-- One turn of the inner loop, in row m (i = m + 3). -/
def inn (r : List Nat) (m f : Nat) : Nat → List Nat
  | 0 => r
  | k + 1 => (inn r m f k).set (m + k) ((inn r m f k).getD (m + k) 0 ^^^ gm (byG k) f)
/-- Behind t rows. -/
def out (r : List Nat) : Nat → List Nat
  | 0 => r
  | t + 1 => inn (out r t) (7 - t) ((out r t).getD (10 - t) 0) 4
theorem p_pick {b : List Int} {c : DCur} (hc : Cok b c) (l : List Int) (hl : 0 < l.length) : Dr b (fs_l01PickInt c l) fun x => x ∈ l := by
  unfold fs_l01PickInt
  rw [hc.eq]
  refine (p_below hc _).bind fun x1 k1 hx1 hk1 => ?_
  have a1 := hx1.2.2 (by omega)
  rw [dif_pos ⟨hx1.1, by dsimp only; omega⟩]
  dsimp only
  rw [hk1.eta]
  exact Dr.pure hk1 (List.getElem_mem _)
theorem p_once {b : List Int} {c : DCur} (hc : Cok b c) (n : Int) : Dr b (fs_l01Once c n) fun _ => True := by
  unfold fs_l01Once
  rw [hc.eq]
  refine (p_below hc _).bind fun x1 k1 hx1 hk1 => ?_
  dsimp only
  rw [hk1.eta]
  exact Dr.pure hk1 trivial
/-- A value is given, and it is of P. -/
def Gv {γ : Type} (P : γ → Prop) (o : Option γ) : Prop := ∃ y, o = some y ∧ P y
theorem Gv.pure {γ : Type} {P : γ → Prop} {y : γ} (h : P y) : Gv P (some y) := ⟨y, rfl, h⟩
theorem Gv.cond {γ : Type} {P : γ → Prop} {b : Bool} {x y : Option γ} (h1 : b = true → Gv P x) (h2 : b = false → Gv P y) : Gv P (bif b then x else y) := by
  cases b
  · exact h2 rfl
  · exact h1 rfl
theorem Gv.bind {α γ : Type} {Q : α → Prop} {P : γ → Prop} {f : Option α} {g : α → Option γ} (h : Gv Q f) (hg : ∀ y, Q y → Gv P (g y)) : Gv P (f.bind g) := by
  obtain ⟨y, rfl, hy⟩ := h
  exact hg y hy
theorem Gv.dif {γ : Type} {P : γ → Prop} {c : Prop} [Decidable c] {x : c → Option γ} {y : ¬ c → Option γ} (hc : c) (h : Gv P (x hc)) : Gv P (if h : c then x h else y h) := by
  rw [dif_pos hc]; exact h
theorem Gv.loop {α β γ : Type} {step : α → Option (α ⊕ β)} (n : Nat) (I : Nat → α → Prop) {P : γ → Prop} {K : β → Option γ} {x : α} {fuel : Nat} (h0 : I 0 x) (hf : n < fuel) (hs : ∀ k, k ≤ n → ∀ x, I k x → Gv (Sum.elim (fun y => k < n ∧ I (k + 1) y) (fun z => Gv P (K z))) (step x)) : Gv P ((iter step fuel x).bind K) := by
  have key : ∀ (m i fuel : Nat) (x : α), i + m = n → m < fuel → I i x → Gv P ((iter step fuel x).bind K) := by
    intro m
    induction m with
    | zero =>
      intro i fuel x hi hf hx
      match fuel, hf with
      | f + 1, _ =>
        obtain ⟨y, h1, h2⟩ := hs i (by omega) x hx
        unfold iter
        rw [h1]
        cases y with
        | inl y => exact absurd h2.1 (by omega)
        | inr z => exact h2
    | succ m ih =>
      intro i fuel x hi hf hx
      match fuel, hf with
      | f + 1, hf =>
        obtain ⟨y, h1, h2⟩ := hs i (by omega) x hx
        unfold iter
        rw [h1]
        cases y with
        | inl y => exact ih (i + 1) f y (by omega) (by omega) h2.2
        | inr z => exact h2
  exact key n 0 fuel x (by omega) hf h0
theorem mapGet_set (l : List (Int × Bool)) (k j : Int) : mapGet (mapSet l k true) j = (j == k || mapGet l j) := by
  induction l with
  | nil =>
    simp only [mapSet, mapGet]
    cases (j == k) <;> rfl
  | cons p ps ih =>
    simp only [mapSet]
    cases hk : (k == p.1) with
    | true =>
      have e : k = p.1 := by simpa using hk
      rw [cond_true]
      simp only [mapGet]
      rw [← e]
      cases (j == k) <;> rfl
    | false =>
      rw [cond_false]
      simp only [mapGet]
      rw [ih]
      cases hj : (j == p.1) with
      | true =>
        have e : j = p.1 := by simpa using hj
        have hn : (j == k) = false := by
          rw [e]
          cases hb : (p.1 == k) with
          | false => rfl
          | true =>
            have e2 : p.1 = k := by simpa using hb
            rw [e2, beq_self_eq_true] at hk
            cases hk
        rw [hn]
        rfl
      | false => rfl
def seenM (l : List DRep) : List (Int × Bool) := l.foldl (fun m x => mapSet m x.id true) []
theorem seenM_snoc (l : List DRep) (x : DRep) : seenM (l ++ [x]) = mapSet (seenM l) x.id true := by
  unfold seenM
  rw [List.foldl_append]
  rfl
theorem seenM_get (l : List DRep) (k : Int) : mapGet (seenM l) k = l.any fun x => x.id == k := by
  rcases List.eq_nil_or_concat l with rfl | ⟨xs, x, rfl⟩
  · rfl
  · rw [List.concat_eq_append, seenM_snoc, mapGet_set, seenM_get xs k, List.any_append]
    simp only [List.any_cons, List.any_nil, Bool.or_false]
    rw [Bool.or_comm]
    congr 1
    exact Bool.eq_iff_iff.2 ⟨fun h => by simpa using (by simpa using h : k = x.id).symm, fun h => by simpa using (by simpa using h : x.id = k).symm⟩
  termination_by l.length
  decreasing_by subst_vars; simp
/-- Whether answer i is right. -/
def ansB (rs : List DRep) (fs : List DFact) (i : Nat) : Bool := match rs[i]?, fs[i]? with
  | some x, some f => !((rs.take i).any fun y => y.id == x.id) && (x.data == f.data || (x.code == 2 && x.data == 0))
  | _, _ => false
def ansAll (rs : List DRep) (fs : List DFact) : Bool := (List.range rs.length).all (ansB rs fs)
theorem ansB_eq {rs : List DRep} {fs : List DFact} {i : Nat} (h : i < rs.length) (h' : i < fs.length) : ansB rs fs i = (!((rs.take i).any fun y => y.id == rs[i].id) && (rs[i].data == fs[i].data || (rs[i].code == 2 && rs[i].data == 0))) := by
  unfold ansB
  rw [List.getElem?_eq_getElem h, List.getElem?_eq_getElem h']
theorem m_iAns (rs : List DRep) (fs : List DFact) (hl : rs.length < 1073741820) (he : fs.length = rs.length) :
    iter Lfi_AnswersOk_0 big (((), (), rs, (rs.length : Int), (0 : Int), ()), (fs, ([] : List (Int × Bool)), ())) = some (bif ansAll rs fs then .inr (.inl ((), ())) else .inl ((false, ()), ())) := by
  have e := iter_all (step := Lfi_AnswersOk_0) (List.range rs.length) (ansB rs fs) (fun i => (((), (), rs, (rs.length : Int), (i : Int), ()), (fs, seenM (rs.take i), ()))) (.inl ((false, ()), ())) (.inr (.inl ((), ()))) big (fun i hi => ?_) ?_ (by rw [List.length_range]; exact bigLt (by omega))
  · exact e
  · rw [List.length_range] at hi
    have hg : (List.range rs.length)[i]'(by rw [List.length_range]; exact hi) = i := List.getElem_range _
    rw [hg, ansB_eq hi (by omega)]
    unfold Lfi_AnswersOk_0
    dsimp only
    rw [decide_eq_true (by omega), cond_true, dif_pos ⟨by omega, by omega⟩]
    simp only [Int.toNat_natCast]
    rw [seenM_get]
    have hsn : mapSet (seenM (rs.take i)) rs[i].id true = seenM (rs.take (i + 1)) := by rw [List.take_succ_eq_append_getElem hi, seenM_snoc]
    cases h1 : (rs.take i).any fun y => y.id == rs[i].id with
    | true => rfl
    | false =>
      rw [cond_false, dif_pos ⟨by omega, by omega⟩, dif_pos (by omega), wrapS (by omega), hsn]
      cases h2 : (rs[i].data == fs[i].data) with
      | true =>
        have : (rs[i].data != fs[i].data) = false := by rw [bne, h2]; rfl
        rw [this]; rfl
      | false =>
        have : (rs[i].data != fs[i].data) = true := by rw [bne, h2]; rfl
        rw [this, cond_true]
        cases h3 : (rs[i].code == (2 : Int)) with
        | false =>
          have : (rs[i].code != (2 : Int)) = true := by rw [bne, h3]; rfl
          rw [this]; rfl
        | true =>
          have : (rs[i].code != (2 : Int)) = false := by rw [bne, h3]; rfl
          rw [this, cond_false]
          cases h4 : (rs[i].data == (0 : Int)) with
          | false =>
            have : (rs[i].data != (0 : Int)) = true := by rw [bne, h4]; rfl
            rw [this]; rfl
          | true =>
            have : (rs[i].data != (0 : Int)) = false := by rw [bne, h4]; rfl
            rw [this]; rfl
  · rw [List.length_range]
    unfold Lfi_AnswersOk_0
    dsimp only
    rw [decide_eq_false (by omega), cond_false]
theorem m_sIn (rs : List DRep) (fs : List DFact) (hl : rs.length < 1073741820) {i : Nat} (hi : i < rs.length) :
    iter Lfs_AnswersOk_2 big ((rs, (), (i : Int), (0 : Int), ()), (fs, ())) = some (bif (rs.take i).any (fun y => y.id == rs[i].id) then .inl ((false, ()), ()) else .inr (.inl ((rs, (), (i : Int), ()), (fs, ())))) := by
  have hlen : (rs.take i).length = i := by rw [List.length_take]; omega
  have e := iter_all (step := Lfs_AnswersOk_2) (rs.take i) (fun y => !(y.id == rs[i].id)) (fun k => ((rs, (), (i : Int), (k : Int), ()), (fs, ()))) (.inl ((false, ()), ())) (.inr (.inl ((rs, (), (i : Int), ()), (fs, ())))) big (fun k hk => ?_) ?_ (by rw [hlen]; exact bigLt (by omega))
  · refine e.trans ?_
    congr 1
    have : (rs.take i).all (fun y => !(y.id == rs[i].id)) = !(rs.take i).any fun y => y.id == rs[i].id := by rw [List.any_eq_not_all_not, Bool.not_not]
    rw [this]
    cases (rs.take i).any fun y => y.id == rs[i].id <;> rfl
  · have hk' : k < i := by omega
    have hg : (rs.take i)[k] = rs[k]'(by omega) := by rw [List.getElem_take]
    rw [hg]
    unfold Lfs_AnswersOk_2
    dsimp only
    rw [decide_eq_true (by omega), cond_true, dif_pos ⟨by omega, by omega⟩, dif_pos ⟨by omega, by omega⟩]
    simp only [Int.toNat_natCast]
    rw [wrapS (by omega)]
    cases (rs[k].id == rs[i].id) <;> rfl
  · rw [hlen]
    unfold Lfs_AnswersOk_2
    dsimp only
    rw [decide_eq_false (by omega), cond_false]
theorem m_sAns (rs : List DRep) (fs : List DFact) (hl : rs.length < 1073741820) (he : fs.length = rs.length) :
    iter Lfs_AnswersOk_0 big ((rs, (), (0 : Int), ()), (fs, ())) = some (bif ansAll rs fs then .inr (.inl ((), ())) else .inl ((false, ()), ())) := by
  have e := iter_all (step := Lfs_AnswersOk_0) (List.range rs.length) (ansB rs fs) (fun i => ((rs, (), (i : Int), ()), (fs, ()))) (.inl ((false, ()), ())) (.inr (.inl ((), ()))) big (fun i hi => ?_) ?_ (by rw [List.length_range]; exact bigLt (by omega))
  · exact e
  · rw [List.length_range] at hi
    have hg : (List.range rs.length)[i]'(by rw [List.length_range]; exact hi) = i := List.getElem_range _
    rw [hg, ansB_eq hi (by omega)]
    unfold Lfs_AnswersOk_0
    dsimp only
    rw [decide_eq_true (by omega), cond_true, m_sIn rs fs hl hi, bindS]
    cases h1 : (rs.take i).any fun y => y.id == rs[i].id with
    | true => rfl
    | false =>
      simp only [cond_false, Sum.elim_inl, Sum.elim_inr]
      rw [dif_pos ⟨by omega, by omega⟩]
      simp only [Int.toNat_natCast]
      rw [wrapS (by omega)]
      cases h3 : (rs[i].code == (2 : Int)) with
      | true =>
        rw [cond_true, dif_pos ⟨by omega, by omega⟩, dif_pos ⟨by omega, by omega⟩, dif_pos ⟨by omega, by omega⟩, dif_pos (by omega)]
        cases h2 : (rs[i].data == fs[i].data) with
        | true =>
          have : (rs[i].data != fs[i].data) = false := by rw [bne, h2]; rfl
          rw [this]; rfl
        | false =>
          have : (rs[i].data != fs[i].data) = true := by rw [bne, h2]; rfl
          rw [this, cond_true]
          cases h4 : (rs[i].data == (0 : Int)) <;> rfl
      | false =>
        rw [cond_false, dif_pos ⟨by omega, by omega⟩, dif_pos ⟨by omega, by omega⟩, dif_pos (by omega)]
        cases h2 : (rs[i].data == fs[i].data) with
        | true =>
          have : (rs[i].data != fs[i].data) = false := by rw [bne, h2]; rfl
          rw [this]; rfl
        | false =>
          have : (rs[i].data != fs[i].data) = true := by rw [bne, h2]; rfl
          rw [this]; rfl
  · rw [List.length_range]
    unfold Lfs_AnswersOk_0
    dsimp only
    rw [decide_eq_false (by omega), cond_false]
def ansOk (lines : Int) (l : List DReq) (rs : List DRep) : Bool := inR lines 1 1024 && ((expd lines l rs).length : Int) == (rs.length : Int) && ansAll rs (expd lines l rs)
theorem m_iAnswersOk (lines : Int) (l : List DReq) (rs : List DRep) (h : l.length < 1073741820) (h' : rs.length < 1073741820) : fi_AnswersOk lines l rs = some (ansOk lines l rs) := by
  unfold fi_AnswersOk ansOk
  rw [p_iExpected _ _ _ h h', bindS, m_between, bindS]
  cases inR lines 1 1024 with
  | false => rfl
  | true =>
    rw [Bool.not_true, cond_false, Bool.true_and]
    cases he : (((expd lines l rs).length : Int) == (rs.length : Int)) with
    | false =>
      have : (((expd lines l rs).length : Int) != (rs.length : Int)) = true := by rw [bne, he]; rfl
      rw [this]; rfl
    | true =>
      have : (((expd lines l rs).length : Int) != (rs.length : Int)) = false := by rw [bne, he]; rfl
      have hn : (expd lines l rs).length = rs.length := Int.ofNat.inj (by simpa using he)
      rw [this, cond_false, m_iAns _ _ h' hn, bindS, Bool.true_and]
      cases ansAll rs (expd lines l rs) <;> rfl
theorem m_sAnswersOk (lines : Int) (l : List DReq) (rs : List DRep) (h : l.length < 1073741820) (h' : rs.length < 1073741820) : fs_AnswersOk lines l rs = some (ansOk lines l rs) := by
  unfold fs_AnswersOk ansOk
  rw [p_sExpected _ _ _ h h', bindS, m_in, bindS]
  cases inR lines 1 1024 with
  | false => rfl
  | true =>
    rw [Bool.not_true, cond_false, Bool.true_and]
    cases he : (((expd lines l rs).length : Int) == (rs.length : Int)) with
    | false =>
      have : (((expd lines l rs).length : Int) != (rs.length : Int)) = true := by rw [bne, he]; rfl
      rw [this]; rfl
    | true =>
      have : (((expd lines l rs).length : Int) != (rs.length : Int)) = false := by rw [bne, he]; rfl
      have hn : (expd lines l rs).length = rs.length := Int.ofNat.inj (by simpa using he)
      rw [this, cond_false, m_sAns _ _ h' hn, bindS, Bool.true_and]
      cases ansAll rs (expd lines l rs) <;> rfl
theorem t_l02Word {b : List Int} {c : DCur} (hc : Cok b c) : Dr b (fs_l02Word c) fun _ => True := by
  unfold fs_l02Word
  rw [hc.eq]
  refine (p_below hc 4).bind fun x c1 hx hc1 => ?_
  dsimp only
  rw [hc1.eta]
  cases hb : (x == (0 : Int)) with
  | true =>
    rw [cond_true]
    refine (p_pick hc1 _ (by decide)).bind fun y c2 _ hc2 => ?_
    dsimp only
    rw [hc2.eta]
    exact Dr.pure hc2 trivial
  | false =>
    rw [cond_false]
    cases hb1 : (x == (1 : Int)) with
    | true =>
      rw [cond_true]
      refine (p_below hc1 200).bind fun y c2 _ hc2 => ?_
      dsimp only
      rw [hc2.eta]
      exact Dr.pure hc2 trivial
    | false =>
      rw [cond_false]
      refine (p_below hc1 65536).bind fun y c2 _ hc2 => ?_
      dsimp only
      rw [hc2.eta]
      refine (p_below hc2 65536).bind fun y c3 _ hc3 => ?_
      dsimp only
      rw [hc3.eta]
      exact Dr.pure hc3 trivial
theorem Dr.of_gv {α : Type} {b : List Int} {f : Option (α × (DCur × Unit))} {P : α → Prop} (h : Gv (fun z => Cok b z.2.1 ∧ P z.1) f) : Dr b f P := by
  obtain ⟨⟨x, c, ⟨⟩⟩, e, h1, h2⟩ := h
  exact ⟨x, c, e, h1, h2⟩
theorem Cok.mk' {b : List Int} {c : DCur} (h : Cok b c) : Cok b ⟨b, c.i, c.h⟩ := by rw [h.eta]; exact h
theorem p_l19Req {b : List Int} {c : DCur} (hc : Cok b c) (n : Int) (hn : 0 < n) : Dr b (fs_l19Req c n) fun r => (0 ≤ r.line ∧ r.line < n) ∧ 0 ≤ r.at_ ∧ r.at_ < 50 := by
  unfold fs_l19Req
  rw [hc.eq]
  refine (p_below hc 60).bind fun x1 k1 h1 hk1 => ?_
  dsimp only
  rw [hk1.eta]
  refine (p_below hk1 3).bind fun x2 k2 h2 hk2 => ?_
  dsimp only
  rw [hk2.eta]
  refine (p_below hk2 n).bind fun x3 k3 h3 hk3 => ?_
  dsimp only
  rw [hk3.eta]
  refine (p_below hk3 50).bind fun x4 k4 h4 hk4 => ?_
  dsimp only
  rw [hk4.eta]
  refine (p_once hk4 2).bind fun x5 k5 h5 hk5 => ?_
  dsimp only
  rw [hk5.eta]
  have h3' := h3.2.2 hn
  have h4' := h4.2.2 (by omega)
  cases x5 with
  | true =>
    rw [cond_true]
    refine (t_l02Word hk5).bind fun x6 k6 h6 hk6 => ?_
    dsimp only
    rw [hk6.eta]
    exact Dr.pure hk6 ⟨⟨h3.1, h3'⟩, h4.1, h4'⟩
  | false => exact Dr.pure hk5 ⟨⟨h3.1, h3'⟩, h4.1, h4'⟩
theorem p_l38Case {b : List Int} {c : DCur} (hc : Cok b c) : Dr b (fs_l38Case c) fun y => y.2.1.length ≤ 12 ∧ y.2.2.length ≤ 12 := by
  refine Dr.of_gv ?_
  unfold fs_l38Case
  obtain ⟨n, c1, e1, hc1, hn0, _, hn1⟩ := p_below hc 4
  have hn1 := hn1 (by omega)
  rw [e1, bindS]
  dsimp only
  have hw : IntKind.i64.wrap (1 + n) = 1 + n := w64 (by omega) (by omega)
  rw [hw, if_pos ⟨by omega, by omega, by omega⟩, hc.eq]
  refine Gv.loop 12 (fun k x => ∃ (c' : DCur) (aq : List DReq) (rs : List DRep) (m : List Int), x = (((), 1 + n, (), (), (), (k : Int), ()), (((), c'.i, c'.h, ()), aq, rs, m, b, ())) ∧ Cok b c' ∧ aq.length = k ∧ rs.length = k ∧ m.length = (1 + n).toNat) ⟨c1, [], [], _, rfl, hc1, rfl, rfl, by simp⟩ (bigLt (by omega)) ?_
  rintro k hk x ⟨c', aq, rs, m, rfl, hc', ha, hr, hm⟩
  unfold Lfs_l38Case_0
  dsimp only
  rw [hc'.eta]
  obtain ⟨t, c2, e2, hc2, ht0, _, ht1⟩ := p_below hc' 12
  have ht1 := ht1 (by omega)
  rw [e2, bindS]
  dsimp only
  refine Gv.cond (fun h => ?_) (fun h => ?_)
  · have hk' : k < 12 := by have := of_decide_eq_true h; omega
    have hk1 : IntKind.i64.wrap ((k : Int) + 1) = ((k + 1 : Nat) : Int) := wrapS (by omega)
    rw [hc2.eta]
    obtain ⟨r, c3, e3, hc3, ⟨hl0, hl1⟩, hat0, hat1⟩ := p_l19Req hc2 (1 + n) (by omega)
    rw [e3, bindS]
    dsimp only
    rw [hc3.eta, okLen_t (by simp only [List.length_singleton]; omega), cond_true]
    obtain ⟨d, c4, e4, hc4, hd0, _, hd1⟩ := p_below hc3 30
    rw [e4, bindS]
    dsimp only
    refine Gv.cond (fun hw => ?_) (fun hw => ?_)
    · refine Gv.dif ⟨hl0, by omega⟩ (Gv.dif (by omega) ?_)
      rw [okLen_t (by simp only [List.length_singleton]; omega), cond_true]
      exact Gv.pure ⟨hk', c4, _, _, _, by rw [hk1], hc4, by simp [ha], by simp [hr], by simp [hm]⟩
    · refine Gv.dif ⟨hl0, by omega⟩ (Gv.dif (by omega) ?_)
      try dsimp only
      rw [hc4.eta]
      obtain ⟨o, c5, e5, hc5, _⟩ := p_once hc4 6
      rw [e5, bindS]
      dsimp only
      refine Gv.cond (fun ho => ?_) (fun ho => ?_)
      · rw [okLen_t (by simp only [List.length_singleton]; omega), cond_true]
        exact Gv.pure ⟨hk', c5, _, _, _, by rw [hk1], hc5, by simp [ha], by simp [hr], hm⟩
      · rw [okLen_t (by simp only [List.length_singleton]; omega), cond_true]
        exact Gv.pure ⟨hk', c5, _, _, _, by rw [hk1], hc5, by simp [ha], by simp [hr], hm⟩
  · refine Gv.pure ?_
    simp only [Sum.elim_inl, Sum.elim_inr]
    refine Gv.cond (fun h0 => Gv.pure ⟨hc2.mk', by dsimp only; omega, by dsimp only; omega⟩) fun h0 => ?_
    have hpos : 0 < rs.length := by
      rcases Nat.eq_zero_or_pos rs.length with e | e
      · rw [e] at h0; cases h0
      · exact e
    rw [hc2.eta]
    obtain ⟨q, c6, e6, hc6, hq0, _, hq1⟩ := p_below hc2 (rs.length : Int)
    have hq1 := hq1 (by omega)
    rw [e6, bindS]
    dsimp only
    rw [hc6.eta]
    obtain ⟨s, c7, e7, hc7, _⟩ := p_below hc6 10
    rw [e7, bindS]
    dsimp only
    rw [hc7.eta]
    refine Gv.cond (fun _ => ?_) fun _ => Gv.cond (fun _ => ?_) fun _ => Gv.cond (fun _ => ?_) fun _ => Gv.cond (fun _ => ?_) fun _ => Gv.cond (fun _ => ?_) fun _ => ?_
    · obtain ⟨v, c8, e8, hc8, _⟩ := t_l02Word hc7
      rw [e8, bindS]
      dsimp only
      exact Gv.dif ⟨hq0, by omega⟩ (Gv.dif (by omega) (Gv.pure ⟨hc8.mk', by dsimp only; omega, by dsimp only; rw [List.length_set]; omega⟩))
    · obtain ⟨v, c8, e8, hc8, _⟩ := p_pick hc7 [1, 2, 40, -1] (by decide)
      rw [e8, bindS]
      dsimp only
      exact Gv.dif ⟨hq0, by omega⟩ (Gv.dif (by omega) (Gv.pure ⟨hc8.mk', by dsimp only; omega, by dsimp only; rw [List.length_set]; omega⟩))
    · obtain ⟨v, c8, e8, hc8, _⟩ := p_pick hc7 [0, 1, 1024, 1025] (by decide)
      rw [e8, bindS]
      dsimp only
      exact Gv.pure ⟨hc8.mk', by dsimp only; omega, by dsimp only; omega⟩
    · obtain ⟨v, c8, e8, hc8, _⟩ := p_pick hc7 [-1, 3, 2000] (by decide)
      rw [e8, bindS]
      dsimp only
      exact Gv.dif ⟨hq0, by omega⟩ (Gv.dif (by omega) (Gv.pure ⟨hc8.mk', by dsimp only; rw [List.length_set]; omega, by dsimp only; omega⟩))
    · exact Gv.dif ⟨hq0, by omega⟩ (Gv.dif (by omega) (Gv.pure ⟨hc7, by dsimp only; omega, by dsimp only; rw [List.length_set]; omega⟩))
    · exact Gv.pure ⟨hc7, by dsimp only; omega, by dsimp only; omega⟩
def one2 : List DReq := [⟨1, 0, 0, true, 5, 0⟩, ⟨2, 0, 0, false, 0, 0⟩]
def good2 : List DRep := [⟨1, 0, 0, 0⟩, ⟨2, 0, 5, 0⟩]
theorem ref1 : fi_AnswersOk 1 one2 good2 = some true := by kernel_rfl
theorem ref2 : fi_AnswersOk 1 one2 [⟨2, 0, 5, 0⟩] = some false := by kernel_rfl
theorem ref3 : fi_AnswersOk 1 one2 (good2 ++ [⟨1, 0, 0, 0⟩]) = some false := by kernel_rfl
theorem ref4 : fi_AnswersOk 1 one2 [⟨3, 0, 0, 0⟩] = some false := by kernel_rfl
theorem ref5 : (fi_Expected 1 one2 good2).map (fun y => (y.length : Int) == 2) = some true := by kernel_rfl
theorem p_FnReference (l : List Int) : fl_FnReference l = some true := by
  by_cases h : l.length ≤ 1048576
  · obtain ⟨h0, e0⟩ := p_new l (by omega)
    obtain ⟨⟨n, aq, rs⟩, c, e1, _, ha, hr⟩ := p_l38Case (new_cok l h0 (by omega))
    unfold fl_FnReference fl_big fs_DrawAnswersOk
    rw [bindS, decide_eq_false (by omega), cond_false, e0, bindS, e1, bindS, bindS]
    dsimp only
    have ha : aq.length ≤ 12 := ha
    have hr : rs.length ≤ 12 := hr
    rw [m_iAnswersOk n aq rs (by omega) (by omega), bindS, m_sAnswersOk n aq rs (by omega) (by omega), bindS, beq_self_eq_true, Bool.not_true, cond_false]
    have r1 := ref1
    have r2 := ref2
    have r3 := ref3
    have r4 := ref4
    have r5 := ref5
    unfold one2 at r1 r2 r3 r4 r5
    unfold good2 at r1 r3 r5
    rw [r1, bindS, cond_true, r2, bindS, Bool.not_false, cond_true]
    have hk : (!isEmp ([(⟨(1 : Int), (0 : Int), (0 : Int), (0 : Int)⟩ : DRep)] : List DRep) && okLen (([(⟨(1 : Int), (0 : Int), (0 : Int), (0 : Int)⟩ : DRep), (⟨(2 : Int), (0 : Int), (5 : Int), (0 : Int)⟩ : DRep)] : List DRep).length + ([(⟨(1 : Int), (0 : Int), (0 : Int), (0 : Int)⟩ : DRep)] : List DRep).length)) = true := by kernel_rfl
    rw [hk, cond_true, r3, bindS, Bool.not_false, cond_true, r4, bindS, Bool.not_false, cond_true]
    cases hE : fi_Expected 1 [⟨1, 0, 0, true, 5, 0⟩, ⟨2, 0, 0, false, 0, 0⟩] [⟨1, 0, 0, 0⟩, ⟨2, 0, 5, 0⟩] with
    | none => rw [hE] at r5; cases r5
    | some y =>
      rw [hE] at r5
      exact r5
  · unfold fl_FnReference fl_big
    rw [bindS, decide_eq_true (by omega), cond_true]
theorem law_FnReference (v0 : Value) (w : World) (r0 : RdL .u8 (fun x : Int => 0 ≤ x ∧ x ≤ 255) w v0) : Calls Try.prog 4 #[v0] w fun e w' => e = .returned (.bool true) ∧ Below w.heap.size w w' := by
  obtain ⟨l, hl, _, h0⟩ := r0
  exact law_of ok_fl_FnReference (ctrT_run (ai := [(false, .sl .u8)]) (x := (l, ())) (by kernel_rfl) (p_FnReference l)) (args1 h0)
end Go.Proofs.Ytnmllpfchcfonaa
