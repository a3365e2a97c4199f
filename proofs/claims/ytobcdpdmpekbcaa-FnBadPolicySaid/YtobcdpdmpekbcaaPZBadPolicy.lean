/-
  Plain laws. Nothing here is a claim.
-/
import Derived.Test.YtobcdpdmpekbcaaVZ
import Derived.Test.YtobcdpdmpekbcaaOpenV
import Derived.Test.YtobcdpdmpekbcaaG1
namespace Go.Proofs.Ytobcdpdmpekbcaa
open Go.RowKit
set_option linter.unusedVariables false
set_option linter.unusedSimpArgs false
set_option maxRecDepth 100000

theorem w64 {n : Int} (h1 : -9223372036854775808 <= n) (h2 : n < 9223372036854775808) : IntKind.i64.wrap n = n := by
  rw [IntKind.wrap_i64]; omega
theorem iter_ind {α β : Type} {step : α -> Option (α ⊕ β)} (I : α -> Prop) (m : α -> Nat) (Q : β -> Prop)
    (h : ∀ x, I x -> (∃ y, step x = some (.inl y) /\ I y /\ m y < m x) \/ ∃ z, step x = some (.inr z) /\ Q z) :
    ∀ (n : Nat) (x : α), I x -> m x < n -> ∃ z, iter step n x = some z /\ Q z
  | 0, x, _, hm => by omega
  | n + 1, x, hx, hm => by
    unfold iter
    rcases h x hx with ⟨y, h1, h2, h3⟩ | ⟨z, h1, h2⟩
    · rw [h1]
      exact iter_ind I m Q h n y h2 (by omega)
    · rw [h1]
      exact ⟨z, rfl, h2⟩
theorem bindS {α β : Type} (x : α) (f : α -> Option β) : (some x).bind f = f x := rfl
/-- A loop that stops early where a test of an element fails. -/
theorem iter_all {α β T : Type} {step : α -> Option (α ⊕ β)} (l : List T) (q : T -> Bool) (S : Nat -> α) (zf z : β) (fuel : Nat) (hs : ∀ k (h : k < l.length), step (S k) = some (bif q l[k] then .inl (S (k + 1)) else .inr zf)) (hz : step (S l.length) = some (.inr z)) (hf : l.length < fuel) :
    iter step fuel (S 0) = some (bif l.all q then z else zf) := by
  have key : ∀ (n i fuel : Nat), i + n = l.length -> n < fuel -> iter step fuel (S i) = some (bif (l.drop i).all q then z else zf) := by
    intro n
    induction n with
    | zero =>
      intro i fuel hi hf
      match fuel, hf with
      | f + 1, _ =>
        have : i = l.length := by omega
        subst this
        unfold iter
        rw [hz]
        simp
    | succ n ih =>
      intro i fuel hi hf
      match fuel, hf with
      | f + 1, hf =>
        have hlt : i < l.length := by omega
        unfold iter
        rw [hs i hlt, List.drop_eq_getElem_cons hlt, List.all_cons]
        cases q l[i] with
        | true => simp only [cond_true, Bool.true_and]; exact ih (i + 1) f (by omega) (by omega)
        | false => rfl
  exact key l.length 0 fuel (by omega) hf
/-- A loop that goes on to the end. -/
theorem iter_to {α β : Type} {step : α -> Option (α ⊕ β)} (n : Nat) (S : Nat -> α) (z : β) (fuel : Nat) (hs : ∀ k, k < n -> step (S k) = some (.inl (S (k + 1)))) (hz : step (S n) = some (.inr z)) (hf : n < fuel) : iter step fuel (S 0) = some z := by
  have key : ∀ (m i fuel : Nat), i + m = n -> m < fuel -> iter step fuel (S i) = some z := by
    intro m
    induction m with
    | zero =>
      intro i fuel hi hf
      match fuel, hf with
      | f + 1, _ =>
        have : i = n := by omega
        subst this
        unfold iter
        rw [hz]
    | succ m ih =>
      intro i fuel hi hf
      match fuel, hf with
      | f + 1, hf =>
        unfold iter
        rw [hs i (by omega)]
        exact ih (i + 1) f (by omega) (by omega)
  exact key n 0 fuel (by omega) hf
theorem okLen_t {n : Nat} (h : n < 1073741824) : okLen n = true := decide_eq_true h
theorem wrapS {i : Nat} (h : i < 4611686018427387904) : IntKind.i64.wrap ((i : Int) + 1) = ((i + 1 : Nat) : Int) := by
  rw [w64 (by omega) (by omega)]; simp
theorem bigLt {n : Nat} (h : n < 1073741824) : n < big := by unfold big; omega
def inR (x a b : Int) : Bool := decide (a <= x) && decide (x <= b)
theorem inR_iff {x a b : Int} : inR x a b = true ↔ a <= x /\ x <= b := by simp [inR]
theorem m_between (x a b : Int) : fi_between x a b = some (inR x a b) := by
  unfold fi_between inR
  by_cases h : a <= x <;> simp [h]
theorem m_in (x a b : Int) : fs_l01In x a b = some (inR x a b) := m_between x a b
theorem wrap_succ {i : Nat} (h : i < 4611686018427387904) : IntKind.i64.wrap ((i : Int) + 1) = ((i + 1 : Nat) : Int) := by
  rw [w64 (by omega) (by omega)]; simp
theorem and255 (y : Int) : 0 <= bits .and .i64 y 255 /\ bits .and .i64 y 255 <= 255 := by
  have e : bits .and .i64 y 255 = IntKind.i64.wrap ((BitVec.ofInt 64 y &&& BitVec.ofInt 64 255).toNat : Int) := rfl
  have h : (BitVec.ofInt 64 y &&& BitVec.ofInt 64 255).toNat <= 255 := by
    rw [BitVec.toNat_and]
    exact Nat.le_trans Nat.and_le_right (by decide)
  rw [e, IntKind.wrap_i64]
  omega
/-- A cursor over some bytes. -/
structure Cok (b : List Int) (c : DCur) : Prop where
  eq : c.b = b
  lo : 0 <= c.i
  hi : c.i <= b.length
  len : b.length <= 1073741823
theorem Cok.eta {b : List Int} {c : DCur} (h : Cok b c) : (⟨b, c.i, c.h⟩ : DCur) = c := by
  obtain ⟨b', i, h'⟩ := c
  have := h.eq
  simp only at this
  subst this
  rfl
/-- A draw gives a value of P, and the cursor goes on. -/
def Dr {α : Type} (b : List Int) (f : Option (α × (DCur × Unit))) (P : α -> Prop) : Prop := ∃ x c, f = some (x, (c, ())) /\ Cok b c /\ P x
theorem Dr.bind {α β : Type} {b : List Int} {f : Option (α × (DCur × Unit))} {g : α × (DCur × Unit) -> Option (β × (DCur × Unit))} {P : α -> Prop} {Q : β -> Prop} (h : Dr b f P) (hg : ∀ x c, P x -> Cok b c -> Dr b (g (x, (c, ()))) Q) : Dr b (f.bind g) Q := by
  obtain ⟨x, c, h1, h2, h3⟩ := h
  rw [h1]
  exact hg x c h3 h2
theorem Dr.pure {α : Type} {b : List Int} {x : α} {c : DCur} {P : α -> Prop} (hc : Cok b c) (hp : P x) : Dr b (some (x, (c, ()))) P := ⟨x, c, rfl, hc, hp⟩
theorem p_new (l : List Int) (h : l.length <= 1073741823) : ∃ y, fs_l01New l = some y := by
  unfold fs_l01New
  obtain ⟨z, h1, h2⟩ := iter_ind (step := Lfs_l01New_0)
    (fun x => ∃ (i : Nat) (y : Int), x = (((), y, (i : Int), ()), (l, ())) /\ i <= l.length)
    (fun x => l.length - x.1.2.2.1.toNat) (fun z => ∃ y, (Sum.elim (fun z3 : ((Unit × Int × Unit) × ((List Int) × Unit)) => some z3.1.2.1) (fun z => nomatch z)) z = some y) (by
      rintro x ⟨i, y, rfl, hi⟩
      unfold Lfs_l01New_0
      dsimp only
      by_cases h' : i < l.length
      · have c1 : decide ((i : Int) < (l.length : Int)) = true := by simpa using h'
        have c2 : 0 <= (i : Int) /\ (i : Int).toNat < l.length := ⟨by omega, by simpa using h'⟩
        rw [c1, cond_true]
        cases h4 : decide ((i : Int) < 4000) with
        | true =>
          rw [cond_true, dif_pos c2]
          left
          refine ⟨_, rfl, ⟨i + 1, _, by rw [wrap_succ (by omega)], by omega⟩, ?_⟩
          dsimp only
          rw [wrap_succ (by omega)]
          omega
        | false =>
          rw [cond_false]
          right
          exact ⟨_, rfl, _, rfl⟩
      · have c1 : decide ((i : Int) < (l.length : Int)) = false := by simpa using h'
        rw [c1, cond_false]
        right
        exact ⟨_, rfl, _, rfl⟩)
    big (((), (IntKind.i64.wrap ((97301 : Int) + (l.length : Int))), ((0 : Nat) : Int), ()), (l, ())) ⟨0, _, rfl, by omega⟩ (by dsimp only; unfold big; omega)
  have h1 : iter Lfs_l01New_0 big (((), (IntKind.i64.wrap ((97301 : Int) + (l.length : Int))), (0 : Int), ()), (l, ())) = some z := h1
  rw [h1]
  exact h2
theorem new_cok (l : List Int) (y : Int) (h : l.length <= 1073741823) : Cok l ⟨l, 0, y⟩ := ⟨rfl, Int.le_refl _, by simp, h⟩
theorem p_byte {b : List Int} {c : DCur} (hc : Cok b c) : Dr b (fs_l01Byte c) fun x => 0 <= x /\ x <= 255 := by
  have hb := hc.eq
  have h1 := hc.lo
  have h2 := hc.hi
  have h3 := hc.len
  unfold fs_l01Byte
  by_cases h : c.i < (c.b.length : Int)
  · have c1 : decide (c.i < (c.b.length : Int)) = true := by simpa using h
    rw [c1, cond_true, dif_pos ⟨h1, by omega⟩]
    refine Dr.pure ⟨hb, ?_, ?_, h3⟩ (and255 _)
    · show 0 <= IntKind.i64.wrap (c.i + 1)
      rw [hb] at h
      rw [w64 (by omega) (by omega)]; omega
    · show IntKind.i64.wrap (c.i + 1) <= _
      rw [hb] at h
      rw [w64 (by omega) (by omega)]; omega
  · have c1 : decide (c.i < (c.b.length : Int)) = false := by simpa using h
    rw [c1, cond_false]
    exact Dr.pure ⟨hb, h1, h2, h3⟩ (and255 _)
theorem tmod_bd {x n : Int} (h : 0 <= x) (hn : 0 < n) : 0 <= x.tmod n /\ x.tmod n < n := by
  rw [Int.tmod_eq_emod_of_nonneg h]
  exact ⟨Int.emod_nonneg _ (by omega), Int.emod_lt_of_pos _ hn⟩
theorem p_below {b : List Int} {c : DCur} (hc : Cok b c) (n : Int) : Dr b (fs_l01Below c n) fun x => 0 <= x /\ (n <= 0 -> x = 0) /\ (0 < n -> x < n) := by
  unfold fs_l01Below
  by_cases h0 : n <= 0
  · have c1 : decide (n <= 0) = true := by simpa using h0
    rw [c1, cond_true]
    exact Dr.pure hc ⟨Int.le_refl _, fun _ => rfl, fun h => by omega⟩
  · have c1 : decide (n <= 0) = false := by simpa using h0
    have hn : ¬ n = 0 := by omega
    rw [c1, cond_false]
    by_cases h1 : n <= 256
    · have c2 : decide (n <= 256) = true := by simpa using h1
      rw [c2, cond_true]
      refine (p_byte hc).bind fun x c' hx hc' => ?_
      rw [if_neg hn]
      dsimp only
      rw [hc.eq, hc'.eta]
      have := tmod_bd hx.1 (show 0 < n by omega)
      exact Dr.pure hc' ⟨this.1, fun h => by omega, fun _ => this.2⟩
    · have c2 : decide (n <= 256) = false := by simpa using h1
      rw [c2, cond_false, hc.eq]
      refine (p_byte hc).bind fun x1 k1 hx1 hk1 => ?_
      dsimp only
      rw [hk1.eta]
      refine (p_byte hk1).bind fun x2 k2 hx2 hk2 => ?_
      dsimp only
      rw [hk2.eta]
      refine (p_byte hk2).bind fun x3 k3 hx3 hk3 => ?_
      dsimp only
      rw [hk3.eta]
      refine (p_byte hk3).bind fun x4 k4 hx4 hk4 => ?_
      rw [if_neg hn]
      dsimp only
      rw [hk4.eta]
      rw [w64 (n := x1 * 16777216) (by omega) (by omega), w64 (n := x2 * 65536) (by omega) (by omega), w64 (n := x1 * 16777216 + x2 * 65536) (by omega) (by omega), w64 (n := x3 * 256) (by omega) (by omega), w64 (n := x1 * 16777216 + x2 * 65536 + x3 * 256) (by omega) (by omega), w64 (n := x1 * 16777216 + x2 * 65536 + x3 * 256 + x4) (by omega) (by omega)]
      have := tmod_bd (x := x1 * 16777216 + x2 * 65536 + x3 * 256 + x4) (by omega) (show 0 < n by omega)
      exact Dr.pure hk4 ⟨this.1, fun h => by omega, fun _ => this.2⟩
theorem p_pick {b : List Int} {c : DCur} (hc : Cok b c) (l : List Int) (hl : 0 < l.length) : Dr b (fs_l01PickInt c l) fun x => x ∈ l := by
  unfold fs_l01PickInt
  rw [hc.eq]
  refine (p_below hc _).bind fun x1 k1 hx1 hk1 => ?_
  have a1 := hx1.2.2 (by omega)
  rw [dif_pos ⟨hx1.1, by dsimp only; omega⟩]
  dsimp only
  rw [hk1.eta]
  exact Dr.pure hk1 (List.getElem_mem _)
def shareB (s : DShare) : Bool := inR s.weight 1 9 && inR s.credit 0 s.weight
def sharesOk (l : List DShare) : Bool := l.all shareB && inR (l.length : Int) 1 4
theorem m_SharesOk (l : List DShare) (hl : l.length < 1073741824) : fi_SharesOk l = some (sharesOk l) := by
  unfold fi_SharesOk sharesOk
  have e := iter_all (step := Lfi_SharesOk_0) l shareB (fun i => ((l, l, (l.length : Int), (i : Int), ()), ())) (.inl ((false, ()), ())) (.inr (.inl ((l, ()), ()))) big (fun k h => by
    unfold Lfi_SharesOk_0
    simp (disch := omega) [h, wrapS, m_between, shareB]
    cases inR l[k].weight 1 9 <;> cases inR l[k].credit 0 l[k].weight <;> rfl) (by unfold Lfi_SharesOk_0; simp) (bigLt hl)
  rw [Int.natCast_zero] at e
  rw [e]
  cases l.all shareB <;> simp [m_between]
theorem m_sSharesOk (l : List DShare) (hl : l.length < 1073741824) : fs_SharesOk l = some (sharesOk l) := by
  unfold fs_SharesOk sharesOk
  have e := iter_all (step := Lfs_SharesOk_0) l shareB (fun i => ((l, (i : Int), ()), ())) (.inl ((false, ()), ())) (.inr (.inl ((l, ()), ()))) big (fun k h => by
    unfold Lfs_SharesOk_0
    simp (disch := omega) [h, wrapS, m_in, shareB]
    cases inR l[k].weight 1 9 <;> cases inR l[k].credit 0 l[k].weight <;> rfl) (by unfold Lfs_SharesOk_0; simp) (bigLt hl)
  rw [Int.natCast_zero] at e
  rw [e]
  cases l.all shareB <;> simp [m_in]
def shareOf (w : Int) : DShare := ⟨w, w⟩
def sharesNew (l : List Int) : List DShare × Bool := bif sharesOk (l.map shareOf) then (l.map shareOf, true) else ([], false)
theorem take_map_succ {l : List Int} {k : Nat} (h : k < l.length) : (l.take (k + 1)).map shareOf = (l.take k).map shareOf ++ [⟨l[k], l[k]⟩] := by
  rw [List.take_succ_eq_append_getElem h, List.map_append]
  rfl
theorem m_SharesNew (l : List Int) (hl : l.length < 1073741823) : fi_SharesNew l = some (sharesNew l) := by
  unfold fi_SharesNew sharesNew
  have e := iter_to (step := Lfi_SharesNew_0) l.length (fun i => (((), l, (l.length : Int), (i : Int), ()), ((l.take i).map shareOf, ()))) (.inl (((), ()), (l.map shareOf, ()))) big (fun k h => by
    unfold Lfi_SharesNew_0
    have ho : okLen (((l.take k).map shareOf).length + 1) = true := okLen_t (by simp; omega)
    dsimp only
    rw [decide_eq_true (by omega), cond_true, dif_pos ⟨by omega, by omega⟩]
    simp only [List.length_cons, List.length_nil, Nat.zero_add, Int.toNat_natCast]
    rw [ho, cond_true, wrapS (by omega), take_map_succ h]) (by
    unfold Lfi_SharesNew_0
    dsimp only
    rw [decide_eq_false (by omega), cond_false, List.take_length]) (bigLt (by omega))
  rw [Int.natCast_zero, List.take_zero, List.map_nil] at e
  refine (congrArg (fun o => Option.bind o _) e).trans ?_
  rw [bindS]
  simp only [Sum.elim_inl]
  rw [m_SharesOk _ (by simp; omega), bindS]
  cases sharesOk (l.map shareOf) <;> rfl
theorem m_sSharesNew (l : List Int) (hl : l.length < 1073741823) : fs_SharesNew l = some (sharesNew l) := by
  unfold fs_SharesNew sharesNew
  have e := iter_to (step := Lfs_SharesNew_0) (min l.length 5) (fun i => ((l, (), (i : Int), ()), ((l.take i).map shareOf, ()))) (.inl (((), ()), ((l.take 5).map shareOf, ()))) big (fun k h => by
    have hk : k < l.length := by omega
    unfold Lfs_SharesNew_0
    have ho : okLen (((l.take k).map shareOf).length + 1) = true := okLen_t (by simp; omega)
    dsimp only
    rw [decide_eq_true (by omega), cond_true, decide_eq_true (by omega), cond_true, dif_pos ⟨by omega, by omega⟩, dif_pos ⟨by omega, by omega⟩]
    simp only [List.length_cons, List.length_nil, Nat.zero_add, Int.toNat_natCast]
    rw [ho, cond_true, wrapS (by omega), take_map_succ hk]) (by
    unfold Lfs_SharesNew_0
    dsimp only
    by_cases c : l.length <= 5
    · rw [Nat.min_eq_left c, List.take_length, List.take_of_length_le c]
      by_cases c2 : l.length = 5
      · rw [decide_eq_false (by omega), cond_false]
      · rw [decide_eq_false (by omega), cond_false]
    · rw [Nat.min_eq_right (by omega), decide_eq_true (by omega), cond_true, decide_eq_false (by omega), cond_false]) (bigLt (by omega))
  rw [Int.natCast_zero, List.take_zero, List.map_nil] at e
  refine (congrArg (fun o => Option.bind o _) e).trans ?_
  rw [bindS]
  simp only [Sum.elim_inl]
  rw [m_sSharesOk _ (by simp; omega), bindS]
  by_cases c : l.length <= 5
  · rw [List.take_of_length_le c]
    cases sharesOk (l.map shareOf) <;> rfl
  · have h1 : sharesOk (l.map shareOf) = false := by
      unfold sharesOk
      have : inR ((l.map shareOf).length : Int) 1 4 = false := by
        rw [Bool.eq_false_iff]
        intro h
        have := (inR_iff.1 h).2
        rw [List.length_map] at this
        omega
      rw [this, Bool.and_false]
    have h2 : sharesOk ((l.take 5).map shareOf) = false := by
      unfold sharesOk
      have : inR (((l.take 5).map shareOf).length : Int) 1 4 = false := by
        rw [Bool.eq_false_iff]
        intro h
        have := (inR_iff.1 h).2
        rw [List.length_map, List.length_take] at this
        omega
      rw [this, Bool.and_false]
    rw [h1, h2]
    rfl
theorem sharesNew_snd (l : List Int) : (sharesNew l).2 = sharesOk (l.map shareOf) := by
  unfold sharesNew
  cases sharesOk (l.map shareOf) <;> rfl
def drainOk (d : DDrain) : Bool := decide (d.low >= 0) && (decide (d.low < d.high) && decide (d.high <= 12))
theorem m_DrainOk (d : DDrain) : fi_DrainOk d = some (drainOk d) := by
  unfold fi_DrainOk drainOk
  cases decide (d.low >= 0) <;> cases decide (d.low < d.high) <;> rfl
theorem m_sDrainOk (d : DDrain) : fs_DrainOk d = some (drainOk d) := by
  unfold fs_DrainOk drainOk
  cases decide (d.low >= 0) <;> cases decide (d.low < d.high) <;> cases decide (d.high <= 12) <;> rfl
def ruleOk (r : DPowerRule) : Bool := inR r.down 1 10000 && (decide (r.sleep > r.down) && decide (r.sleep <= 20000))
theorem m_PowerRuleOk (r : DPowerRule) : fi_PowerRuleOk r = some (ruleOk r) := by
  unfold fi_PowerRuleOk ruleOk
  rw [m_between, bindS]
  cases inR r.down 1 10000 <;> cases decide (r.sleep > r.down) <;> rfl
theorem m_sPowerRuleOk (r : DPowerRule) : fs_PowerRuleOk r = some (ruleOk r) := by
  unfold fs_PowerRuleOk ruleOk
  rw [m_in, bindS]
  cases inR r.down 1 10000 <;> cases decide (r.sleep > r.down) <;> rfl
def polOk (p : DPolicy) : Bool := inR p.page 0 1 && (inR p.cap 0 100000 && (inR p.limit 3 1000 && (drainOk ⟨false, p.low, p.high⟩ && ((p.weights.length : Int) == 4 && (sharesOk (p.weights.map shareOf) && ruleOk p.rule)))))
theorem m_sPolicyOk (p : DPolicy) (hl : p.weights.length < 1073741823) : fs_PolicyOk p = some (polOk p) := by
  unfold fs_PolicyOk polOk
  simp only [m_sSharesNew _ hl, bindS, m_in, m_sDrainOk, m_sPowerRuleOk, sharesNew_snd]
  cases inR p.page 0 1 <;> cases inR p.cap 0 100000 <;> cases inR p.limit 3 1000 <;> cases drainOk ⟨false, p.low, p.high⟩ <;> cases sharesOk (p.weights.map shareOf) <;> cases ((p.weights.length : Int) == 4) <;> rfl
theorem inR01 (x : Int) : inR x 0 1 = (x == 0 || x == 1) := by
  rw [Bool.eq_iff_iff]
  simp [inR]
  omega
theorem m_PolicyOk (p : DPolicy) (hl : p.weights.length < 1073741823) : fi_PolicyOk p = some (polOk p) := by
  unfold fi_PolicyOk polOk
  simp only [m_SharesNew _ hl, bindS, m_between, m_DrainOk, m_PowerRuleOk, sharesNew_snd, inR01]
  cases (p.page == 0) <;> cases (p.page == 1) <;> cases inR p.cap 0 100000 <;> cases inR p.limit 3 1000 <;> cases drainOk ⟨false, p.low, p.high⟩ <;> cases ((p.weights.length : Int) == 4) <;> cases sharesOk (p.weights.map shareOf) <;> rfl
def r9 (x : Int) : Prop := 0 <= x /\ x <= 1000000000
theorem r9.i {x : Int} (h : r9 x) : in64 x := by
  obtain ⟨h1, h2⟩ := h
  exact ⟨by omega, by omega⟩
def PolD (p : DPolicy) : Prop := r9 p.page /\ r9 p.cap /\ r9 p.limit /\ r9 p.low /\ r9 p.high /\ (p.weights.length = 4 /\ ∀ x ∈ p.weights, r9 x) /\ r9 p.rule.down /\ r9 p.rule.sleep
theorem rg_l34Policy {b : List Int} {c : DCur} (hc : Cok b c) : Dr b (fs_l34Policy c) PolD := by
  unfold fs_l34Policy
  rw [hc.eq]
  show Dr b (Option.bind (some _) _) _
  rw [bindS]
  refine (p_below hc 2).bind fun x1 k1 h1 hk1 => ?_
  dsimp only
  rw [hk1.eta]
  refine (p_pick hk1 _ (by decide)).bind fun x2 k2 h2 hk2 => ?_
  dsimp only
  rw [hk2.eta]
  refine (p_below hk2 6).bind fun x3 k3 h3 hk3 => ?_
  dsimp only
  rw [hk3.eta]
  refine (p_below hk3 3).bind fun x4 k4 h4 hk4 => ?_
  dsimp only
  rw [hk4.eta]
  refine (p_below hk4 4).bind fun x5 k5 h5 hk5 => ?_
  dsimp only
  rw [hk5.eta]
  refine (p_below hk5 4).bind fun x6 k6 h6 hk6 => ?_
  dsimp only
  rw [hk6.eta]
  refine (p_below hk6 4).bind fun x7 k7 h7 hk7 => ?_
  have a1 := h1.2.2 (by omega)
  have a3 := h3.2.2 (by omega)
  have a4 := h4.2.2 (by omega)
  have a5 := h5.2.2 (by omega)
  have a6 := h6.2.2 (by omega)
  have a7 := h7.2.2 (by omega)
  have b3 := h3.1
  have b4 := h4.1
  have b5 := h5.1
  have b6 := h6.1
  have b7 := h7.1
  have hl : x6.toNat < ([1, 1, 1, 1] : List Int).length := by simp only [List.length_cons, List.length_nil]; omega
  dsimp only
  rw [dif_pos ⟨b6, hl⟩, dif_pos hl, hk7.eta]
  refine (p_below hk7 20).bind fun x8 k8 h8 hk8 => ?_
  dsimp only
  rw [hk8.eta]
  refine (p_below hk8 60).bind fun x9 k9 h9 hk9 => ?_
  dsimp only
  rw [hk9.eta]
  have a8 := h8.2.2 (by omega)
  have a9 := h9.2.2 (by omega)
  have b8 := h8.1
  have b9 := h9.1
  rw [w64 (n := 3 + x3) (by omega) (by omega), w64 (n := x4 + 1) (by omega) (by omega), w64 (n := x4 + 1 + x5) (by omega) (by omega), w64 (n := 1 + x7) (by omega) (by omega), w64 (n := 5 + x8) (by omega) (by omega), w64 (n := 60 + x9) (by omega) (by omega)]
  simp only [List.mem_cons, List.not_mem_nil, or_false] at h2
  refine Dr.pure hk9 ⟨⟨h1.1, by show x1 <= _; omega⟩, ⟨by show 0 <= x2; omega, by show x2 <= _; omega⟩, ⟨by show 0 <= 3 + x3; omega, by show 3 + x3 <= _; omega⟩, ⟨h4.1, by show x4 <= _; omega⟩, ⟨by show 0 <= x4 + 1 + x5; omega, by show x4 + 1 + x5 <= _; omega⟩, ⟨by simp, fun y hy => ?_⟩, ⟨by show 0 <= 5 + x8; omega, by show 5 + x8 <= _; omega⟩, ⟨by show 0 <= 60 + x9; omega, by show 60 + x9 <= _; omega⟩⟩
  rcases List.mem_or_eq_of_mem_set hy with h | h
  · simp only [List.mem_cons, List.not_mem_nil, or_false, or_self] at h
    exact ⟨by omega, by omega⟩
  · exact ⟨by omega, by omega⟩
theorem lp_sameInts (l : List Int) (h : l.length <= 1073741823) : fl_sameInts l l = some true := by
  unfold fl_sameInts
  have e := iter_to (step := Lfl_sameInts_0) l.length (fun i => ((l, l, (i : Int), ()), ())) (.inr (.inl ((), ()))) big (fun k h => by
    unfold Lfl_sameInts_0
    dsimp only
    rw [decide_eq_true (by omega), cond_true, dif_pos ⟨by omega, by omega⟩, dif_pos ⟨by omega, by omega⟩, show (l[(k : Int).toNat]'(by omega) != l[(k : Int).toNat]'(by omega)) = false by simp, cond_false, wrapS (by omega)]) (by
    unfold Lfl_sameInts_0
    dsimp only
    rw [decide_eq_false (by omega), cond_false]) (bigLt (by omega))
  rw [Int.natCast_zero] at e
  rw [show ((l.length : Int) != (l.length : Int)) = false by simp, cond_false, e]
  rfl
def polDef : DPolicy := ⟨(0 : Int), (60 : Int), (8 : Int), (2 : Int), (6 : Int), ([(1 : Int), (1 : Int), (1 : Int), (1 : Int)] : List Int), ⟨(20 : Int), (400 : Int)⟩⟩
theorem polDef_ok : polOk polDef = true := by kernel_rfl
theorem cpP (p : DPolicy) (h : p.weights.length <= 1048576) : fi_copyPolicy p = some p := by
  unfold fi_copyPolicy
  rw [okLen_t (by simp; omega), cond_true]
  rfl
theorem cpPs (p : DPolicy) (h : p.weights.length <= 1048576) : fs_l34Copy p = some p := by
  unfold fs_l34Copy
  rw [okLen_t (by simp; omega), cond_true]
  rfl
theorem bx_def : fs_BoxNew polDef = some (⟨polDef, polDef, false⟩, true) := by
  have hd : polDef.weights.length <= 1048576 := by decide
  unfold fs_BoxNew
  rw [m_sPolicyOk _ (by omega), bindS, polDef_ok, Bool.not_true, cond_false, cpPs _ hd, bindS, bindS]
theorem ask_def (p : DPolicy) (h : p.weights.length <= 1048576) : ∃ y, fi_BoxAsk ⟨polDef, polDef, false⟩ p = some (⟨polDef, y, polOk p⟩, polOk p) := by
  have hd : polDef.weights.length <= 1048576 := by decide
  unfold fi_BoxAsk fi_copyBox
  rw [cpP _ hd, bindS, bindS, bindS, m_PolicyOk p (by omega), bindS, cpP _ h]
  cases polOk p with
  | false => exact ⟨_, rfl⟩
  | true => exact ⟨_, rfl⟩
theorem new_any (p : DPolicy) (h : p.weights.length <= 1048576) : ∃ y, fi_BoxNew p = some (y, polOk p) := by
  unfold fi_BoxNew
  rw [m_PolicyOk p (by omega), bindS, cpP _ h]
  cases polOk p with
  | false => exact ⟨_, rfl⟩
  | true => exact ⟨_, rfl⟩
theorem same_def : fl_samePolicy polDef polDef = some true := by
  unfold fl_samePolicy
  simp only [beq_self_eq_true, Bool.and_self, cond_true, lp_sameInts _ (show polDef.weights.length <= 1073741823 by decide), bindS]
theorem bad_tail (p : DPolicy) (h : p.weights.length <= 1048576) : ((fs_DefaultPolicy).bind fun y104 => (fs_BoxNew y104).bind fun y105 => (fi_BoxAsk y105.1 p).bind fun y106 => (fi_BoxNew p).bind fun y107 => (fs_PolicyOk p).bind fun y108 => bif (!(y106.2 == y108)) then some false else bif (!(y107.2 == y106.2)) then some false else (fi_PolicyOk p).bind fun y109 => bif (!(y109 == y106.2)) then some false else (fs_DefaultPolicy).bind fun y110 => (fl_samePolicy y106.1.active y110).bind fun y111 => bif y111 then bif (y106.1.waits == y106.2) then (fi_DefaultPolicy).bind fun y112 => (fi_PolicyOk y112).bind fun y113 => bif y113 then (fi_DefaultPolicy).bind fun y114 => (fs_DefaultPolicy).bind fun y115 => (fl_samePolicy y114 y115).bind fun y116 => some y116 else some false else some false else some false) = some true := by
  obtain ⟨a, ea⟩ := ask_def p h
  obtain ⟨b, eb⟩ := new_any p h
  have ed : fs_DefaultPolicy = some polDef := rfl
  have ed2 : fi_DefaultPolicy = some polDef := rfl
  have ek : fi_PolicyOk polDef = some true := by rw [m_PolicyOk _ (by decide), polDef_ok]
  rw [ed, ed2, bindS, bx_def, bindS, ea, bindS, eb, bindS, m_sPolicyOk p (by omega), bindS, m_PolicyOk p (by omega), bindS]
  simp only [bindS, beq_self_eq_true, Bool.not_true, cond_false, same_def, cond_true, ek]
theorem cok_again {b : List Int} {c : DCur} (h : Cok b c) : Cok b ⟨b, c.i, c.h⟩ := by rw [Cok.eta h]; exact h
theorem p_FnBadPolicy (l : List Int) (h : l.length <= maxLen) : fl_FnBadPolicy l = some true := by
  unfold fl_FnBadPolicy fl_big
  rw [bindS]
  by_cases hb : (l.length : Int) > 1048576
  · rw [decide_eq_true hb, cond_true]
  · rw [decide_eq_false hb, cond_false]
    obtain ⟨h0, e0⟩ := p_new l (by omega)
    rw [e0, bindS]
    obtain ⟨p, c, e1, hc, hp⟩ := rg_l34Policy (new_cok l h0 (by omega))
    have hw : p.weights.length = 4 := hp.2.2.2.2.2.1.1
    rw [e1, bindS]
    dsimp only
    obtain ⟨k, c2, e2, hc2, _⟩ := p_below (cok_again hc) 14
    rw [e2, bindS]
    dsimp only
    have hg := cok_again hc2
    obtain ⟨v0, d0, f0, _⟩ := p_pick hg [(-1 : Int), (2 : Int)] (by simp)
    obtain ⟨v1, d1, f1, _⟩ := p_pick hg [(-1 : Int), (100000 : Int), (100001 : Int)] (by simp)
    obtain ⟨v2, d2, f2, _⟩ := p_pick hg [(2 : Int), (1000 : Int), (1001 : Int)] (by simp)
    obtain ⟨v3, d3, f3, _⟩ := p_pick hg [p.low, (12 : Int), (13 : Int)] (by simp)
    obtain ⟨v5, d5, f5, _⟩ := p_pick hg [(0 : Int), (9 : Int), (10 : Int)] (by simp)
    cases k == (0 : Int) with
    | true => rw [cond_true, f0, bindS]; exact bad_tail _ (by dsimp only; omega)
    | false =>
    rw [cond_false]
    cases k == (1 : Int) with
    | true => rw [cond_true, f1, bindS]; exact bad_tail _ (by dsimp only; omega)
    | false =>
    rw [cond_false]
    cases k == (2 : Int) with
    | true => rw [cond_true, f2, bindS]; exact bad_tail _ (by dsimp only; omega)
    | false =>
    rw [cond_false]
    cases k == (3 : Int) with
    | true => rw [cond_true, f3, bindS]; exact bad_tail _ (by dsimp only; omega)
    | false =>
    rw [cond_false]
    cases k == (4 : Int) with
    | true =>
      rw [cond_true, if_pos ⟨by omega, by omega, by omega⟩]
      exact bad_tail _ (by simp only [List.length_drop, List.length_take]; omega)
    | false =>
    rw [cond_false]
    cases k == (5 : Int) with
    | true =>
      rw [cond_true, f5, bindS, dif_pos ⟨by omega, by simp; omega⟩, dif_pos (by simp; omega)]
      exact bad_tail _ (by simp only [List.length_set]; omega)
    | false =>
    rw [cond_false]
    cases k == (6 : Int) with
    | true => rw [cond_true]; exact bad_tail _ (by dsimp only; omega)
    | false => rw [cond_false]; exact bad_tail p (by omega)
theorem law_FnBadPolicy (v0 : Value) (w : World) (r0 : RdL .u8 (fun x : Int => 0 <= x /\ x <= 255) w v0) : Calls Try.prog 3 #[v0] w fun e w' => e = .returned (.bool true) /\ Below w.heap.size w w' := by
  obtain ⟨l, hl, _, h0⟩ := r0
  exact law_of ok_fl_FnBadPolicy (ctrT_run (ai := [(false, .sl .u8)]) (x := (l, ())) (by kernel_rfl) (p_FnBadPolicy l hl)) (args1 h0)
end Go.Proofs.Ytobcdpdmpekbcaa
