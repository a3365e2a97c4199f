/-
  The law of opening and closing a bank. Nothing here is a claim.
-/
import Derived.Test.YtkgliadgedamiaaG3
import Derived.Test.YtkgliadgedamiaaPDraw
import Derived.Test.YtkgliadgedamiaaOpenV
namespace Go.Proofs.Ytkgliadgedamiaa
open Go.RowKit
set_option linter.unusedVariables false
set_option maxRecDepth 100000

theorem p_between (x a b : Int) : fi_between x a b = some (decide (a ≤ x) && decide (x ≤ b)) := by
  unfold fi_between
  by_cases h : a ≤ x
  · have : decide (x ≥ a) = true := decide_eq_true h
    rw [this]; rfl
  · have : decide (x ≥ a) = false := decide_eq_false h
    rw [this]; rfl
theorem p_in (x a b : Int) : fs_l01In x a b = some (decide (a ≤ x) && decide (x ≤ b)) := p_between x a b
theorem p_between_t {x a b : Int} (h : a ≤ x) (h' : x ≤ b) : fi_between x a b = some true := by
  rw [p_between, decide_eq_true h, decide_eq_true h']; rfl
theorem p_in_t {x a b : Int} (h : a ≤ x) (h' : x ≤ b) : fs_l01In x a b = some true := p_between_t h h'
theorem Gok.ok {g : DGeometry} (h : Gok g) : fi_GeometryOk g = some true := by
  obtain ⟨⟨a1, a2⟩, ⟨b1, b2⟩, ⟨c1, c2⟩, ⟨d1, d2⟩⟩ := h
  unfold fi_GeometryOk
  rw [p_between_t a1 a2, bindS, cond_true, p_between_t b1 b2, bindS, cond_true, p_between_t c1 (by omega), bindS, cond_true, p_between_t d1 (by omega)]
  rfl
theorem Gok.ok' {g : DGeometry} (h : Gok g) : fs_GeometryOk g = some true := Gok.ok h
theorem Gok.count {g : DGeometry} (h : Gok g) : ∃ n : Nat, 1 ≤ n ∧ n ≤ 8 ∧ fi_BankCount g = some (n : Int) ∧ fs_BankCount g = some (n : Int) := by
  obtain ⟨⟨a1, a2⟩, ⟨b1, b2⟩, _, _⟩ := id h
  have hb : 1 ≤ g.groups * g.banks ∧ g.groups * g.banks ≤ 8 := by
    have : g.groups = 1 ∨ g.groups = 2 := by omega
    rcases this with e | e <;> rw [e] <;> omega
  refine ⟨(g.groups * g.banks).toNat, by omega, by omega, ?_, ?_⟩
  · unfold fi_BankCount
    rw [h.ok, bindS]
    show some (IntKind.i64.wrap (g.groups * g.banks)) = _
    rw [w64 (by omega) (by omega), Int.toNat_of_nonneg (by omega)]
  · unfold fs_BankCount
    rw [h.ok', bindS]
    show some (IntKind.i64.wrap (g.groups * g.banks)) = _
    rw [w64 (by omega) (by omega), Int.toNat_of_nonneg (by omega)]
/-- The places of the open banks. -/
def opens : Nat → List DBank → List Int
  | _, [] => []
  | i, b :: bs => bif b.open_ then (i : Int) :: opens (i + 1) bs else opens (i + 1) bs
theorem opens_append (i : Nat) (a b : List DBank) : opens i (a ++ b) = opens i a ++ opens (i + a.length) b := by
  induction a generalizing i with
  | nil => simp [opens]
  | cons x a ih =>
    simp only [List.cons_append, opens, List.length_cons]
    rw [ih, show i + 1 + a.length = i + (a.length + 1) by omega]
    cases x.open_ <;> rfl
theorem opens_len (i : Nat) (l : List DBank) : (opens i l).length ≤ l.length := by
  induction l generalizing i with
  | nil => simp [opens]
  | cons x a ih =>
    have := ih (i + 1)
    simp only [opens]
    cases x.open_ <;> simp <;> omega
theorem take_succ_get {α : Type} {l : List α} {i : Nat} (h : i < l.length) : l.take (i + 1) = l.take i ++ [l[i]] := by
  rw [List.take_succ_eq_append_getElem h]
theorem p_OpenBanks (r : DRank) (h : r.banks.length < 1073741823) : fi_OpenBanks r = some (opens 0 r.banks) := by
  unfold fi_OpenBanks
  have e := iter_run (step := Lfi_OpenBanks_0) (fun i => (((), r.banks, (r.banks.length : Int), (i : Int), ()), (opens 0 (r.banks.take i), ()))) (z := .inl (((), ()), (opens 0 r.banks, ()))) r.banks.length 0 big (fun k _ hk => ?_) ?_ (by unfold big; omega)
  · have e : iter Lfi_OpenBanks_0 big (((), r.banks, (r.banks.length : Int), (0 : Int), ()), (([] : List Int), ())) = _ := e
    rw [e]; rfl
  · have hk : k < r.banks.length := by omega
    unfold Lfi_OpenBanks_0
    dsimp only
    have c1 : decide ((k : Int) < (r.banks.length : Int)) = true := decide_eq_true (by omega)
    have c2 : 0 ≤ (k : Int) ∧ (k : Int).toNat < r.banks.length := ⟨by omega, by simpa using hk⟩
    have hl := opens_len 0 (r.banks.take k)
    rw [List.length_take] at hl
    have c3 : okLen ((opens 0 (r.banks.take k)).length + ([(k : Int)] : List Int).length) = true := by
      unfold okLen; refine decide_eq_true ?_; simp; omega
    rw [c1, cond_true, dif_pos c2, wrap_succ (by omega), take_succ_get hk, opens_append]
    simp only [Int.toNat_natCast, opens, List.length_take, Nat.zero_add, Nat.min_eq_left (Nat.le_of_lt hk)]
    cases r.banks[k].open_ with
    | true => rw [cond_true, c3]; rfl
    | false => rw [cond_false, cond_false, List.append_nil]
  · rw [Nat.zero_add]
    unfold Lfi_OpenBanks_0
    dsimp only
    have c1 : decide ((r.banks.length : Int) < (r.banks.length : Int)) = false := decide_eq_false (by omega)
    rw [c1, cond_false, List.take_length]
theorem p_copyRank (r : DRank) (h : r.banks.length < 1073741823) : fi_copyRank r = some r := by
  unfold fi_copyRank
  have : okLen (([] : List DBank).length + r.banks.length) = true := by
    unfold okLen; refine decide_eq_true ?_; simp; omega
  rw [this]; rfl
/-- A bank that is valid. -/
def Bok (g : DGeometry) (b : DBank) : Prop := 0 ≤ b.row ∧ b.row ≤ g.rows - 1 ∧ (b.open_ = false → b.row = 0)
theorem p_RankOk {g : DGeometry} (hg : Gok g) (r : DRank) {n : Nat} (hn : fi_BankCount g = some (n : Int)) (hl : r.banks.length = n) (hn8 : n ≤ 8) (hp : r.power = 0) (hb : ∀ b ∈ r.banks, Bok g b) : fi_RankOk g r = some true := by
  unfold fi_RankOk
  rw [hg.ok, bindS, hn, bindS, hl]
  have c0 : ((n : Int) != (n : Int)) = false := by simp
  rw [c0, cond_false, hp, p_between_t (by omega) (by omega), bindS]
  simp only [Bool.not_true, cond_false]
  obtain ⟨hr1, hr2⟩ := hg.rows
  have e := iter_run (step := Lfi_RankOk_0) (fun i => (((), (), r.banks, (n : Int), (i : Int), ()), ((g.groups, g.banks, g.rows, g.cols, ()), (r.banks, (0 : Int), ()), ()))) (z := .inr (.inl (((), ()), ((r.banks, (0 : Int), ()), ())))) n 0 big (fun k _ hk => ?_) ?_ (by unfold big; omega)
  · have e : iter Lfi_RankOk_0 big (((), (), r.banks, (n : Int), (0 : Int), ()), ((g.groups, g.banks, g.rows, g.cols, ()), (r.banks, (0 : Int), ()), ())) = _ := e
    rw [e]; rfl
  · have hk : k < r.banks.length := by omega
    unfold Lfi_RankOk_0
    dsimp only
    have c1 : decide ((k : Int) < (n : Int)) = true := decide_eq_true (by omega)
    have c2 : 0 ≤ (k : Int) ∧ (k : Int).toNat < r.banks.length := ⟨by omega, by simpa using hk⟩
    obtain ⟨b1, b2, b3⟩ := hb _ (List.getElem_mem hk)
    rw [c1, cond_true, dif_pos c2, wrap_succ (by omega), w64 (by omega) (by omega)]
    simp only [Int.toNat_natCast]
    rw [p_between_t b1 b2, bindS]
    simp only [Bool.not_true, cond_false]
    cases ho : r.banks[k].open_ with
    | true => rfl
    | false =>
      have : (r.banks[k].row != (0 : Int)) = false := by rw [b3 ho]; rfl
      rw [this]; rfl
  · rw [Nat.zero_add]
    unfold Lfi_RankOk_0
    dsimp only
    have c1 : decide ((n : Int) < (n : Int)) = false := decide_eq_false (by omega)
    rw [c1, cond_false]
theorem p_sameInts (l : List Int) (h : l.length < 1073741823) : fl_sameInts l l = some true := by
  unfold fl_sameInts
  have c0 : ((l.length : Int) != (l.length : Int)) = false := by simp
  rw [c0, cond_false]
  have e := iter_run (step := Lfl_sameInts_0) (fun i => ((l, l, (i : Int), ()), ())) (z := .inr (.inl ((), ()))) l.length 0 big (fun k _ hk => ?_) ?_ (by unfold big; omega)
  · have e : iter Lfl_sameInts_0 big ((l, l, (0 : Int), ()), ()) = _ := e
    rw [e]; rfl
  · have hk : k < l.length := by omega
    unfold Lfl_sameInts_0
    dsimp only
    have c1 : decide ((k : Int) < (l.length : Int)) = true := decide_eq_true (by omega)
    have c2 : 0 ≤ (k : Int) ∧ (k : Int).toNat < l.length := ⟨by omega, by simpa using hk⟩
    rw [c1, cond_true, dif_pos c2, dif_pos c2, wrap_succ (by omega)]
    have : (l[(k : Int).toNat]'c2.2 != l[(k : Int).toNat]'c2.2) = false := by simp
    rw [this]; rfl
  · rw [Nat.zero_add]
    unfold Lfl_sameInts_0
    dsimp only
    have c1 : decide ((l.length : Int) < (l.length : Int)) = false := decide_eq_false (by omega)
    rw [c1, cond_false]
theorem p_sameBanks (l : List DBank) (h : l.length < 1073741823) : fl_sameBanks l l = some true := by
  unfold fl_sameBanks
  have c0 : ((l.length : Int) != (l.length : Int)) = false := by simp
  rw [c0, cond_false]
  have e := iter_run (step := Lfl_sameBanks_0) (fun i => ((l, l, (i : Int), ()), ())) (z := .inr (.inl ((), ()))) l.length 0 big (fun k _ hk => ?_) ?_ (by unfold big; omega)
  · have e : iter Lfl_sameBanks_0 big ((l, l, (0 : Int), ()), ()) = _ := e
    rw [e]; rfl
  · have hk : k < l.length := by omega
    unfold Lfl_sameBanks_0
    dsimp only
    have c1 : decide ((k : Int) < (l.length : Int)) = true := decide_eq_true (by omega)
    have c2 : 0 ≤ (k : Int) ∧ (k : Int).toNat < l.length := ⟨by omega, by simpa using hk⟩
    rw [c1, cond_true, dif_pos c2, dif_pos c2, wrap_succ (by omega)]
    simp
  · rw [Nat.zero_add]
    unfold Lfl_sameBanks_0
    dsimp only
    have c1 : decide ((l.length : Int) < (l.length : Int)) = false := decide_eq_false (by omega)
    rw [c1, cond_false]
theorem p_RankNew {g : DGeometry} (hg : Gok g) {n : Nat} (hn : fi_BankCount g = some (n : Int)) (hn8 : n ≤ 8) : fi_RankNew g = some ⟨List.replicate n ⟨false, 0⟩, 0⟩ := by
  unfold fi_RankNew
  rw [hg.ok, bindS]
  simp only [Bool.not_true, cond_false]
  rw [hn, bindS, if_pos ⟨by omega, by omega, by omega⟩]
  simp
theorem p_act {g : DGeometry} (hg : Gok g) (r : DRank) {n b : Nat} {row : Int} (hn : fi_BankCount g = some (n : Int)) (hl : r.banks.length = n) (hn8 : n ≤ 8) (hp : r.power = 0) (hb : ∀ b ∈ r.banks, Bok g b) (hlt : b < n) (hc : (r.banks[b]'(by omega)).open_ = false) (h0 : 0 ≤ row) (h1 : row < g.rows) :
    fi_RankAfter g r ⟨1, b, row, 0⟩ = some (⟨r.banks.set b ⟨true, row⟩, r.power⟩, true) := by
  obtain ⟨hr1, hr2⟩ := hg.rows
  have hcmd : fi_CommandOk g ⟨1, b, row, 0⟩ = some true := by
    unfold fi_CommandOk
    rw [hg.ok, bindS, cond_true, hn, bindS]
    unfold fi_wellFormed
    dsimp only
    rw [p_between_t (by omega) (by omega), bindS, cond_true]
    unfold fi_usesBank
    rw [p_between_t (by omega) (by omega)]
    simp only [bindS]
    unfold fi_fieldOk fi_usesRow fi_usesCol
    simp only [Bool.not_true, cond_false]
    rw [w64 (n := (n : Int) - 1) (by omega) (by omega), p_between_t (by omega) (by omega)]
    simp only [bindS, cond_true]
    have c1 : ((1 : Int) == (1 : Int)) = true := rfl
    simp only [c1, Bool.not_true, cond_false]
    rw [w64 (n := g.rows - 1) (by omega) (by omega), p_between_t (by omega) (by omega)]
    rfl
  unfold fi_RankAfter
  rw [p_copyRank r (by omega), bindS]
  have hal : fi_Allowed g r ⟨1, b, row, 0⟩ = some true := by
    unfold fi_Allowed
    rw [p_RankOk hg r hn hl hn8 hp hb, bindS]
    simp only [Bool.not_true, cond_false]
    rw [hcmd, bindS]
    simp only [Bool.not_true, cond_false]
    have c1 : ((1 : Int) == (1 : Int)) = true := rfl
    have c2 : (r.power == (0 : Int)) = true := by rw [hp]; rfl
    have c3 : 0 ≤ (b : Int) ∧ (b : Int).toNat < r.banks.length := ⟨by omega, by simp; omega⟩
    simp only [c1, c2, cond_true]
    rw [dif_pos c3]
    simp [hc]
  rw [hal, bindS]
  have c1 : ((1 : Int) == (1 : Int)) = true := rfl
  have c3 : 0 ≤ (b : Int) ∧ (b : Int).toNat < r.banks.length := ⟨by omega, by simp; omega⟩
  simp only [Bool.not_true, cond_false, c1, cond_true]
  rw [dif_pos c3, dif_pos c3.2]
  simp
theorem p_pre {g : DGeometry} (hg : Gok g) (r : DRank) {n b : Nat} (hn : fi_BankCount g = some (n : Int)) (hl : r.banks.length = n) (hn8 : n ≤ 8) (hp : r.power = 0) (hb : ∀ b ∈ r.banks, Bok g b) (hlt : b < n) (hc : (r.banks[b]'(by omega)).open_ = true) :
    fi_RankAfter g r ⟨4, b, 0, 0⟩ = some (⟨r.banks.set b ⟨false, 0⟩, r.power⟩, true) := by
  obtain ⟨hr1, hr2⟩ := hg.rows
  have hcmd : fi_CommandOk g ⟨4, b, 0, 0⟩ = some true := by
    unfold fi_CommandOk
    rw [hg.ok, bindS, cond_true, hn, bindS]
    unfold fi_wellFormed
    dsimp only
    rw [p_between_t (by omega) (by omega), bindS, cond_true]
    unfold fi_usesBank
    rw [p_between_t (by omega) (by omega)]
    simp only [bindS]
    unfold fi_fieldOk fi_usesRow fi_usesCol
    simp only [Bool.not_true, cond_false]
    rw [w64 (n := (n : Int) - 1) (by omega) (by omega), p_between_t (by omega) (by omega)]
    rfl
  unfold fi_RankAfter
  rw [p_copyRank r (by omega), bindS]
  have c3 : 0 ≤ (b : Int) ∧ (b : Int).toNat < r.banks.length := ⟨by omega, by simp; omega⟩
  have hal : fi_Allowed g r ⟨4, b, 0, 0⟩ = some true := by
    unfold fi_Allowed
    rw [p_RankOk hg r hn hl hn8 hp hb, bindS]
    simp only [Bool.not_true, cond_false]
    rw [hcmd, bindS]
    have c2 : (r.power == (0 : Int)) = true := by rw [hp]; rfl
    have d1 : ((4 : Int) == (1 : Int)) = false := rfl
    have d2 : ((4 : Int) == (2 : Int)) = false := rfl
    have d3 : ((4 : Int) == (3 : Int)) = false := rfl
    have d4 : ((4 : Int) == (4 : Int)) = true := rfl
    have d5 : ((4 : Int) == (5 : Int)) = false := rfl
    simp only [d1, d2, d3, d4, d5, c2, cond_true, cond_false, Bool.not_true, dif_pos c3]
    simp [hc]
  rw [hal, bindS]
  have d1 : ((4 : Int) == (1 : Int)) = false := rfl
  have d4 : ((4 : Int) == (4 : Int)) = true := rfl
  simp only [d1, d4, Bool.not_true, cond_false, cond_true]
  rw [dif_pos c3, dif_pos c3.2]
  simp
theorem opens_closed (n i : Nat) : opens i (List.replicate n ⟨false, 0⟩) = [] := by
  induction n generalizing i with
  | zero => rfl
  | succ n ih => simp only [List.replicate_succ, opens, cond_false]; exact ih (i + 1)
theorem opens_one (n b i : Nat) (row : Int) (h : b < n) : opens i ((List.replicate n (⟨false, 0⟩ : DBank)).set b ⟨true, row⟩) = [((i + b : Nat) : Int)] := by
  induction n generalizing i b with
  | zero => omega
  | succ n ih =>
    cases b with
    | zero =>
      simp only [List.replicate_succ, List.set_cons_zero, opens, cond_true]
      rw [opens_closed]
      rfl
    | succ b =>
      simp only [List.replicate_succ, List.set_cons_succ, opens, cond_false]
      rw [ih b (i + 1) (by omega), show i + 1 + b = i + (b + 1) by omega]
theorem p_FnOpened (l : List Int) : fl_FnOpened l = some true := by
  unfold fl_FnOpened fl_big
  rw [bindS]
  by_cases hbig : (l.length : Int) > 1048576
  · rw [decide_eq_true hbig]; rfl
  · rw [decide_eq_false hbig, cond_false]
    obtain ⟨g, e1, hg⟩ := p_DrawGeometry l (by omega)
    obtain ⟨p, e2, hp, hpx⟩ := p_places l (by omega)
    obtain ⟨n, hn1, hn8, hc1, hc2⟩ := hg.count
    obtain ⟨hr1, hr2⟩ := hg.rows
    rw [e1, bindS, e2, bindS]
    have k0 : 0 ≤ (0 : Int) ∧ (0 : Int).toNat < p.length := ⟨by omega, by simp; omega⟩
    have k1 : 0 ≤ (1 : Int) ∧ (1 : Int).toNat < p.length := ⟨by omega, by simp; omega⟩
    rw [dif_pos k0, dif_pos k0.2]
    dsimp only
    rw [hc2, bindS, if_neg (by omega), p_RankNew hg hc1 hn8, bindS, dif_pos k1, dif_pos k1.2]
    dsimp only
    rw [if_neg (by omega)]
    have x0 := hpx _ (List.getElem_mem k0.2)
    have x1 := hpx _ (List.getElem_mem k1.2)
    generalize p[(0 : Int).toNat]'k0.2 = y0 at x0
    generalize p[(1 : Int).toNat]'k1.2 = y1 at x1
    have t0 := tmod_bd x0.1 (show 0 < (n : Int) by omega)
    have t1 := tmod_bd x1.1 (show 0 < g.rows by omega)
    generalize y0.tmod (n : Int) = b at t0
    generalize y1.tmod g.rows = row at t1
    obtain ⟨b, rfl⟩ := Int.eq_ofNat_of_zero_le t0.1
    have hb : b < n := by omega
    have hok : ∀ c ∈ (List.replicate n (⟨false, 0⟩ : DBank)), Bok g c := by
      intro c hc
      rw [List.eq_of_mem_replicate hc]
      exact ⟨by dsimp only; omega, by dsimp only; omega, fun _ => rfl⟩
    rw [p_act hg ⟨List.replicate n ⟨false, 0⟩, 0⟩ hc1 (by simp) hn8 rfl hok hb (by simp) t1.1 t1.2, bindS]
    dsimp only
    have hok2 : ∀ c ∈ (List.replicate n (⟨false, 0⟩ : DBank)).set b ⟨true, row⟩, Bok g c := by
      intro c hc
      rcases List.mem_or_eq_of_mem_set hc with hc | rfl
      · exact hok c hc
      · exact ⟨t1.1, by dsimp only; omega, fun h => by cases h⟩
    rw [p_pre hg ⟨(List.replicate n ⟨false, 0⟩).set b ⟨true, row⟩, 0⟩ hc1 (by simp) hn8 rfl hok2 hb (by simp), bindS]
    dsimp only
    have eset : ((List.replicate n (⟨false, 0⟩ : DBank)).set b ⟨true, row⟩).set b ⟨false, 0⟩ = List.replicate n ⟨false, 0⟩ := by
      rw [List.set_set]
      apply List.ext_getElem?
      intro j
      rw [List.getElem?_set]
      by_cases hj : b = j
      · subst hj; simp [hb]
      · simp [hj]
    rw [eset, cond_true, cond_true, p_OpenBanks _ (by simp; omega), bindS]
    dsimp only
    rw [opens_one n b 0 row hb, Nat.zero_add, p_sameInts _ (by simp), bindS, cond_true]
    unfold fl_sameRank
    dsimp only
    have c9 : ((0 : Int) == (0 : Int)) = true := rfl
    rw [c9, cond_true, p_sameBanks _ (by simp; omega)]
    simp only [bindS, cond_true]
    rw [p_OpenBanks _ (by simp; omega)]
    simp only [bindS]
    rw [opens_closed]
    simp only [List.length_nil, List.length_replicate]
    have c8 : (((0 : Nat) : Int) == (0 : Int)) = true := rfl
    rw [c8, cond_true]
    simp
theorem law_FnOpened (v0 : Value) (w : World) (r0 : RdL .u8 (fun x : Int => 0 ≤ x ∧ x ≤ 255) w v0) : Calls Try.prog 8 #[v0] w fun e w' => e = .returned (.bool true) ∧ Below w.heap.size w w' := by
  obtain ⟨l, hl, _, h0⟩ := r0
  exact law_of ok_fl_FnOpened (ctrT_run (ai := [(false, .sl .u8)]) (x := (l, ())) (by kernel_rfl) (p_FnOpened l)) (args1 h0)
end Go.Proofs.Ytkgliadgedamiaa
