/-
  The law of the expected facts: what both functions compute. Nothing here is a claim.
-/
import Derived.Test.YtkgliadgedamiaaG4
import Derived.Test.YtkgliadgedamiaaPLongest
import Derived.Test.YtkgliadgedamiaaPDraw
import Derived.Test.YtkgliadgedamiaaPOpened
namespace Go.Proofs.Ytkgliadgedamiaa
open Go.RowKit
set_option linter.unusedVariables false
set_option maxRecDepth 100000

/-- One reply more. -/
def expF (lines : Int) (l : List DReq) (st : List Int × List DFact) (x : DRep) : List Int × List DFact :=
  match l.find? (fun r => r.id == x.id) with
  | none => st
  | some r => if 0 ≤ r.line ∧ r.line ≤ lines - 1 then (if r.write = true then (st.1.set r.line.toNat r.data, st.2 ++ [⟨r.line, 0, 0⟩]) else (st.1, st.2 ++ [⟨r.line, st.1.getD r.line.toNat 0, x.code⟩])) else st
def expS (lines : Int) (l : List DReq) (rs : List DRep) : List Int × List DFact := rs.foldl (expF lines l) (List.replicate lines.toNat 0, [])
theorem expF_len (lines : Int) (l : List DReq) (st : List Int × List DFact) (x : DRep) : (expF lines l st x).1.length = st.1.length ∧ (expF lines l st x).2.length ≤ st.2.length + 1 := by
  unfold expF
  split
  · exact ⟨rfl, by omega⟩
  · split
    · split <;> simp
    · exact ⟨rfl, by omega⟩
theorem expS_len (lines : Int) (l : List DReq) (rs : List DRep) : (expS lines l rs).1.length = lines.toNat ∧ (expS lines l rs).2.length ≤ rs.length := by
  have key : ∀ (rs : List DRep) st, (rs.foldl (expF lines l) st).1.length = st.1.length ∧ (rs.foldl (expF lines l) st).2.length ≤ st.2.length + rs.length := by
    intro rs
    induction rs with
    | nil => intro st; simp
    | cons x rs ih =>
      intro st
      have h1 := expF_len lines l st x
      have h2 := ih (expF lines l st x)
      simp only [List.foldl_cons, List.length_cons]
      omega
  have := key rs (List.replicate lines.toNat 0, [])
  simpa [expS] using this
theorem expS_succ (lines : Int) (l : List DReq) (rs : List DRep) {i : Nat} (h : i < rs.length) : expS lines l (rs.take (i + 1)) = expF lines l (expS lines l (rs.take i)) rs[i] := take_foldl _ _ _ _ h
def expd (lines : Int) (l : List DReq) (rs : List DRep) : List DFact := if 1 ≤ lines ∧ lines ≤ 1024 then (expS lines l rs).2 else []
theorem ok1 {α : Type} {out : List α} {x : α} (h : out.length < 1073741822) : okLen (out.length + [x].length) = true := by
  unfold okLen; refine decide_eq_true ?_; simp; omega
theorem bw (x a b : Int) (h : ¬ (a ≤ x ∧ x ≤ b)) : fi_between x a b = some false := by
  rw [p_between]
  by_cases h1 : a ≤ x
  · have : ¬ x ≤ b := fun h2 => h ⟨h1, h2⟩
    rw [decide_eq_true h1, decide_eq_false this]; rfl
  · rw [decide_eq_false h1]; rfl
theorem bw' (x a b : Int) (h : ¬ (a ≤ x ∧ x ≤ b)) : fs_l01In x a b = some false := bw x a b h
theorem p_iExpected (lines : Int) (l : List DReq) (rs : List DRep) (h : l.length < 1073741820) (h' : rs.length < 1073741820) : fi_Expected lines l rs = some (expd lines l rs) := by
  unfold fi_Expected expd
  by_cases hl : 1 ≤ lines ∧ lines ≤ 1024
  · rw [p_between_t hl.1 hl.2, bindS, if_pos hl]
    simp only [Bool.not_true, cond_false]
    rw [if_pos ⟨by omega, by omega, by omega⟩]
    have e := iter_run (step := Lfi_Expected_0) (fun i => ((lines, l, (), (), rs, (rs.length : Int), (i : Int), ()), ((expS lines l (rs.take i)).1, (expS lines l (rs.take i)).2, ()))) (z := .inl (((), ()), ((expS lines l rs).2, ()))) rs.length 0 big (fun i _ hi => ?_) ?_ (by unfold big; omega)
    · have e : iter Lfi_Expected_0 big ((lines, l, (), (), rs, (rs.length : Int), (0 : Int), ()), ((List.replicate lines.toNat (0 : Int)), ([] : List DFact), ())) = _ := e
      rw [e]; rfl
    · have hi : i < rs.length := by omega
      unfold Lfi_Expected_0
      dsimp only
      have c1 : decide ((i : Int) < (rs.length : Int)) = true := decide_eq_true (by omega)
      have c2 : 0 ≤ (i : Int) ∧ (i : Int).toNat < rs.length := ⟨by omega, by simpa using hi⟩
      obtain ⟨hm, ho⟩ := expS_len lines l (rs.take i)
      rw [List.length_take] at ho
      rw [c1, cond_true, dif_pos c2, wrap_succ (by omega), expS_succ lines l rs hi]
      simp only [Int.toNat_natCast]
      generalize expS lines l (rs.take i) = st at hm ho
      rw [p_requestOf l _ (by omega), bindS]
      unfold expF
      cases hf : l.find? (fun r => r.id == rs[i].id) with
      | none => rfl
      | some r =>
        simp only [Bool.not_true, cond_false]
        rw [w64 (n := lines - 1) (by omega) (by omega)]
        by_cases hb : 0 ≤ r.line ∧ r.line ≤ lines - 1
        · rw [p_between_t hb.1 hb.2, bindS, if_pos hb]
          have c3 : 0 ≤ r.line ∧ r.line.toNat < st.1.length := ⟨hb.1, by omega⟩
          simp only [Bool.not_true, cond_false]
          cases hw : r.write with
          | true =>
            rw [cond_true, dif_pos c3, dif_pos c3.2, ok1 (by omega)]
            rfl
          | false =>
            rw [cond_false, dif_pos c3, dif_pos c3.2, ok1 (by omega)]
            rw [List.getD_eq_getElem?_getD, List.getElem?_eq_getElem c3.2]
            rfl
        · rw [bw _ _ _ hb, bindS, if_neg hb]
          rfl
    · rw [Nat.zero_add]
      unfold Lfi_Expected_0
      dsimp only
      have c1 : decide ((rs.length : Int) < (rs.length : Int)) = false := decide_eq_false (by omega)
      rw [c1, cond_false, List.take_length]
  · rw [bw _ _ _ hl, bindS, if_neg hl]
    rfl
theorem p_sExpected (lines : Int) (l : List DReq) (rs : List DRep) (h : l.length < 1073741820) (h' : rs.length < 1073741820) : fs_Expected lines l rs = some (expd lines l rs) := by
  unfold fs_Expected expd
  by_cases hl : 1 ≤ lines ∧ lines ≤ 1024
  · rw [p_in_t hl.1 hl.2, bindS, if_pos hl]
    simp only [Bool.not_true, cond_false]
    rw [if_pos ⟨by omega, by omega, by omega⟩]
    have e := iter_run (step := Lfs_Expected_0) (fun i => ((lines, l, rs, (), (), (i : Int), ()), ((expS lines l (rs.take i)).2, (expS lines l (rs.take i)).1, ()))) (z := .inl (((), ()), ((expS lines l rs).2, ()))) rs.length 0 big (fun i _ hi => ?_) ?_ (by unfold big; omega)
    · have e : iter Lfs_Expected_0 big ((lines, l, rs, (), (), (0 : Int), ()), (([] : List DFact), (List.replicate lines.toNat (0 : Int)), ())) = _ := e
      rw [e]; rfl
    · have hi : i < rs.length := by omega
      unfold Lfs_Expected_0
      dsimp only
      have c1 : decide ((i : Int) < (rs.length : Int)) = true := decide_eq_true (by omega)
      have c2 : 0 ≤ (i : Int) ∧ (i : Int).toNat < rs.length := ⟨by omega, by simpa using hi⟩
      obtain ⟨hm, ho⟩ := expS_len lines l (rs.take i)
      rw [List.length_take] at ho
      rw [c1, cond_true, dif_pos c2, wrap_succ (by omega), expS_succ lines l rs hi]
      simp only [Int.toNat_natCast]
      generalize expS lines l (rs.take i) = st at hm ho
      rw [p_l19At l _ (by omega), bindS]
      unfold expF
      cases hf : l.findIdx? (fun r => r.id == rs[i].id) with
      | none =>
        have hpl : place l rs[i].id = -1 := by unfold place; rw [hf]
        have hfi : l.find? (fun r => r.id == rs[i].id) = none := by
          rw [List.find?_eq_none]
          intro x hx
          have := List.findIdx?_eq_none_iff.1 hf x hx
          simpa using this
        rw [hfi, hpl]
        rfl
      | some k =>
        obtain ⟨k1, k2, k3⟩ := List.findIdx?_eq_some_iff_getElem.1 hf
        have hpl : place l rs[i].id = (k : Int) := by unfold place; rw [hf]
        have hfi : l.find? (fun r => r.id == rs[i].id) = some l[k] := find_at k1 (fun j hj => by simpa using k3 j hj) k2
        have c3 : decide (place l rs[i].id < 0) = false := by rw [hpl]; exact decide_eq_false (by omega)
        have c4 : 0 ≤ place l rs[i].id ∧ (place l rs[i].id).toNat < l.length := by rw [hpl]; exact ⟨by omega, by simpa using k1⟩
        rw [hfi, c3, cond_false, dif_pos c4]
        simp only [hpl, Int.toNat_natCast]
        rw [w64 (n := lines - 1) (by omega) (by omega)]
        by_cases hb : 0 ≤ l[k].line ∧ l[k].line ≤ lines - 1
        · rw [p_in_t hb.1 hb.2, bindS, if_pos hb]
          have c5 : 0 ≤ l[k].line ∧ l[k].line.toNat < st.1.length := ⟨hb.1, by omega⟩
          have c6 : 0 ≤ (k : Int) ∧ k < l.length := ⟨by omega, k1⟩
          have c7 : 0 ≤ (i : Int) ∧ i < rs.length := ⟨by omega, hi⟩
          simp only [Bool.not_true, cond_false]
          rw [dif_pos c6]
          cases hw : l[k].write with
          | true =>
            rw [cond_true, dif_pos c5, dif_pos c5.2, ok1 (by omega)]
            rfl
          | false =>
            rw [cond_false, dif_pos c5, dif_pos c5.2, dif_pos c7, ok1 (by omega)]
            rw [List.getD_eq_getElem?_getD, List.getElem?_eq_getElem c5.2]
            rfl
        · rw [bw' _ _ _ hb, bindS, if_neg hb]
          rfl
    · rw [Nat.zero_add]
      unfold Lfs_Expected_0
      dsimp only
      have c1 : decide ((rs.length : Int) < (rs.length : Int)) = false := decide_eq_false (by omega)
      rw [c1, cond_false, List.take_length]
  · rw [bw' _ _ _ hl, bindS, if_neg hl]
    rfl
theorem p_eqFactS (l : List DFact) (h : l.length < 1073741824) : fl_eqFactS l l = some true := by
  have e : iter Lfl_eqFactS_0 big ((l, l, (0 : Int), ()), ()) = some (.inr (.inl ((), ()))) := eqLoop fl_eqFact (fun x => by simp [fl_eqFact]) l h
  unfold fl_eqFactS
  rw [e]
  simp
theorem p_markRequestS (l : List DReq) (k : Int) (h : l.length < 1073741824) (h0 : 0 ≤ k) (h1 : k ≤ 1000000000000) : ∃ l', fl_markRequestS l k = some (k + 6 * l.length, (l', ())) := by
  unfold fl_markRequestS
  obtain ⟨z, e1, e2⟩ := iter_ind (step := Lfl_markRequestS_0)
    (fun x => ∃ (i : Nat), x.1.2.1 = k + 6 * (i : Int) ∧ x.1.2.2.1 = (i : Int) ∧ i ≤ l.length ∧ x.2.1.length = l.length)
    (fun x => l.length - x.1.2.2.1.toNat) (fun z => ∃ l', (Sum.elim (fun z19 : ((Int × Unit) × ((List DReq) × Unit)) => some (z19.1.1, (z19.2.1, ()))) (fun z => nomatch z)) z = some (k + 6 * l.length, (l', ()))) (by
      rintro ⟨⟨_, kk, ii, _⟩, a, _⟩ ⟨i, hk, hii, hi, ha⟩
      dsimp only at hk hii ha
      subst hk hii
      unfold Lfl_markRequestS_0
      dsimp only
      by_cases hlt : i < l.length
      · have c1 : decide ((i : Int) < (a.length : Int)) = true := decide_eq_true (by omega)
        have c2 : 0 ≤ (i : Int) := by omega
        have c3 : i < a.length := by omega
        rw [c1, cond_true]
        simp only [List.length_set, Int.toNat_natCast, c2, c3, and_self, dite_true]
        left
        refine ⟨_, rfl, ⟨i + 1, ?_, ?_, by omega, ?_⟩, ?_⟩
        · dsimp only
          rw [w64 (n := k + 6 * (i : Int) + 1) (by omega) (by omega), w64 (n := k + 6 * (i : Int) + 1 + 1) (by omega) (by omega), w64 (n := k + 6 * (i : Int) + 1 + 1 + 1) (by omega) (by omega), w64 (n := k + 6 * (i : Int) + 1 + 1 + 1 + 1) (by omega) (by omega), w64 (n := k + 6 * (i : Int) + 1 + 1 + 1 + 1 + 1) (by omega) (by omega), w64 (n := k + 6 * (i : Int) + 1 + 1 + 1 + 1 + 1 + 1) (by omega) (by omega)]
          omega
        · dsimp only
          rw [wrap_succ (by omega)]
        · simp only [List.length_set]
          exact ha
        · dsimp only
          rw [wrap_succ (by omega)]
          omega
      · right
        have c1 : decide ((i : Int) < (a.length : Int)) = false := decide_eq_false (by omega)
        rw [c1, cond_false]
        have : i = l.length := by omega
        subst this
        exact ⟨_, rfl, a, rfl⟩)
    big (((), k + 6 * ((0 : Nat) : Int), ((0 : Nat) : Int), ()), (l, ())) ⟨0, rfl, rfl, by omega, rfl⟩ (by dsimp only; unfold big; omega)
  have e1 : iter Lfl_markRequestS_0 big (((), k + 6 * ((0 : Nat) : Int), (0 : Int), ()), (l, ())) = some z := e1
  rw [show k + 6 * ((0 : Nat) : Int) = k by omega] at e1
  rw [e1]
  exact e2
theorem p_markReplyS (l : List DRep) (k : Int) (h : l.length < 1073741824) (h0 : 0 ≤ k) (h1 : k ≤ 1000000000000) : ∃ l', fl_markReplyS l k = some (k + 4 * l.length, (l', ())) := by
  unfold fl_markReplyS
  obtain ⟨z, e1, e2⟩ := iter_ind (step := Lfl_markReplyS_0)
    (fun x => ∃ (i : Nat), x.1.2.1 = k + 4 * (i : Int) ∧ x.1.2.2.1 = (i : Int) ∧ i ≤ l.length ∧ x.2.1.length = l.length)
    (fun x => l.length - x.1.2.2.1.toNat) (fun z => ∃ l', (Sum.elim (fun z19 : ((Int × Unit) × ((List DRep) × Unit)) => some (z19.1.1, (z19.2.1, ()))) (fun z => nomatch z)) z = some (k + 4 * l.length, (l', ()))) (by
      rintro ⟨⟨_, kk, ii, _⟩, a, _⟩ ⟨i, hk, hii, hi, ha⟩
      dsimp only at hk hii ha
      subst hk hii
      unfold Lfl_markReplyS_0
      dsimp only
      by_cases hlt : i < l.length
      · have c1 : decide ((i : Int) < (a.length : Int)) = true := decide_eq_true (by omega)
        have c2 : 0 ≤ (i : Int) := by omega
        have c3 : i < a.length := by omega
        rw [c1, cond_true]
        simp only [List.length_set, Int.toNat_natCast, c2, c3, and_self, dite_true]
        left
        refine ⟨_, rfl, ⟨i + 1, ?_, ?_, by omega, ?_⟩, ?_⟩
        · dsimp only
          rw [w64 (n := k + 4 * (i : Int) + 1) (by omega) (by omega), w64 (n := k + 4 * (i : Int) + 1 + 1) (by omega) (by omega), w64 (n := k + 4 * (i : Int) + 1 + 1 + 1) (by omega) (by omega), w64 (n := k + 4 * (i : Int) + 1 + 1 + 1 + 1) (by omega) (by omega)]
          omega
        · dsimp only
          rw [wrap_succ (by omega)]
        · simp only [List.length_set]
          exact ha
        · dsimp only
          rw [wrap_succ (by omega)]
          omega
      · right
        have c1 : decide ((i : Int) < (a.length : Int)) = false := decide_eq_false (by omega)
        rw [c1, cond_false]
        have : i = l.length := by omega
        subst this
        exact ⟨_, rfl, a, rfl⟩)
    big (((), k + 4 * ((0 : Nat) : Int), ((0 : Nat) : Int), ()), (l, ())) ⟨0, rfl, rfl, by omega, rfl⟩ (by dsimp only; unfold big; omega)
  have e1 : iter Lfl_markReplyS_0 big (((), k + 4 * ((0 : Nat) : Int), (0 : Int), ()), (l, ())) = some z := e1
  rw [show k + 4 * ((0 : Nat) : Int) = k by omega] at e1
  rw [e1]
  exact e2
/-- Facts that are marked. -/
def markF (k : Int) (n : Nat) : List DFact := (List.range n).map fun (j : Nat) => (⟨k + 3 * (j : Int), k + 3 * (j : Int) + 1, k + 3 * (j : Int) + 2⟩ : DFact)
theorem p_markFactS (l : List DFact) (k : Int) (h : l.length < 1073741824) (h0 : 0 ≤ k) (h1 : k ≤ 1000000000000) : fl_markFactS l k = some (k + 3 * l.length, (markF k l.length, ())) := by
  unfold fl_markFactS
  have e := iter_run (step := Lfl_markFactS_0) (fun i => (((), k + 3 * (i : Int), (i : Int), ()), (markF k i ++ l.drop i, ()))) (z := .inl ((k + 3 * (l.length : Int), ()), (markF k l.length, ()))) l.length 0 big (fun i _ hi => ?_) ?_ (by unfold big; omega)
  · have e : iter Lfl_markFactS_0 big (((), k + 3 * ((0 : Nat) : Int), (0 : Int), ()), (l, ())) = _ := e
    rw [show k + 3 * ((0 : Nat) : Int) = k by omega] at e
    rw [e]; rfl
  · have hi : i < l.length := by omega
    unfold Lfl_markFactS_0
    dsimp only
    have hlen : (markF k i ++ l.drop i).length = l.length := by simp [markF]; omega
    have c1 : decide ((i : Int) < ((markF k i ++ l.drop i).length : Int)) = true := decide_eq_true (by omega)
    have c2 : 0 ≤ (i : Int) := by omega
    have c3 : i < (markF k i ++ l.drop i).length := by omega
    rw [c1, cond_true]
    simp only [List.length_set, Int.toNat_natCast, c2, c3, and_self, dite_true, List.getElem_set_self, List.set_set]
    rw [wrap_succ (by omega), w64 (n := k + 3 * (i : Int) + 1) (by omega) (by omega), w64 (n := k + 3 * (i : Int) + 1 + 1) (by omega) (by omega), w64 (n := k + 3 * (i : Int) + 1 + 1 + 1) (by omega) (by omega)]
    have e1 : k + 3 * (i : Int) + 1 + 1 + 1 = k + 3 * ((i + 1 : Nat) : Int) := by omega
    have e2 : (markF k i ++ l.drop i).set i ⟨k + 3 * (i : Int), k + 3 * (i : Int) + 1, k + 3 * (i : Int) + 1 + 1⟩ = markF k (i + 1) ++ l.drop (i + 1) := by
      have hm : (markF k i).length = i := by simp [markF]
      rw [List.set_append_right _ _ (by omega), hm, Nat.sub_self, List.drop_eq_getElem_cons hi, List.set_cons_zero]
      have : markF k (i + 1) = markF k i ++ [⟨k + 3 * (i : Int), k + 3 * (i : Int) + 1, k + 3 * (i : Int) + 2⟩] := by
        simp [markF, List.range_succ]
      rw [this, show k + 3 * (i : Int) + 1 + 1 = k + 3 * (i : Int) + 2 by omega]
      simp
    rw [e1, e2]
  · rw [Nat.zero_add]
    unfold Lfl_markFactS_0
    dsimp only
    have hlen : (markF k l.length ++ l.drop l.length).length = l.length := by simp [markF]
    have c1 : decide ((l.length : Int) < ((markF k l.length ++ l.drop l.length).length : Int)) = false := decide_eq_false (by omega)
    rw [c1, cond_false, List.drop_length, List.append_nil]
theorem p_heldFactS (k : Int) (n : Nat) (h : n < 1073741824) (h0 : 0 ≤ k) (h1 : k ≤ 1000000000000) : fl_heldFactS (markF k n) k = some (k + 3 * n) := by
  unfold fl_heldFactS
  have hlen : (markF k n).length = n := by simp [markF]
  have e := iter_run (step := Lfl_heldFactS_0) (fun i => ((markF k n, k + 3 * (i : Int), (i : Int), ()), ())) (z := .inr (.inl ((k + 3 * (n : Int), ()), ()))) n 0 big (fun i _ hi => ?_) ?_ (by unfold big; omega)
  · have e : iter Lfl_heldFactS_0 big ((markF k n, k + 3 * ((0 : Nat) : Int), (0 : Int), ()), ()) = _ := e
    rw [show k + 3 * ((0 : Nat) : Int) = k by omega] at e
    rw [e]; rfl
  · have hi : i < n := by omega
    unfold Lfl_heldFactS_0
    dsimp only
    have c1 : decide ((i : Int) < ((markF k n).length : Int)) = true := decide_eq_true (by omega)
    have c2 : 0 ≤ (i : Int) ∧ (i : Int).toNat < (markF k n).length := ⟨by omega, by simp only [Int.toNat_natCast]; omega⟩
    have hg : (markF k n)[(i : Int).toNat]'c2.2 = ⟨k + 3 * i, k + 3 * i + 1, k + 3 * i + 2⟩ := by simp [markF]
    rw [c1, cond_true, dif_pos c2, dif_pos c2, dif_pos c2]
    rw [hg]
    dsimp only
    rw [wrap_succ (by omega), w64 (n := k + 3 * (i : Int) + 1) (by omega) (by omega), w64 (n := k + 3 * (i : Int) + 1 + 1) (by omega) (by omega), w64 (n := k + 3 * (i : Int) + 1 + 1 + 1) (by omega) (by omega)]
    have e1 : k + 3 * (i : Int) + 1 + 1 + 1 = k + 3 * ((i + 1 : Nat) : Int) := by omega
    have e2 : (k + 3 * (i : Int) + 2 != k + 3 * (i : Int) + 1 + 1) = false := by simp; omega
    have e3 : (k + 3 * (i : Int) != k + 3 * (i : Int)) = false := by simp
    have e4 : (k + 3 * (i : Int) + 1 != k + 3 * (i : Int) + 1) = false := by simp
    rw [e3, cond_false, e4, cond_false, e2, cond_false, e1]
  · rw [Nat.zero_add]
    unfold Lfl_heldFactS_0
    dsimp only
    have c1 : decide ((n : Int) < ((markF k n).length : Int)) = false := decide_eq_false (by omega)
    rw [c1, cond_false]
theorem expd_len (lines : Int) (l : List DReq) (rs : List DRep) : (expd lines l rs).length ≤ rs.length := by
  unfold expd
  split
  · exact (expS_len lines l rs).2
  · simp
theorem p_FnExactExpected (x : Int) (l : List DReq) (rs : List DRep) (hb : l.length ≤ 9223372036854775807) (hb' : rs.length ≤ 9223372036854775807) : fl_FnExactExpected x l rs = some true := by
  unfold fl_FnExactExpected
  rw [p_szRequestS l _ hb (by omega) (by omega), bindS]
  by_cases c : (1048576 : Int) < l.length
  · rw [if_pos c]; rfl
  · rw [if_neg c]
    have c1 : decide ((1048576 : Int) - (l.length : Int) < 0) = false := decide_eq_false (by omega)
    rw [c1, cond_false, p_szReplyS rs _ hb' (by omega) (by omega), bindS]
    by_cases c' : (1048576 : Int) - l.length < rs.length
    · rw [if_pos c']; rfl
    · rw [if_neg c']
      have h : l.length < 1073741820 := by omega
      have h' : rs.length < 1073741820 := by omega
      have c2 : decide ((1048576 : Int) - (l.length : Int) - (rs.length : Int) < 0) = false := decide_eq_false (by omega)
      have hx := expd_len x l rs
      obtain ⟨l', m1⟩ := p_markRequestS l 1 (by omega) (by omega) (by omega)
      obtain ⟨rs', m2⟩ := p_markReplyS rs (1 + 6 * (l.length : Int)) (by omega) (by omega) (by omega)
      have c3 : decide (1 + 6 * (l.length : Int) + 4 * (rs.length : Int) < 0) = false := decide_eq_false (by omega)
      have c4 : decide (1 + 3 * ((expd x l rs).length : Int) < 0) = false := decide_eq_false (by omega)
      have hmk := p_markFactS (expd x l rs) 1 (by omega) (by omega) (by omega)
      have hhd := p_heldFactS 1 (expd x l rs).length (by omega) (by omega) (by omega)
      have hq := p_eqFactS (expd x l rs) (by omega)
      simp only [c2, cond_false, p_toRequestS l (by omega), p_toReplyS rs (by omega), p_sExpected x l rs h h', p_iExpected x l rs h h', bindS, hq, Bool.not_true, p_eqRequestS l (by omega), p_eqReplyS rs (by omega), m1, m2, c3, hmk, hhd, c4]
      simp
theorem law_FnExactExpected (v0 v1 v2 : Value) (w : World) (r0 : RdInt w v0) (r1 : RdL .Req inReq w v1) (r2 : RdL .Rep inRep w v2) : Calls Try.prog 13 #[v0, v1, v2] w fun e w' => e = .returned (.bool true) ∧ Below w.heap.size w w' := by
  obtain ⟨x, rfl, _, _⟩ := r0
  obtain ⟨l, hl, _, h0⟩ := r1
  obtain ⟨rs, hr, _, h1⟩ := r2
  unfold maxLen at hl hr
  exact law_of ok_fl_FnExactExpected (ctrT_run (ai := [(false, .int), (false, .sl .Req), (false, .sl .Rep)]) (x := (x, l, rs, ())) (by kernel_rfl) (p_FnExactExpected x l rs hl hr)) (args3 (.int _ _ _) h0 h1)
end Go.Proofs.Ytkgliadgedamiaa
