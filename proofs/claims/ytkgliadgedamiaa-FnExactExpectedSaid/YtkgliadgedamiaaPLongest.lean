/-
  The law of the longest wait: what both functions compute. Nothing here is a claim.
-/
import Derived.Test.YtkgliadgedamiaaG1
import Derived.Test.YtkgliadgedamiaaPl
import Derived.Test.YtkgliadgedamiaaOpenV
namespace Go.Proofs.Ytkgliadgedamiaa
open Go.RowKit
set_option linter.unusedVariables false
set_option maxRecDepth 100000

theorem p_toRequestS (l : List DReq) (h : l.length < 1073741824) : fl_toRequestS l = some l := by
  have e : iter Lfl_toRequestS_0 big ((l, (), (0 : Int), ()), ((List.replicate (l.length : Int).toNat (⟨(0 : Int), (0 : Int), (0 : Int), false, (0 : Int), (0 : Int)⟩ : DReq)), ())) = some (.inl (((), ()), (l, ()))) := copyL _ fl_toRequest (fun _ => rfl) l h
  unfold fl_toRequestS
  rw [if_pos ⟨by omega, by omega, by omega⟩, e]
  rfl
theorem p_toReplyS (l : List DRep) (h : l.length < 1073741824) : fl_toReplyS l = some l := by
  have e : iter Lfl_toReplyS_0 big ((l, (), (0 : Int), ()), ((List.replicate (l.length : Int).toNat (⟨(0 : Int), (0 : Int), (0 : Int), (0 : Int)⟩ : DRep)), ())) = some (.inl (((), ()), (l, ()))) := copyL _ fl_toReply (fun _ => rfl) l h
  unfold fl_toReplyS
  rw [if_pos ⟨by omega, by omega, by omega⟩, e]
  rfl
theorem p_eqRequestS (l : List DReq) (h : l.length < 1073741824) : fl_eqRequestS l l = some true := by
  have e : iter Lfl_eqRequestS_0 big ((l, l, (0 : Int), ()), ()) = some (.inr (.inl ((), ()))) := eqLoop fl_eqRequest (fun x => by simp [fl_eqRequest]) l h
  unfold fl_eqRequestS
  rw [e]
  simp
theorem p_eqReplyS (l : List DRep) (h : l.length < 1073741824) : fl_eqReplyS l l = some true := by
  have e : iter Lfl_eqReplyS_0 big ((l, l, (0 : Int), ()), ()) = some (.inr (.inl ((), ()))) := eqLoop fl_eqReply (fun x => by simp [fl_eqReply]) l h
  unfold fl_eqReplyS
  rw [e]
  simp
theorem find_none {α : Type} {p : α → Bool} {l : List α} (h : ∀ j (hj : j < l.length), p l[j] = false) : l.find? p = none := by
  rw [List.find?_eq_none]
  intro x hx
  obtain ⟨j, hj, rfl⟩ := List.mem_iff_getElem.1 hx
  rw [h j hj]; simp
theorem find_at {α : Type} {p : α → Bool} {l : List α} {i : Nat} (hi : i < l.length) (h : ∀ j (hj : j < i), p (l[j]'(by omega)) = false) (hp : p l[i] = true) : l.find? p = some l[i] := by
  rw [List.find?_eq_some_iff_getElem]
  exact ⟨hp, i, hi, rfl, fun j hj => by rw [h j hj]; rfl⟩
theorem p_requestOf (l : List DReq) (id : Int) (h : l.length < 1073741824) : fi_requestOf l id = some (match l.find? (fun r => r.id == id) with | some r => (r, true) | none => ((⟨0, 0, 0, false, 0, 0⟩ : DReq), false)) := by
  unfold fi_requestOf
  obtain ⟨z, h1, h2⟩ := iter_ind (step := Lfi_requestOf_0)
    (fun x => ∃ i : Nat, x = ((id, (), l, (l.length : Int), (i : Int), ()), (((0 : Int), (0 : Int), (0 : Int), false, (0 : Int), (0 : Int), ()), ())) ∧ i ≤ l.length ∧ ∀ j (hj : j < i) (hl : j < l.length), ((l[j]'hl).id == id) = false)
    (fun x => l.length - x.1.2.2.2.2.1.toNat)
    (fun z => (Sum.elim (fun z3 => some ((⟨z3.2.1.1, z3.2.1.2.1, z3.2.1.2.2.1, z3.2.1.2.2.2.1, z3.2.1.2.2.2.2.1, z3.2.1.2.2.2.2.2.1⟩ : DReq), z3.1.2.1)) (Sum.elim (fun z4 => some ((⟨(0 : Int), (0 : Int), (0 : Int), false, (0 : Int), (0 : Int)⟩ : DReq), false)) (fun z => nomatch z)) z) = some (match l.find? (fun r => r.id == id) with | some r => (r, true) | none => ((⟨0, 0, 0, false, 0, 0⟩ : DReq), false))) (by
      rintro x ⟨i, rfl, hi, hj⟩
      unfold Lfi_requestOf_0
      dsimp only
      by_cases h' : i < l.length
      · have c1 : decide ((i : Int) < (l.length : Int)) = true := by simpa using h'
        have c2 : 0 ≤ (i : Int) ∧ (i : Int).toNat < l.length := ⟨by omega, by simpa using h'⟩
        rw [c1, cond_true, dif_pos c2]
        simp only [Int.toNat_natCast]
        cases hp : (l[i].id == id) with
        | true =>
          right
          refine ⟨_, by rw [cond_true], ?_⟩
          rw [find_at (p := fun r => r.id == id) h' (fun j hj' => hj j hj' (by omega)) hp]
          rfl
        | false =>
          left
          refine ⟨_, by rw [cond_false], ⟨i + 1, ?_, by omega, fun j hj' hl => ?_⟩, ?_⟩
          · rw [w64 (by omega) (by omega)]
            simp
          · by_cases e : j = i
            · subst e; exact hp
            · exact hj j (by omega) hl
          · dsimp only
            rw [w64 (by omega) (by omega)]
            omega
      · right
        have c1 : decide ((i : Int) < (l.length : Int)) = false := by simpa using h'
        rw [c1, cond_false]
        refine ⟨_, rfl, ?_⟩
        rw [find_none (p := fun r => r.id == id) (fun j hjl => hj j (by omega) hjl)]
        rfl)
    big _ ⟨0, rfl, by omega, fun j h => by omega⟩ (by dsimp only; unfold big; omega)
  have h1 : iter Lfi_requestOf_0 big ((id, (), l, (l.length : Int), (0 : Int), ()), (((0 : Int), (0 : Int), (0 : Int), false, (0 : Int), (0 : Int), ()), ())) = some z := h1
  rw [h1]
  exact h2
/-- The place of the first request with a number. -/
def place (l : List DReq) (id : Int) : Int := match l.findIdx? (fun r => r.id == id) with
  | some i => (i : Int)
  | none => -1
theorem p_l19At (l : List DReq) (id : Int) (h : l.length < 1073741824) : fs_l19At l id = some (place l id) := by
  unfold fs_l19At
  obtain ⟨z, h1, h2⟩ := iter_ind (step := Lfs_l19At_0)
    (fun x => ∃ i : Nat, x = ((l, id, (i : Int), ()), ()) ∧ i ≤ l.length ∧ ∀ j (hj : j < i) (hl : j < l.length), ((l[j]'hl).id == id) = false)
    (fun x => l.length - x.1.2.2.1.toNat)
    (fun z => (Sum.elim (fun z3 => some z3.1.1) (Sum.elim (fun z4 => some (-1 : Int)) (fun z => nomatch z)) z) = some (place l id)) (by
      rintro x ⟨i, rfl, hi, hj⟩
      unfold Lfs_l19At_0
      dsimp only
      by_cases h' : i < l.length
      · have c1 : decide ((i : Int) < (l.length : Int)) = true := by simpa using h'
        have c2 : 0 ≤ (i : Int) ∧ (i : Int).toNat < l.length := ⟨by omega, by simpa using h'⟩
        rw [c1, cond_true, dif_pos c2]
        simp only [Int.toNat_natCast]
        cases hp : (l[i].id == id) with
        | true =>
          right
          refine ⟨_, by rw [cond_true], ?_⟩
          have : l.findIdx? (fun r => r.id == id) = some i := by
            rw [List.findIdx?_eq_some_iff_getElem]
            exact ⟨h', hp, fun j hj' => by rw [hj j hj' (by omega)]; simp⟩
          unfold place
          rw [this]
          rfl
        | false =>
          left
          refine ⟨_, by rw [cond_false], ⟨i + 1, ?_, by omega, fun j hj' hl => ?_⟩, ?_⟩
          · rw [w64 (by omega) (by omega)]
            simp
          · by_cases e : j = i
            · subst e; exact hp
            · exact hj j (by omega) hl
          · dsimp only
            rw [w64 (by omega) (by omega)]
            omega
      · right
        have c1 : decide ((i : Int) < (l.length : Int)) = false := by simpa using h'
        rw [c1, cond_false]
        refine ⟨_, rfl, ?_⟩
        have : l.findIdx? (fun r => r.id == id) = none := by
          rw [List.findIdx?_eq_none_iff]
          intro x hx
          obtain ⟨j, hjl, rfl⟩ := List.mem_iff_getElem.1 hx
          exact hj j (by omega) hjl
        unfold place
        rw [this]
        rfl)
    big _ ⟨0, rfl, by omega, fun j h => by omega⟩ (by dsimp only; unfold big; omega)
  have h1 : iter Lfs_l19At_0 big ((l, id, (0 : Int), ()), ()) = some z := h1
  rw [h1]
  exact h2
/-- One reply more. -/
def waitOf (l : List DReq) (most : Int) (x : DRep) : Int := match l.find? (fun r => r.id == x.id) with
  | some r => if IntKind.i64.wrap (x.at_ - r.at_) > most then IntKind.i64.wrap (x.at_ - r.at_) else most
  | none => most
theorem take_foldl {α β : Type} (f : β → α → β) (b : β) (l : List α) (i : Nat) (h : i < l.length) : (l.take (i + 1)).foldl f b = f ((l.take i).foldl f b) l[i] := by
  rw [List.take_add_one, List.foldl_append, List.getElem?_eq_getElem h]
  rfl
theorem p_iLongest (l : List DReq) (rs : List DRep) (h : l.length < 1073741824) (h' : rs.length < 1073741824) : fi_LongestWait l rs = some (rs.foldl (waitOf l) 0) := by
  unfold fi_LongestWait
  obtain ⟨z, h1, h2⟩ := iter_ind (step := Lfi_LongestWait_0)
    (fun x => ∃ i : Nat, x = ((l, (rs.take i).foldl (waitOf l) 0, rs, (rs.length : Int), (i : Int), ()), ()) ∧ i ≤ rs.length)
    (fun x => rs.length - x.1.2.2.2.2.1.toNat)
    (fun z => (Sum.elim (fun z4 => some z4.1.1) (fun z => nomatch z) z) = some (rs.foldl (waitOf l) 0)) (by
      rintro x ⟨i, rfl, hi⟩
      unfold Lfi_LongestWait_0
      dsimp only
      by_cases hlt : i < rs.length
      · have c1 : decide ((i : Int) < (rs.length : Int)) = true := by simpa using hlt
        have c2 : 0 ≤ (i : Int) ∧ (i : Int).toNat < rs.length := ⟨by omega, by simpa using hlt⟩
        rw [c1, cond_true, dif_pos c2]
        simp only [Int.toNat_natCast]
        rw [p_requestOf l _ h, bindS]
        left
        cases hf : l.find? (fun r => r.id == rs[i].id) with
        | some r =>
          simp only [cond_true]
          refine ⟨_, rfl, ⟨i + 1, ?_, by omega⟩, ?_⟩
          · rw [w64 (n := (i : Int) + 1) (by omega) (by omega), take_foldl _ _ _ _ hlt]
            conv => rhs; unfold waitOf
            rw [hf]
            rfl
          · dsimp only
            rw [w64 (n := (i : Int) + 1) (by omega) (by omega)]
            omega
        | none =>
          simp only [cond_false]
          refine ⟨_, rfl, ⟨i + 1, ?_, by omega⟩, ?_⟩
          · rw [w64 (n := (i : Int) + 1) (by omega) (by omega), take_foldl _ _ _ _ hlt]
            conv => rhs; unfold waitOf
            rw [hf]
            rfl
          · dsimp only
            rw [w64 (n := (i : Int) + 1) (by omega) (by omega)]
            omega
      · right
        have c1 : decide ((i : Int) < (rs.length : Int)) = false := by simpa using hlt
        rw [c1, cond_false]
        refine ⟨_, rfl, ?_⟩
        have : i = rs.length := by omega
        rw [this, List.take_length]
        rfl)
    big _ ⟨0, rfl, by omega⟩ (by dsimp only; unfold big; omega)
  have h1 : iter Lfi_LongestWait_0 big ((l, (0 : Int), rs, (rs.length : Int), (0 : Int), ()), ()) = some z := h1
  rw [h1]
  exact h2
theorem p_sLongest (l : List DReq) (rs : List DRep) (h : l.length < 1073741824) (h' : rs.length < 1073741824) : fs_LongestWait l rs = some (rs.foldl (waitOf l) 0) := by
  unfold fs_LongestWait
  obtain ⟨z, h1, h2⟩ := iter_ind (step := Lfs_LongestWait_0)
    (fun x => ∃ i : Nat, x = ((l, rs, (rs.take i).foldl (waitOf l) 0, (i : Int), ()), ()) ∧ i ≤ rs.length)
    (fun x => rs.length - x.1.2.2.2.1.toNat)
    (fun z => (Sum.elim (fun z4 => some z4.1.1) (fun z => nomatch z) z) = some (rs.foldl (waitOf l) 0)) (by
      rintro x ⟨i, rfl, hi⟩
      unfold Lfs_LongestWait_0
      dsimp only
      by_cases hlt : i < rs.length
      · have c1 : decide ((i : Int) < (rs.length : Int)) = true := by simpa using hlt
        have c2 : 0 ≤ (i : Int) ∧ (i : Int).toNat < rs.length := ⟨by omega, by simpa using hlt⟩
        rw [c1, cond_true, dif_pos c2]
        simp only [Int.toNat_natCast]
        rw [p_l19At l _ h, bindS]
        left
        cases hf : l.findIdx? (fun r => r.id == rs[i].id) with
        | some k =>
          have hk := List.findIdx?_eq_some_iff_getElem.1 hf
          obtain ⟨k1, k2, k3⟩ := hk
          have hpl : place l rs[i].id = (k : Int) := by unfold place; rw [hf]
          have hfi : l.find? (fun r => r.id == rs[i].id) = some l[k] := find_at k1 (fun j hj => by simpa using k3 j hj) k2
          have c3 : decide (place l rs[i].id ≥ 0) = true := by rw [hpl]; simp
          have c4 : 0 ≤ place l rs[i].id ∧ (place l rs[i].id).toNat < l.length := by rw [hpl]; exact ⟨by omega, by simpa using k1⟩
          rw [c3, cond_true, dif_pos (⟨by omega, hlt⟩ : 0 ≤ (i : Int) ∧ i < rs.length), dif_pos c4]
          refine ⟨_, rfl, ⟨i + 1, ?_, by omega⟩, ?_⟩
          · rw [w64 (n := (i : Int) + 1) (by omega) (by omega), take_foldl _ _ _ _ hlt]
            conv => rhs; unfold waitOf
            rw [hfi]
            simp only [hpl, Int.toNat_natCast]
            rfl
          · dsimp only
            rw [w64 (n := (i : Int) + 1) (by omega) (by omega)]
            omega
        | none =>
          have hpl : place l rs[i].id = -1 := by unfold place; rw [hf]
          have hfi : l.find? (fun r => r.id == rs[i].id) = none := by
            rw [List.find?_eq_none]
            intro x hx
            have := List.findIdx?_eq_none_iff.1 hf x hx
            simpa using this
          have c3 : decide (place l rs[i].id ≥ 0) = false := by rw [hpl]; rfl
          rw [c3, cond_false]
          refine ⟨_, rfl, ⟨i + 1, ?_, by omega⟩, ?_⟩
          · rw [w64 (n := (i : Int) + 1) (by omega) (by omega), take_foldl _ _ _ _ hlt]
            conv => rhs; unfold waitOf
            rw [hfi]
            rfl
          · dsimp only
            rw [w64 (n := (i : Int) + 1) (by omega) (by omega)]
            omega
      · right
        have c1 : decide ((i : Int) < (rs.length : Int)) = false := by simpa using hlt
        rw [c1, cond_false]
        refine ⟨_, rfl, ?_⟩
        have : i = rs.length := by omega
        rw [this, List.take_length]
        rfl)
    big _ ⟨0, rfl, by omega⟩ (by dsimp only; unfold big; omega)
  have h1 : iter Lfs_LongestWait_0 big ((l, rs, (0 : Int), (0 : Int), ()), ()) = some z := h1
  rw [h1]
  exact h2
theorem p_szRequestS (l : List DReq) (n : Int) (h : l.length ≤ 9223372036854775807) (h1 : 0 ≤ n) (h2 : n ≤ 1048576) : fl_szRequestS l n = some (if n < l.length then -1 else n - l.length) := by
  unfold fl_szRequestS
  rw [w64 (by omega) (by omega)]
  by_cases hc : n < l.length
  · have : decide (n - (l.length : Int) < 0) = true := by simp; omega
    rw [this, if_pos hc]; rfl
  · have : decide (n - (l.length : Int) < 0) = false := by simp; omega
    rw [this, if_neg hc]; rfl
theorem p_szReplyS (l : List DRep) (n : Int) (h : l.length ≤ 9223372036854775807) (h1 : 0 ≤ n) (h2 : n ≤ 1048576) : fl_szReplyS l n = some (if n < l.length then -1 else n - l.length) := by
  unfold fl_szReplyS
  rw [w64 (by omega) (by omega)]
  by_cases hc : n < l.length
  · have : decide (n - (l.length : Int) < 0) = true := by simp; omega
    rw [this, if_pos hc]; rfl
  · have : decide (n - (l.length : Int) < 0) = false := by simp; omega
    rw [this, if_neg hc]; rfl
theorem p_law (l : List DReq) (rs : List DRep) (hb : l.length ≤ 9223372036854775807) (hb' : rs.length ≤ 9223372036854775807) : fl_FnExactLongestWait l rs = some true := by
  unfold fl_FnExactLongestWait
  rw [p_szRequestS l _ hb (by omega) (by omega), bindS]
  by_cases c : (1048576 : Int) < l.length
  · rw [if_pos c]; rfl
  · rw [if_neg c]
    have c1 : decide ((1048576 : Int) - (l.length : Int) < 0) = false := by simp; omega
    rw [c1, cond_false, p_szReplyS rs _ hb' (by omega) (by omega), bindS]
    by_cases c' : (1048576 : Int) - l.length < rs.length
    · rw [if_pos c']; rfl
    · rw [if_neg c']
      have h : l.length < 1073741824 := by omega
      have h' : rs.length < 1073741824 := by omega
      have c2 : decide ((1048576 : Int) - (l.length : Int) - (rs.length : Int) < 0) = false := by simp; omega
      rw [c2, cond_false, p_toRequestS l h, bindS, p_toReplyS rs h', bindS, p_sLongest l rs h h', bindS, bindS, bindS, p_iLongest l rs h h', bindS, bindS, p_eqRequestS l h, bindS, bindS, p_eqReplyS rs h', bindS]
      simp
theorem law_LongestWait (v0 v1 : Value) (w : World) (r0 : RdL .Req inReq w v0) (r1 : RdL .Rep inRep w v1) : Calls Try.prog 6 #[v0, v1] w fun e w' => e = .returned (.bool true) ∧ Below w.heap.size w w' := by
  obtain ⟨l, hl, _, h0⟩ := r0
  obtain ⟨rs, hr, _, h1⟩ := r1
  unfold maxLen at hl hr
  exact law_of ok_fl_FnExactLongestWait (ctrT_run (ai := [(false, .sl .Req), (false, .sl .Rep)]) (x := (l, rs, ())) (by kernel_rfl) (p_law l rs hl hr)) (args2 h0 h1)
end Go.Proofs.Ytkgliadgedamiaa
