/-
  Regions and code by contents: they follow. Nothing here is a claim.
-/
import Derived.Test.YtkgliadgedamiaaAvPF
namespace Go.Proofs.Ytkgliadgedamiaa
open Go.RowKit
set_option linter.unusedVariables false

section
variable {P : Program} {w w' w0 : World} {B N : Nat} {lab lab' : Lab} {ρ ρ' : Nat → Loc} {σ : S} {a : Act} {X : Type} {d : Nat} {r : X} {o : Oper} {Φ : Ctrs} {Λ : Blks}

theorem splitK_ok {dst : Option Tmp} {g : Bool} {k : S → Option X} (h : splitK σ dst g k = some r) : ∃ σ', k σ' = some r ∧ ∀ a w, R w0 N σ a w → R w0 N σ' a w := by
  unfold splitK at h
  cases g with
  | false => exact ⟨σ, h, fun _ _ h => h⟩
  | true =>
    rw [cond_true] at h
    split at h
    · rename_i d
      split at h
      · rename_i b hb
        have key : ∀ c : Bool, b = c → ∀ a w, R w0 N σ a w → R w0 N (σ.set d (.lf (.v (.bool c)))) a w := by
          rintro c rfl a w ⟨lab, ρ, hR⟩
          refine ⟨lab, ρ, hR.below, hR.lab_ge, hR.root, fun k => ?_, hR.size, hR.defers⟩
          show RA w w0.heap.size lab ρ (upd σ.t d (.lf (.v (.bool b))) k) _
          by_cases hk : k = d
          · subst hk
            rw [upd_same, ← hb]
            exact hR.tmp k
          · rw [upd_ne _ _ _ hk]
            exact hR.tmp k
        cases b with
        | true => exact ⟨_, h, key true rfl⟩
        | false => exact ⟨_, h, key false rfl⟩
      · exact ⟨σ, h, fun _ _ h => h⟩
    · exact ⟨σ, h, fun _ _ h => h⟩
theorem regK_ok (hΦ : CtrsOK P Φ) (ops : Array Oper) : ∀ (rest : List Oper) (j : Nat) (σ : S) (k : S → Option X), regK P N Φ ops j rest σ k = some r → ∃ σ', k σ' = some r ∧ ∀ a w, R w0 N σ a w → ∀ Q, (∀ a' w', R w0 N σ' a' w' → Q Exit.normal a' w') → wpList P ops Q rest a w
  | [], j, σ, k, h => ⟨σ, h, fun a w hR Q hQ => hQ a w hR⟩
  | o :: rest, j, σ, k, h => by
    unfold regK at h
    split at h
    · rename_i hwant
      obtain ⟨σ1, h1, hop⟩ := opK_ok (w0 := w0) hΦ h
      obtain ⟨σ2, h2, hsp⟩ := splitK_ok (w0 := w0) (N := N) h1
      obtain ⟨σ3, h3, hrest⟩ := regK_ok hΦ ops rest (j + 1) σ2 k h2
      refine ⟨σ3, h3, fun a w hR Q hQ => ?_⟩
      obtain ⟨lab, ρ, hR'⟩ := hR
      simp only [wpList, wantK_ok hwant hR', if_true]
      exact .inl (hop a w _ Q ⟨lab, ρ, hR'⟩ fun a' w' hR1 => hrest a' w' (hsp a' w' hR1) Q hQ)
    · rename_i hwant
      unfold putK at h
      split at h
      · rename_i hd
        obtain ⟨σ3, h3, hrest⟩ := regK_ok hΦ ops rest (j + 1) σ k h
        refine ⟨σ3, h3, fun a w hR Q hQ => ?_⟩
        obtain ⟨lab, ρ, hR'⟩ := hR
        simp only [wpList, wantK_ok hwant hR', hd]
        exact hrest a w ⟨lab, ρ, hR'⟩ Q hQ
      · rename_i d hd
        cases hN : Nat.blt d N with
        | false => rw [hN] at h; cases h
        | true =>
          rw [hN, cond_true] at h
          obtain ⟨σ3, h3, hrest⟩ := regK_ok hΦ ops rest (j + 1) _ k h
          refine ⟨σ3, h3, fun a w hR Q hQ => ?_⟩
          obtain ⟨lab, ρ, hR'⟩ := hR
          simp only [wpList, wantK_ok hwant hR', hd]
          exact hrest _ w ⟨lab, ρ, hR'.set rfl (by have := Nat.le_of_ble_eq_true hN; omega)⟩ Q hQ
    · cases h

theorem codeK_ok (hΦ : CtrsOK P Φ) : ∀ (c : Code) (σ : S) (k : Exit → S → Option X), codeK P N Φ Λ c σ k = some r → BlksOK P N Λ (occs c) → AW P w0 N c σ fun e σ' => k e σ' = some r := by
  intro c
  induction c with
  | skip => exact fun σ k h _ a w hR => wp_skip ⟨σ, h, hR⟩
  | label l => exact fun σ k h _ a w hR => wp_label ⟨σ, h, hR⟩
  | ret => exact fun σ k h _ a w hR => wp_ret ⟨σ, h, hR⟩
  | exit id => exact fun σ k h _ a w hR => wp_exit ⟨σ, h, hR⟩
  | region id ops draw =>
    intro σ k h _ a w hR
    cases draw with
    | true =>
      simp only [codeK] at h
      cases hm : P.follows .mixedOrders with
      | false => rw [hm] at h; cases h
      | true =>
        rw [hm, cond_true] at h
        exact region_ok hΦ hm h (fun τ hτ a w hR => ⟨τ, hτ, hR⟩) hR
    | false =>
      simp only [codeK] at h
      obtain ⟨σ', h', hw⟩ := regK_ok (w0 := w0) hΦ ops _ _ _ _ h
      exact wp_region_list (hw a w hR _ fun a' w' hR' => ⟨σ', h', hR'⟩)
  | seq x y ihx ihy =>
    intro σ k h hΛ a w hR
    simp only [codeK] at h
    have h1 := ihx σ _ h (fun p hp => hΛ p (List.mem_append_left _ hp))
    refine wp_seq (wp_mono (h1 a w hR) fun e a' w' he => ?_)
    obtain ⟨σ', hk, hR'⟩ := he
    cases e with
    | normal => exact ihy σ' k hk (fun p hp => hΛ p (List.mem_append_right _ hp)) a' w' hR'
    | _ => exact ⟨σ', hk, hR'⟩
  | cond c x y ihx ihy =>
    intro σ k h hΛ a w hR
    simp only [codeK] at h
    split at h
    · rename_i b hb
      obtain ⟨lab, ρ, hR'⟩ := hR
      have hc := hR'.opd c
      rw [hb] at hc
      have hcv := hc.2.bool_inv
      cases b with
      | true => exact wp_cond_true hcv (ihx σ k h (fun p hp => hΛ p (List.mem_append_left _ hp)) a w ⟨lab, ρ, hR'⟩)
      | false => exact wp_cond_false hcv (ihy σ k h (fun p hp => hΛ p (List.mem_append_right _ hp)) a w ⟨lab, ρ, hR'⟩)
    · cases h
  | block id c ih =>
    intro σ k h hΛ a w hR
    simp only [codeK] at h
    split at h
    · rename_i b hb
      exact hΛ (id, c) (.head _) b hb X σ k r w0 h a w hR
    · have h1 := ih σ _ h (fun p hp => hΛ p (.tail _ hp))
      refine wp_block (wp_mono (h1 a w hR) fun e a' w' he => ?_)
      obtain ⟨σ', hk, hR'⟩ := he
      cases e with
      | exit id' =>
        simp only [Exit.inBlock]
        by_cases hid : id' = id
        · simp only [hid, if_true] at hk ⊢
          exact ⟨σ', hk, hR'⟩
        · simp only [hid, if_false] at hk ⊢
          exact ⟨σ', hk, hR'⟩
      | _ => exact ⟨σ', hk, hR'⟩
  | _ => exact fun σ k h => by simp [codeK] at h
end

/-! What a loop carries. -/
inductive Lm where
  | int (k : IntKind)
  | bool
  | str
  | own (r : Nat)
  | fro (t : TC) (o : Nat)
def Lm.T : Lm → Type
  | .int _ => Int
  | .bool => Bool
  | .str => ByteArray
  | .own _ => Unit
  | .fro t _ => List (Proofs.Ytkgliadgedamiaa.T t)
def Lm.mk : (m : Lm) → m.T → Lf
  | .int k, n => .v (.int k n)
  | .bool, b => .v (.bool b)
  | .str, s => .v (.str s)
  | .own r, _ => .own [r]
  | .fro t o, l => .v (.sl t o false l)
def Lm.rd : (m : Lm) → Lf → Option m.T
  | .int k, .v (.int k' n) => if k' = k then some n else none
  | .bool, .v (.bool b) => some b
  | .str, .v (.str s) => some s
  | .own r, .own [r'] => bif Nat.beq r' r then some () else none
  | .fro t o, .v x => bif Nat.blt o 2 then x.asL t o else none
  | _, _ => none
inductive Tm where
  | lf (m : Lm)
  | bptr (r j : Nat)
def Tm.T : Tm → Type
  | .lf m => m.T
  | .bptr _ _ => Unit
def Tm.mk : (m : Tm) → m.T → A
  | .lf m, x => .lf (m.mk x)
  | .bptr r j, _ => .bptr r j
def Tm.rd : (m : Tm) → A → Option m.T
  | .lf m, .lf x => m.rd x
  | .bptr r j, .bptr r' j' => bif Nat.beq r' r && Nat.beq j' j then some () else none
  | _, _ => none
def LmsT : List Lm → Type
  | [] => Unit
  | m :: ms => m.T × LmsT ms
def lmsMk : (ms : List Lm) → LmsT ms → List Lf
  | [], _ => []
  | m :: ms, x => m.mk x.1 :: lmsMk ms x.2
def lmsRd : (ms : List Lm) → List Lf → Option (LmsT ms)
  | [], [] => some ()
  | m :: ms, x :: xs => match m.rd x, lmsRd ms xs with
    | some y, some ys => some (y, ys)
    | _, _ => none
  | _, _ => none
inductive Rm where
  | sl (t : TC) (o : Nat)
  | st (t : TC)
  | blk (ms : List Lm)
def Rm.T : Rm → Type
  | .sl t _ => List (Proofs.Ytkgliadgedamiaa.T t)
  | .st t => Proofs.Ytkgliadgedamiaa.T t
  | .blk ms => LmsT ms
def Rm.mk : (m : Rm) → m.T → Root
  | .sl t o, l => .sl (.sl t o false l)
  | .st t, x => .blk ((enc t 0 x).map .v)
  | .blk ms, x => .blk (lmsMk ms x)
def Rm.rd : (m : Rm) → Root → Option m.T
  | .sl t o, .sl y => y.asL t o
  | .st t, .blk cs => (match lfVs cs with
    | some vs => dec t 0 vs
    | none => none)
  | .blk ms, .blk cs => lmsRd ms cs
  | _, _ => none
def TmsT : List (Nat × Tm) → Type
  | [] => Unit
  | (_, m) :: ms => m.T × TmsT ms
def tmsMk : (ms : List (Nat × Tm)) → TmsT ms → Nat → A
  | [], _, _ => .undef
  | (n, m) :: ms, x, k => bif Nat.beq k n then m.mk x.1 else tmsMk ms x.2 k
def tmsRd : (ms : List (Nat × Tm)) → (Nat → A) → Option (TmsT ms)
  | [], _ => some ()
  | (n, m) :: ms, t => match m.rd (t n), tmsRd ms t with
    | some x, some xs => some (x, xs)
    | _, _ => none
def RmsT : List (Nat × Rm) → Type
  | [] => Unit
  | (_, m) :: ms => m.T × RmsT ms
def rmsMk : (ms : List (Nat × Rm)) → RmsT ms → Nat → Option Root
  | [], _, _ => none
  | (n, m) :: ms, x, k => bif Nat.beq k n then some (m.mk x.1) else rmsMk ms x.2 k
def rmsRd : (ms : List (Nat × Rm)) → (Nat → Option Root) → Option (RmsT ms)
  | [], _ => some ()
  | (n, m) :: ms, t => match (t n).bind m.rd, rmsRd ms t with
    | some x, some xs => some (x, xs)
    | _, _ => none
structure Tpl where
  ts : List (Nat × Tm)
  rs : List (Nat × Rm)
def Tpl.St (τ : Tpl) : Type := TmsT τ.ts × RmsT τ.rs
def Tpl.mk' (τ : Tpl) (x : τ.St) : S := ⟨tmsMk τ.ts x.1, rmsMk τ.rs x.2⟩
def Tpl.rd (τ : Tpl) (σ : S) : Option τ.St := match tmsRd τ.ts σ.t, rmsRd τ.rs σ.m with
  | some x, some y => some (x, y)
  | _, _ => none

section
variable {P : Program} {w w' w0 : World} {B N : Nat} {lab lab' : Lab} {ρ ρ' : Nat → Loc} {σ : S} {a : Act} {X : Type} {d : Nat} {r : X} {o : Oper} {Φ : Ctrs} {Λ : Blks}

theorem Lm.rd_ok {m : Lm} {x : Lf} {y : m.T} (h : m.rd x = some y) {u : Value} (hu : RLf w B lab ρ x u) : RLf w B lab ρ (m.mk y) u := by
  unfold Lm.rd at h
  split at h
  · split at h
    · rename_i hk; subst hk; injection h with h; subst h; exact hu
    · cases h
  · injection h with h; subst h; exact hu
  · injection h with h; subst h; exact hu
  · rename_i r' r''
    cases hb : Nat.beq r'' r' with
    | false => rw [hb] at h; cases h
    | true => obtain rfl := Nat.eq_of_beq_eq_true hb; exact hu
  · rename_i t o x
    cases hb : Nat.blt o 2 with
    | false => rw [hb] at h; cases h
    | true =>
      rw [hb] at h
      have h : V.asL t o x = some y := h
      have := Nat.le_of_ble_eq_true hb
      exact ⟨by simp [V.fro]; omega, hu.2.wk (V.asL_ok h)⟩
  · cases h
theorem Tm.rd_ok {m : Tm} {x : A} {y : m.T} (h : m.rd x = some y) {u : Value} (hu : RA w B lab ρ x u) : RA w B lab ρ (m.mk y) u := by
  cases m with
  | lf m =>
    cases x with
    | lf x => exact Lm.rd_ok (m := m) h hu
    | _ => cases h
  | bptr r j =>
    cases x with
    | bptr r' j' =>
      have h : (bif Nat.beq r' r && Nat.beq j' j then some () else none) = some y := h
      cases hb : (Nat.beq r' r && Nat.beq j' j) with
      | false => rw [hb] at h; cases h
      | true =>
        rw [Bool.and_eq_true] at hb
        obtain rfl := Nat.eq_of_beq_eq_true hb.1
        obtain rfl := Nat.eq_of_beq_eq_true hb.2
        exact hu
    | _ => cases h
theorem lmsRd_ok : ∀ (ms : List Lm) (cs : List Lf) (y : LmsT ms), lmsRd ms cs = some y → (lmsMk ms y).length = cs.length ∧ ∀ (j : Nat) x, (lmsMk ms y)[j]? = some x → ∃ z, cs[j]? = some z ∧ (∀ (w : World) (B : Nat) (lab : Lab) (ρ : Nat → Loc) (u : Value), RLf w B lab ρ z u → RLf w B lab ρ x u)
  | [], [], y, h => ⟨rfl, fun j x hx => by simp [lmsMk] at hx⟩
  | m :: ms, c :: cs, y, h => by
    unfold lmsRd at h
    split at h
    · rename_i y1 ys h1 h2
      injection h with h
      subst h
      obtain ⟨k1, k2⟩ := lmsRd_ok ms cs ys h2
      refine ⟨by simp [lmsMk, k1], fun j x hx => ?_⟩
      cases j with
      | zero => simp [lmsMk] at hx; subst hx; exact ⟨c, rfl, fun w B lab ρ u hu => Lm.rd_ok h1 hu⟩
      | succ j => exact k2 j x (by simpa [lmsMk] using hx)
    · cases h
  | [], _ :: _, y, h => by simp [lmsRd] at h
  | _ :: _, [], y, h => by simp [lmsRd] at h
theorem Rm.rd_ok {m : Rm} {x : Root} {y : m.T} (h : m.rd x = some y) {n : Nat} (hx : RootOK w B lab ρ n x) : RootOK w B lab ρ n (m.mk y) := by
  cases m with
  | sl t o =>
    cases hx with
    | sl v y' hρ hr => exact .sl v _ hρ (hr.wk (V.asL_ok h))
    | blk => cases h
  | st t =>
    cases hx with
    | sl => cases h
    | blk b off cells e cs us hρ hl hh hs hc =>
      have h : (match lfVs cs with | some vs => dec t 0 vs | none => none) = some y := h
      cases hvs : lfVs cs with
      | none => rw [hvs] at h; cases h
      | some vs =>
        rw [hvs] at h
        have h : dec t 0 vs = some y := h
        have hcs := lfVs_ok _ _ hvs
        have hk := dec_ok t 0 vs y h
        refine .blk b off cells e _ us hρ hl hh (by rw [List.length_map, ← hk.1]; rw [hcs, List.length_map] at hs; exact hs) fun j x hx => ?_
        rw [List.getElem?_map] at hx
        cases hz : (enc t 0 y)[j]? with
        | none => rw [hz] at hx; cases hx
        | some z =>
          rw [hz] at hx
          injection hx with hx
          subst hx
          have hj : j < vs.length := by rw [hk.1]; exact (List.getElem?_eq_some_iff.1 hz).1
          have hv := List.getElem?_eq_getElem hj
          obtain ⟨h1, h2⟩ := hc j (.v vs[j]) (by rw [hcs, List.getElem?_map, hv]; rfl)
          exact ⟨h1, enc_fro t 0 y (by omega) j z hz, h2.2.wk (hk.2 j _ z hv hz)⟩
  | blk ms =>
    cases hx with
    | sl => cases h
    | blk b off cells e cs us hρ hl hh hs hc =>
      obtain ⟨k1, k2⟩ := lmsRd_ok ms cs y h
      refine .blk b off cells e _ us hρ hl hh (by show off + (lmsMk ms y).length ≤ _; rw [k1]; exact hs) fun j x hx => ?_
      obtain ⟨z, hz, hm⟩ := k2 j x hx
      exact ⟨(hc j z hz).1, hm _ _ _ _ _ (hc j z hz).2⟩
theorem tmsRd_ok : ∀ (ms : List (Nat × Tm)) (t : Nat → A) (y : TmsT ms), tmsRd ms t = some y → ∀ k, tmsMk ms y k = .undef ∨ ∃ m z, (Tm.rd m (t k) = some z ∧ tmsMk ms y k = m.mk z)
  | [], t, y, h, k => .inl rfl
  | (n, m) :: ms, t, y, h, k => by
    unfold tmsRd at h
    split at h
    · rename_i x xs h1 h2
      injection h with h
      subst h
      by_cases hk : k = n
      · subst hk
        exact .inr ⟨m, x, h1, by simp [tmsMk]⟩
      · have hb : Nat.beq k n = false := by
          cases hb : Nat.beq k n with
          | false => rfl
          | true => exact absurd (Nat.eq_of_beq_eq_true hb) hk
        simp only [tmsMk, hb, cond_false]
        exact tmsRd_ok ms t xs h2 k
    · cases h
theorem rmsRd_ok : ∀ (ms : List (Nat × Rm)) (t : Nat → Option Root) (y : RmsT ms), rmsRd ms t = some y → ∀ k, rmsMk ms y k = none ∨ ∃ m x z, t k = some x ∧ Rm.rd m x = some z ∧ rmsMk ms y k = some (m.mk z)
  | [], t, y, h, k => .inl rfl
  | (n, m) :: ms, t, y, h, k => by
    unfold rmsRd at h
    split at h
    · rename_i x xs h1 h2
      injection h with h
      subst h
      by_cases hk : k = n
      · subst hk
        cases ht : t k with
        | none => rw [ht] at h1; cases h1
        | some z => rw [ht] at h1; exact .inr ⟨m, z, x, rfl, h1, by simp [rmsMk]⟩
      · have hb : Nat.beq k n = false := by
          cases hb : Nat.beq k n with
          | false => rfl
          | true => exact absurd (Nat.eq_of_beq_eq_true hb) hk
        simp only [rmsMk, hb, cond_false]
        exact rmsRd_ok ms t xs h2 k
    · cases h
theorem Tpl.rd_ok {τ : Tpl} {x : τ.St} (h : τ.rd σ = some x) (hR : R w0 N σ a w) : R w0 N (τ.mk' x) a w := by
  unfold Tpl.rd at h
  split at h
  · rename_i u v h1 h2
    injection h with h
    subst h
    obtain ⟨lab, ρ, hR⟩ := hR
    refine ⟨lab, ρ, hR.below, hR.lab_ge, fun n y hy => ?_, fun k => ?_, hR.size, hR.defers⟩
    · have hy : rmsMk τ.rs v n = some y := hy
      rcases rmsRd_ok τ.rs σ.m v h2 n with e | ⟨m, x, z, e1, e2, e3⟩
      · rw [e] at hy; cases hy
      · rw [e3] at hy
        injection hy with hy
        subst hy
        exact Rm.rd_ok e2 (hR.root n x e1)
    · show RA _ _ _ _ (tmsMk τ.ts u k) _
      rcases tmsRd_ok τ.ts σ.t u h1 k with e | ⟨m, z, e1, e2⟩
      · rw [e]; trivial
      · rw [e2]; exact Tm.rd_ok e1 (hR.tmp k)
  · cases h
end
end Go.Proofs.Ytkgliadgedamiaa
