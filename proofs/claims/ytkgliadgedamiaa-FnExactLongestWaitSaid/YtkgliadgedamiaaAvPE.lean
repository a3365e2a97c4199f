/-
  Regions whose order is open: what may be taken first. Nothing here is a claim.
-/
import Derived.Test.YtkgliadgedamiaaAvPD
namespace Go.Proofs.Ytkgliadgedamiaa
open Go.RowKit
set_option linter.unusedVariables false

def putS (σ : S) : Option Tmp → A → S
  | none, _ => σ
  | some d, v => σ.set d v
/-- From σ to σ' only roots with names of p were made. -/
inductive Grow (p : Nat → Bool) : S → S → Prop
  | refl (σ : S) : Grow p σ σ
  | root {σ σ' : S} (n : Nat) (x : Root) : p n = true → Grow p σ σ' → Grow p σ ((σ'.drop n).root n x)
section
variable {P : Program} {w w' w0 : World} {B N : Nat} {lab lab' : Lab} {ρ ρ' : Nat → Loc} {σ : S} {a : Act} {X : Type} {d : Nat} {r : X} {o : Oper} {Φ : Ctrs} {p : Nat → Bool}

theorem putK_eq {dst : Option Tmp} {x : A} {k : S → Option X} (h : putK N σ dst x k = some r) : k (putS σ dst x) = some r ∧ ∀ (σ2 : S), Det (fun X k => putK (X := X) N σ2 dst x k) (putS σ2 dst x) := by
  unfold putK at h
  split at h
  · exact ⟨h, fun _ X k => rfl⟩
  · rename_i d
    cases hN : Nat.blt d N with
    | false => rw [hN] at h; cases h
    | true => rw [hN] at h; exact ⟨h, fun _ X k => by simp only [putK, hN, cond_true]; rfl⟩
theorem Grow.t {σ σ' : S} (h : Grow p σ σ') {g : Nat} (hg : (σ.t g).nr p = true) : σ'.t g = σ.t g := by
  induction h with
  | refl => rfl
  | root n x hn _ ih =>
    show (A.drop n _) = _
    rw [ih]
    exact A.nr_drop hg hn
theorem Grow.opd_ {σ σ' : S} (h : Grow p σ σ') {x : Operand} (hx : (opd σ x).nr p = true) : opd σ' x = opd σ x := by
  cases x with
  | tmp t => exact h.t hx
  | const v => rfl
  | global g => rfl
  | func f => rfl
theorem Grow.val {σ σ' : S} (h : Grow p σ σ') {op : Op} {v : A} (hd : Det (fun X k => valK (X := X) P σ op k) v) (hops : ∀ y ∈ op.operands, (opd σ y).nr p = true) (hv : v.nr p = true) : Det (fun X k => valK (X := X) P σ' op k) v := by
  induction h with
  | refl => exact hd
  | root n x hn hg ih =>
    exact valK_root ih hn (fun y hy => by rw [hg.opd_ (hops y hy)]; exact hops y hy) hv
theorem Grow.trans {σ σ' σ'' : S} (h : Grow p σ σ') (h' : Grow p σ' σ'') : Grow p σ σ'' := by
  induction h' with
  | refl => exact h
  | root n x hn _ ih => exact .root n x hn ih
theorem resRt_grow : ∀ (xs : List V) (c : Nat) (σ : S), (∀ n, c ≤ n → p n = true) → Grow p σ (resRt c σ xs)
  | [], c, σ, h => .refl σ
  | x :: xs, c, σ, h => by
    simp only [resRt]
    cases hf : x.fro with
    | true => exact resRt_grow xs (c + 1) σ (fun n hn => h n (by omega))
    | false => exact .trans (.root c (.sl x) (h c (Nat.le_refl _)) (.refl σ)) (resRt_grow xs (c + 1) _ (fun n hn => h n (by omega)))
theorem resRs_grow : ∀ (ps : List Pt) (c : Nat) (σ : S), (∀ n, c ≤ n → p n = true) → Grow p σ (resRs c σ ps)
  | [], c, σ, h => .refl σ
  | q :: ps, c, σ, h => (resRt_grow q.2 c σ h).trans (resRs_grow ps _ _ (fun n hn => h n (by omega)))
theorem wantK_c {σ2 : S} {ops : Array Oper} (h : ∀ g b t, o.guard = some (g, b) → (ops[g]?).bind (·.dst) = some t → σ2.t t = σ.t t) : wantK σ2 ops o = wantK σ ops o := by
  unfold wantK
  split
  · rfl
  · rename_i g b hg
    split
    · rename_i t ht
      rw [h g b t hg ht]
    · rfl
/-- What a tame operation does. -/
structure Does (P : Program) (N : Nat) (Φ : Ctrs) (o : Oper) (p : Nat → Bool) (σ1 τ : S) where
  G : S → S
  u : A
  eq : τ = putS (G σ1) o.dst u
  run : ∀ σ2 : S, (∀ x ∈ o.op.operands, opd σ2 x = opd σ1 x) → σ2.m = σ1.m → opK P N Φ σ2 o some = some (putS (G σ2) o.dst u)
  grow : ∀ σ, Grow p σ (G σ)
  set : ∀ (σ : S) d v, (A.nr p v) = true → G (σ.set d v) = (G σ).set d v
theorem Does.new {σ1 : S} {d : Nat} (hd : o.dst = some d) (hp : p d = true) (x : Root) (u : A) {τ : S} (e : τ = ((σ1.drop d).root d x).set d u)
    (hr : ∀ σ2 : S, (∀ x ∈ o.op.operands, opd σ2 x = opd σ1 x) → opK P N Φ σ2 o some = some (((σ2.drop d).root d x).set d u)) : Nonempty (Does P N Φ o p σ1 τ) :=
  ⟨{ G := fun σ => (σ.drop d).root d x, u := u, eq := by rw [hd]; exact e, run := fun σ2 h _ => by rw [hr σ2 h, hd]; rfl, grow := fun σ => .root d x hp (.refl σ),
     set := fun σ e v hv => by rw [S.drop_set d (A.nr_drop hv hp)]; rfl }⟩
theorem opK_tame (hΦ : CtrsOK P Φ) {τ : S} (ht : tame o.op = true) (hp : ∀ n, nmOf o n = true → p n = true) (h : opK P N Φ σ o some = some τ) : Nonempty (Does P N Φ o p σ τ) := by
  have h0 := h
  unfold opK at h
  cases hv : isV o.op with
  | true =>
    rw [hv, cond_true] at h
    obtain ⟨v, h1, hd, _⟩ := valK_ok (w0 := default) (N := N) h
    obtain ⟨h2, h3⟩ := putK_eq h1
    injection h2 with h2
    refine ⟨{ G := fun σ => σ, u := v, eq := h2.symm, run := fun σ2 ho hm => ?_, grow := .refl, set := fun _ _ _ _ => rfl }⟩
    unfold opK
    rw [hv, cond_true, valK_c o.op hm ho]
    refine (hd.at_ _).trans ?_
    exact (h3 σ2).at_ _
  | false =>
    rw [hv, cond_false] at h
    have hrun : ∀ σ2, opK P N Φ σ2 o some = memK P N Φ σ2 o some := fun σ2 => by unfold opK; rw [hv, cond_false]
    unfold memK at h hrun
    unfold tame at ht
    rw [hv, Bool.false_or] at ht
    unfold nmOf at hp
    split at h
    · rename_i e ho
      obtain ⟨d, hd, h⟩ := withD_ok h
      obtain ⟨x, y, h1, _, h2⟩ := allocK_det h
      injection h1 with h1
      refine Does.new hd (hp d (by rw [hd, ho]; exact Nat.beq_refl d)) x y h1.symm fun σ2 _ => ?_
      rw [hrun, ho]
      simp only [withD, hd]
      exact (h2 σ2).at_ _
    · rename_i e x ho
      obtain ⟨d, hd, h⟩ := withD_ok h
      obtain ⟨y, u, h1, h2⟩ := boxK_det h
      injection h1 with h1
      refine Does.new hd (hp d (by rw [hd, ho]; exact Nat.beq_refl d)) _ _ h1.symm fun σ2 hops => ?_
      rw [hrun, ho]
      simp only [withD, hd]
      rw [hops x (by rw [ho]; simp [Op.operands])]
      exact (h2 σ2).at_ _
    · rename_i t len parts ho
      obtain ⟨d, hd, h⟩ := withD_ok h
      obtain ⟨y, h1, h2⟩ := buildSK_det h
      injection h1 with h1
      refine Does.new hd (hp d (by rw [hd, ho]; exact Nat.beq_refl d)) _ _ h1.symm fun σ2 hops => ?_
      rw [hrun, ho]
      simp only [withD, hd]
      refine (h2 σ2 fun q hq => hops _ ?_).at_ _
      rw [ho]
      simp only [Op.operands]
      exact List.mem_toArray.2 (List.mem_map_of_mem (f := (·.2)) hq)
    · rename_i t x y ho
      rw [ho] at ht
      cases ht
    · rename_i t l c ho
      obtain ⟨d, hd, h⟩ := withD_ok h
      obtain ⟨y, h1, h2⟩ := makeK_det h
      injection h1 with h1
      refine Does.new hd (hp d (by rw [hd, ho]; exact Nat.beq_refl d)) _ _ h1.symm fun σ2 hops => ?_
      rw [hrun, ho]
      simp only [withD, hd]
      rw [hops l (by rw [ho]; simp [Op.operands]), hops c (by rw [ho]; simp [Op.operands])]
      exact (h2 σ2).at_ _
    · rename_i f args tys ho
      obtain ⟨d, hd, h⟩ := withD_ok h
      split at h
      · rename_i c hc
        obtain ⟨res, τ', h1, h2, h3⟩ := callK_det (hΦ f c hc).2 h
        injection h2 with h2
        subst h2
        have hpn : ∀ n, 100000 + 1000 * d ≤ n → p n = true := fun n hn => hp n (by rw [hd, ho]; exact Nat.ble_eq_true_of_le hn)
        have hops' : ∀ σ2 : S, (∀ x ∈ o.op.operands, opd σ2 x = opd σ x) → σ2.m = σ.m → ∀ (X : Type) (k : List Pt → Option X), argsK σ2 args.toList k = argsK σ args.toList k := by
          intro σ2 hops hm X k
          refine argsK_c hm _ _ fun x hx => hops x ?_
          rw [ho]
          simp only [Op.operands, Call.operands]
          simp only [Array.mem_append]
          first
            | exact .inr (by simpa using hx)
            | exact .inl (by simpa using hx)
        unfold callS at h1 h3
        cases res with
        | one q =>
          simp only at h1 h3
          split at h1
          · rename_i y hy
            injection h1 with h1
            refine ⟨{ G := fun σ => resRt (100000 + 1000 * d) σ q.2, u := y, eq := by rw [hd]; exact h1.symm, run := fun σ2 hops hm => ?_, grow := fun σ => resRt_grow q.2 _ σ hpn, set := fun σ e v hv => resRt_set v q.2 _ σ fun n hn => A.nr_drop hv (hpn n hn) }⟩
            rw [hrun, ho]
            simp only [withD, hd, hc]
            exact (h3 σ2 ((resRt (100000 + 1000 * d) σ2 q.2).set d y) (hops' σ2 hops hm) (by rw [hy])).at_ _
          · cases h1
        | tup ps =>
          injection h1 with h1
          refine ⟨{ G := fun σ => resRs (100000 + 1000 * d) σ ps, u := _, eq := by rw [hd]; exact h1.symm, run := fun σ2 hops hm => ?_, grow := fun σ => resRs_grow ps _ σ hpn, set := fun σ e v hv => resRs_set v ps _ σ fun n hn => A.nr_drop hv (hpn n hn) }⟩
          rw [hrun, ho]
          simp only [withD, hd, hc]
          exact (h3 σ2 _ (hops' σ2 hops hm) rfl).at_ _
      · cases h
    · rename_i x y t t' ho
      rw [ho] at ht
      cases ht
    · cases h
theorem opK_det (hΦ : CtrsOK P Φ) {k : S → Option X} (h : opK P N Φ σ o k = some r) : ∃ τ, k τ = some r ∧ opK P N Φ σ o some = some τ := by
  unfold opK at h ⊢
  cases hv : isV o.op with
  | true =>
    rw [hv, cond_true] at h
    obtain ⟨v, h1, hd, _⟩ := valK_ok (w0 := default) (N := N) h
    obtain ⟨h2, h3⟩ := putK_eq h1
    refine ⟨_, h2, ?_⟩
    rw [cond_true]
    exact (hd.at_ (fun v => putK N σ o.dst v some)).trans ((h3 σ).at_ _)
  | false =>
    rw [hv, cond_false] at h
    show ∃ τ, k τ = some r ∧ memK P N Φ σ o some = some τ
    unfold memK at h ⊢
    split at h
    · obtain ⟨d, hd, h⟩ := withD_ok h
      obtain ⟨x, y, h1, _, h2⟩ := allocK_det h
      exact ⟨_, h1, by simp only [withD, hd]; exact (h2 σ).at_ _⟩
    · obtain ⟨d, hd, h⟩ := withD_ok h
      obtain ⟨y, u, h1, h2⟩ := boxK_det h
      exact ⟨_, h1, by simp only [withD, hd]; exact (h2 σ).at_ _⟩
    · obtain ⟨d, hd, h⟩ := withD_ok h
      obtain ⟨y, h1, h2⟩ := buildSK_det h
      exact ⟨_, h1, by simp only [withD, hd]; exact (h2 σ fun _ _ => rfl).at_ _⟩
    · split at h
      · rename_i hd
        obtain ⟨τ, h1, h2⟩ := storeK_det h
        exact ⟨τ, h1, h2.at_ _⟩
      · cases h
    · obtain ⟨d, hd, h⟩ := withD_ok h
      obtain ⟨y, h1, h2⟩ := makeK_det h
      exact ⟨_, h1, by simp only [withD, hd]; exact (h2 σ).at_ _⟩
    · rename_i f args tys ho
      obtain ⟨d, hd, h⟩ := withD_ok h
      split at h
      · rename_i c hc
        obtain ⟨res, τ, h1, h2, h3⟩ := callK_det (hΦ f c hc).2 h
        exact ⟨τ, h2, by simp only [withD, hd]; exact (h3 σ τ (fun _ _ => rfl) h1).at_ _⟩
      · cases h
    · rename_i x y t t' ho
      cases htt : Nat.beq t t' with
      | false => rw [htt] at h; cases h
      | true =>
        rw [htt, cond_true] at h
        obtain ⟨d, hd, h⟩ := withD_ok h
        obtain ⟨τ, h1, h2⟩ := appK_det h
        exact ⟨τ, h1, by simp only [cond_true, withD, hd]; exact h2.at_ _⟩
    · cases h
theorem doK_det (hΦ : CtrsOK P Φ) {ops : Array Oper} {k : S → Option X} (h : doK P N Φ ops σ o k = some r) : ∃ τ, k τ = some r ∧ doK P N Φ ops σ o some = some τ := by
  unfold doK at h ⊢
  split at h
  · exact opK_det hΦ h
  · obtain ⟨h1, h2⟩ := putK_eq h
    exact ⟨_, h1, (h2 σ).at_ _⟩
  · cases h
theorem wantK_nr {ops : Array Oper} {b : Bool} (h : wantK σ ops o = some b) : ∀ g c t, o.guard = some (g, c) → (ops[g]?).bind (·.dst) = some t → (σ.t t).nr p = true := by
  intro g c t hg ht
  unfold wantK at h
  rw [hg] at h
  simp only [ht] at h
  split at h
  · rename_i hb; rw [hb]; rfl
  · rename_i hb; rw [hb]; rfl
  · cases h
theorem looksAt_opd {ops : Array Oper} {d : Nat} (h : d ∉ o.looksAt ops) (v : A) {x : Operand} (hx : x ∈ o.op.operands) : opd (σ.set d v) x = opd σ x := by
  cases x with
  | tmp t =>
    have : t ≠ d := by
      rintro rfl
      exact h (List.mem_append_left _ (List.mem_filterMap.2 ⟨.tmp t, by simpa using hx, rfl⟩))
    exact upd_ne _ _ _ this
  | _ => rfl
theorem looksAt_guard {ops : Array Oper} {d : Nat} (h : d ∉ o.looksAt ops) (v : A) : ∀ g b t, o.guard = some (g, b) → (ops[g]?).bind (·.dst) = some t → (σ.set d v).t t = σ.t t := by
  intro g b t hg ht
  have : t ≠ d := by
    rintro rfl
    refine h (List.mem_append_right _ ?_)
    rw [hg]
    simp only [ht]
    simp
  exact upd_ne _ _ _ this
/-- What may be taken first. -/
def Fst (P : Program) (ops : Array Oper) (oi : Oper) (p : Nat → Bool) (v : A) (σ : S) : Prop :=
  (wantK σ ops oi = some true ∧ isV oi.op = true ∧ Det (fun X k => valK (X := X) P σ oi.op k) v ∧ (∀ y ∈ oi.op.operands, (opd σ y).nr p = true) ∧ v.nr p = true) ∨ (wantK σ ops oi = some false ∧ v = .skip)
theorem Fst.grow {ops : Array Oper} {oi : Oper} {v : A} (h : Fst P ops oi p v σ) {σ' : S} (hg : Grow p σ σ') : Fst P ops oi p v σ' := by
  rcases h with ⟨h1, h2, h3, h4, h5⟩ | ⟨h1, h2⟩
  · refine .inl ⟨?_, h2, hg.val h3 h4 h5, fun y hy => ?_, h5⟩
    · rw [wantK_c fun g b t e1 e2 => hg.t (wantK_nr h1 g b t e1 e2)]; exact h1
    · rw [hg.opd_ (h4 y hy)]; exact h4 y hy
  · refine .inr ⟨?_, h2⟩
    rw [wantK_c fun g b t e1 e2 => hg.t (wantK_nr h1 g b t e1 e2)]; exact h1
theorem Fst.set {ops : Array Oper} {oi : Oper} {v u : A} (h : Fst P ops oi p v σ) {d : Nat} (hd : d ∉ oi.looksAt ops) : Fst P ops oi p v (σ.set d u) := by
  rcases h with ⟨h1, h2, h3, h4, h5⟩ | ⟨h1, h2⟩
  · refine .inl ⟨?_, h2, fun X k => ?_, fun y hy => ?_, h5⟩
    · rw [wantK_c (looksAt_guard hd u)]; exact h1
    · exact (valK_c (σ := σ) (σ2 := σ.set d u) oi.op rfl (fun x hx => looksAt_opd hd u hx) k).trans (h3.at_ k)
    · rw [looksAt_opd hd u hy]; exact h4 y hy
  · refine .inr ⟨?_, h2⟩
    rw [wantK_c (looksAt_guard hd u)]; exact h1
theorem Fst.put {ops : Array Oper} {oi : Oper} {v u : A} (h : Fst P ops oi p v σ) {dst : Option Tmp} (hd : ∀ d, dst = some d → d ∉ oi.looksAt ops) : Fst P ops oi p v (putS σ dst u) := by
  cases dst with
  | none => exact h
  | some d => exact h.set (hd d rfl)
theorem Fst.nr {ops : Array Oper} {oi : Oper} {v : A} (h : Fst P ops oi p v σ) : v.nr p = true := by
  rcases h with ⟨_, _, _, _, h5⟩ | ⟨_, h2⟩
  · exact h5
  · rw [h2]; rfl
theorem putS_comm {x y : Option Tmp} (v u : A) (h : ∀ d, x = some d → y ≠ some d) : putS (putS σ x v) y u = putS (putS σ y u) x v := by
  cases x with
  | none => rfl
  | some d => cases y with
    | none => rfl
    | some e => exact S.set_set (fun he => h d rfl (congrArg some he)) v u
theorem putS_m (x : Option Tmp) (v : A) : (putS σ x v).m = σ.m := by cases x <;> rfl
theorem looksAt_opd' {ops : Array Oper} {dst : Option Tmp} (h : ∀ d, dst = some d → d ∉ o.looksAt ops) (v : A) {x : Operand} (hx : x ∈ o.op.operands) : opd (putS σ dst v) x = opd σ x := by
  cases dst with
  | none => rfl
  | some d => exact looksAt_opd (h d rfl) v hx
theorem looksAt_want {ops : Array Oper} {dst : Option Tmp} (h : ∀ d, dst = some d → d ∉ o.looksAt ops) (v : A) : wantK (putS σ dst v) ops o = wantK σ ops o := by
  cases dst with
  | none => rfl
  | some d => exact wantK_c (looksAt_guard (h d rfl) v)
theorem square (hΦ : CtrsOK P Φ) {ops : Array Oper} {oi oj : Oper} {v : A} {τ : S} (hF : Fst P ops oi p v σ) (ha : oi.apart ops oj = true) (ht : tame oj.op = true) (hp : ∀ n, nmOf oj n = true → p n = true)
    (h : doK P N Φ ops (putS σ oi.dst v) oj some = some τ) : ∃ σ', doK P N Φ ops σ oj some = some σ' ∧ τ = putS σ' oi.dst v ∧ Fst P ops oi p v σ' := by
  obtain ⟨a1, a2, a3⟩ := Oper.apart_spec ha
  unfold doK at h ⊢
  rw [looksAt_want a1] at h
  split at h
  · obtain ⟨G, u, e, hr, hg, hs⟩ := opK_tame (p := p) hΦ ht hp h
    refine ⟨putS (G σ) oj.dst u, hr σ (fun x hx => (looksAt_opd' a1 v hx).symm) (putS_m _ _).symm, ?_, (hF.grow (hg σ)).put a3⟩
    refine e.trans ?_
    have : ∀ dst, G (putS σ dst v) = putS (G σ) dst v := by
      intro dst
      cases dst with
      | none => rfl
      | some d => exact hs σ d v hF.nr
    rw [this]
    exact putS_comm _ _ a2
  · obtain ⟨h1, h2⟩ := putK_eq h
    injection h1 with h1
    exact ⟨putS σ oj.dst .skip, (h2 σ).at_ _, by rw [← h1]; exact putS_comm _ _ a2, hF.put a3⟩
  · cases h

/-- Whatever comes up. -/
def Any (P : Program) (N : Nat) (Φ : Ctrs) (ops : Array Oper) (K : S → Prop) : Nat → Nat → S → Prop
  | 0, L, σ => (∀ j, rdB ops L j = false) ∧ K σ
  | f + 1, L, σ => ((∀ j, rdB ops L j = false) → K σ) ∧ ∀ j, rdB ops L j = true → ∃ o τ, ops[j]? = some o ∧ doK P N Φ ops σ o some = some τ ∧ Any P N Φ ops K f (L ||| 2 ^ j) τ
theorem bit_or (L i j : Nat) : (L ||| 2 ^ i).testBit j = (L.testBit j || decide (i = j)) := by
  rw [Nat.testBit_or, Nat.testBit_two_pow]
theorem rdB_iff {ops : Array Oper} {L j : Nat} : rdB ops L j = true ↔ L.testBit j = false ∧ ∃ o, ops[j]? = some o ∧ ∀ e ∈ o.after, Region.binds .any e = true → L.testBit e.on = true := by
  unfold rdB
  rw [Bool.and_eq_true, Bool.not_eq_true']
  refine and_congr Iff.rfl ?_
  cases ho : ops[j]? with
  | none => simp
  | some o =>
    simp only [List.all_eq_true, Option.some.injEq, exists_eq_left']
    constructor
    · intro h e he hb
      have := h e (by simpa using he)
      rw [hb] at this
      simpa using this
    · intro h e he
      cases hb : Region.binds .any e with
      | false => rfl
      | true => simpa using h e (by simpa using he) hb
theorem rdB_mono {ops : Array Oper} {L i j : Nat} (h : rdB ops L j = true) (hne : j ≠ i) : rdB ops (L ||| 2 ^ i) j = true := by
  rw [rdB_iff] at h ⊢
  obtain ⟨h0, o, ho, hall⟩ := h
  refine ⟨?_, o, ho, fun e he hb => ?_⟩
  · rw [bit_or, h0]; simpa using fun h => hne h.symm
  · rw [bit_or, hall e he hb]; rfl
theorem Fst.step {ops : Array Oper} {oi : Oper} {v : A} (hF : Fst P ops oi p v σ) (hN : ∀ σ : S, putK N σ oi.dst v some = some (putS σ oi.dst v)) : doK P N Φ ops σ oi some = some (putS σ oi.dst v) := by
  unfold doK
  rcases hF with ⟨h1, h2, h3, _, _⟩ | ⟨h1, h2⟩
  · rw [h1]
    show opK P N Φ σ oi some = _
    unfold opK
    rw [h2, cond_true]
    exact (h3.at_ _).trans (hN σ)
  · rw [h1, ← h2]; exact hN σ
theorem Any_first (hΦ : CtrsOK P Φ) {K : S → Prop} {ops : Array Oper} {i W : Nat} {oi : Oper} {v : A} (hi : ops[i]? = some oi) (hN : ∀ σ : S, putK N σ oi.dst v some = some (putS σ oi.dst v))
    (hW : ∀ j oj, ops[j]? = some oj → W.testBit j = true → ∃ e ∈ oj.after, Region.binds .any e = true ∧ (e.on = i ∨ W.testBit e.on = true)) :
    ∀ (f L : Nat) (σ : S), (∀ j oj, ops[j]? = some oj → j ≠ i → L.testBit j = false → W.testBit j = false → oi.apart ops oj = true ∧ tame oj.op = true ∧ ∀ n, nmOf oj n = true → p n = true) →
      (∀ j, W.testBit j = true → L.testBit j = false) → rdB ops L i = true → Fst P ops oi p v σ → Any P N Φ ops K f (L ||| 2 ^ i) (putS σ oi.dst v) → Any P N Φ ops K (f + 1) L σ := by
  intro f
  induction f with
  | zero =>
    intro L σ hfree hWL hr hF H
    refine ⟨fun h => absurd (h i) (by rw [hr]; simp), fun j hj => ?_⟩
    by_cases hji : j = i
    · subst hji; exact ⟨oi, _, hi, hF.step hN, H⟩
    · have := rdB_mono hj hji
      rw [H.1 j] at this
      cases this
  | succ f ih =>
    intro L σ hfree hWL hr hF H
    refine ⟨fun h => absurd (h i) (by rw [hr]; simp), fun j hj => ?_⟩
    by_cases hji : j = i
    · subst hji; exact ⟨oi, _, hi, hF.step hN, H⟩
    · obtain ⟨oj, τ, hoj, hτ, H'⟩ := H.2 j (rdB_mono hj hji)
      obtain ⟨hjL, oj', hoj', hall⟩ := rdB_iff.1 hj
      rw [hoj] at hoj'
      injection hoj' with hoj'
      subst hoj'
      have hjW : W.testBit j = false := by
        cases hjW : W.testBit j with
        | false => rfl
        | true =>
          obtain ⟨e, he, hb, hon⟩ := hW j oj hoj hjW
          have h1 := hall e he hb
          rcases hon with hon | hon
          · rw [hon, (rdB_iff.1 hr).1] at h1; cases h1
          · rw [hWL _ hon] at h1; cases h1
      obtain ⟨c1, c2, c3⟩ := hfree j oj hoj hji hjL hjW
      obtain ⟨σ', hs, hτ', hF'⟩ := square hΦ hF c1 c2 c3 hτ
      refine ⟨oj, σ', hoj, hs, ih (L ||| 2 ^ j) σ' (fun k ok hk hki hun hkW => hfree k ok hk hki ?_ hkW) (fun k hk => ?_) (rdB_mono hr (Ne.symm hji)) hF' ?_⟩
      · rw [bit_or] at hun
        rw [Bool.or_eq_false_iff] at hun
        exact hun.1
      · rw [bit_or, hWL k hk]
        have : j ≠ k := by rintro rfl; rw [hjW] at hk; cases hk
        simpa using this
      · rw [← hτ']
        have : L ||| 2 ^ j ||| 2 ^ i = L ||| 2 ^ i ||| 2 ^ j := by rw [Nat.or_assoc, Nat.or_comm (2 ^ j), ← Nat.or_assoc]
        rw [this]
        exact H'
end
end Go.Proofs.Ytkgliadgedamiaa
