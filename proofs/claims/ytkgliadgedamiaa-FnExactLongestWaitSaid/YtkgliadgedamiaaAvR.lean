/-
  Loops and functions, by contents. Nothing here is a claim.
-/
import Derived.Test.YtkgliadgedamiaaAvQ
namespace Go.Proofs.Ytkgliadgedamiaa
open Go.RowKit
set_option linter.unusedVariables false

def exNo : Exit → Option Nat
  | .normal => some 0
  | .ret => some 1
  | .exit n => some (n + 2)
  | _ => none
def exOf : Nat → Exit
  | 0 => .normal
  | 1 => .ret
  | n + 2 => .exit n
theorem exNo_ok {e : Exit} {n : Nat} (h : exNo e = some n) : e = exOf n := by
  cases e <;> simp [exNo] at h <;> subst h <;> rfl
def SumT : List (Nat × Tpl) → Type
  | [] => Empty
  | (_, τ) :: r => τ.St ⊕ SumT r
def rdX : (l : List (Nat × Tpl)) → Nat → S → Option (SumT l)
  | [], _, _ => none
  | (n, τ) :: r, e, σ => bif Nat.beq n e then (match τ.rd σ with
    | some x => some (.inl x)
    | none => none) else (match rdX r e σ with
    | some x => some (.inr x)
    | none => none)
def contX {X : Type} : (l : List (Nat × Tpl)) → SumT l → (Exit → S → Option X) → Option X
  | [], z, _ => nomatch z
  | (n, τ) :: r, z, k => match z with
    | .inl x => k (exOf n) (τ.mk' x)
    | .inr z => contX r z k
def iter {α β : Type} (step : α → Option (α ⊕ β)) : Nat → α → Option β
  | 0, _ => none
  | n + 1, x => match step x with
    | some (.inl y) => iter step n y
    | some (.inr z) => some z
    | none => none
def stepK (P : Program) (N : Nat) (Φ : Ctrs) (Λ : Blks) (body : Code) (τ : Tpl) (exs : List (Nat × Tpl)) (x : τ.St) : Option (τ.St ⊕ SumT exs) :=
  codeK P N Φ Λ body (τ.mk' x) fun e σ => match exNo e with
    | some 0 => (match τ.rd σ with
      | some x => some (.inl x)
      | none => none)
    | some n => (match rdX exs n σ with
      | some x => some (.inr x)
      | none => none)
    | none => none
def outB {X : Type} (id : Nat) (k : Exit → S → Option X) (e : Exit) (σ : S) : Option X :=
  match e with
  | .exit id' => if id' = id then k .normal σ else k (.exit id') σ
  | e => k e σ
def loopB (id : Nat) (τ : Tpl) (exs : List (Nat × Tpl)) (F : τ.St → Option (τ.St ⊕ SumT exs)) (fuel : τ.St → Nat) : Blk' :=
  ⟨fun X σ k => match τ.rd σ with
    | some x => (match iter F (fuel x) x with
      | some z => contX exs z (outB id k)
      | none => none)
    | none => none⟩

def InT : List (Bool × TC) → Type
  | [] => Unit
  | (_, t) :: r => T t × InT r
def inMk : (l : List (Bool × TC)) → InT l → List Pt
  | [], _ => []
  | (b, t) :: r, x => (b, enc t 0 x.1) :: inMk r x.2
def inRd : (l : List (Bool × TC)) → List Pt → Option (InT l)
  | [], [] => some ()
  | (b, t) :: r, (b', vs) :: ps => bif b == b' then (match dec t 0 vs, inRd r ps with
    | some x, some xs => some (x, xs)
    | _, _ => none) else none
  | _, _ => none
def OutT : List (Bool × TC × Nat) → Type
  | [] => Unit
  | [(_, t, _)] => T t
  | (_, t, _) :: r => T t × OutT r
def outMk : (l : List (Bool × TC × Nat)) → OutT l → List Pt
  | [], _ => []
  | [(b, t, g)], x => [(b, enc t g x)]
  | (b, t, g) :: q :: r, x => (b, enc t g x.1) :: outMk (q :: r) x.2
def outRd : (l : List (Bool × TC × Nat)) → List Pt → Option (OutT l)
  | [], [] => some ()
  | [(b, t, g)], [(b', vs)] => bif b == b' then dec t g vs else none
  | (b, t, g) :: q :: r, (b', vs) :: ps => bif b == b' then (match dec t g vs, outRd (q :: r) ps with
    | some x, some xs => some (x, xs)
    | _, _ => none) else none
  | _, _ => none
def resRd (l : List (Bool × TC × Nat)) : Res → Option (OutT l)
  | .one p => outRd l [p]
  | .tup ps => bif Nat.beq ps.length 1 then none else outRd l ps
def resMk (l : List (Bool × TC × Nat)) (x : OutT l) : Res :=
  match outMk l x with
  | [p] => .one p
  | ps => .tup ps
def ctrT (ai : List (Bool × TC)) (ro : List (Bool × TC × Nat)) (F : InT ai → Option (OutT ro)) : Ctr :=
  ⟨fun X args k => match inRd ai args with
    | some x => (match F x with
      | some y => k (resMk ro y)
      | none => none)
    | none => none⟩
def startS (args : List Pt) : S := ⟨fun k => match args[k]? with
  | some (false, [x]) => .lf (.v x)
  | some (true, xs) => .agg (xs.map .v)
  | _ => .undef, fun _ => none⟩
def fnK {X : Type} (P : Program) (N : Nat) (Φ : Ctrs) (Λ : Blks) (code : Code) (rv : Array ResultVar) (args : List Pt) (k : Res → Option X) : Option X :=
  codeK P N Φ Λ code (startS args) fun e σ => match exNo e with
    | some 0 => endK P σ rv k
    | some 1 => endK P σ rv k
    | _ => none

section
variable {P : Program} {w w' w0 : World} {B N : Nat} {lab lab' : Lab} {ρ ρ' : Nat → Loc} {σ : S} {a : Act} {X : Type} {d : Nat} {r : X} {o : Oper} {Φ : Ctrs} {Λ : Blks}

theorem rdX_ok : ∀ (l : List (Nat × Tpl)) (e : Nat) (z : SumT l), rdX l e σ = some z → ∀ (X : Type) (k : Exit → S → Option X), ∃ σ', contX l z k = k (exOf e) σ' ∧ ∀ a w, R w0 N σ a w → R w0 N σ' a w
  | [], e, z, h => by cases h
  | (n, τ) :: l, e, z, h => by
    intro X k
    unfold rdX at h
    cases hb : Nat.beq n e with
    | true =>
      obtain rfl := Nat.eq_of_beq_eq_true hb
      rw [hb, cond_true] at h
      split at h
      · rename_i x hx
        injection h with h
        subst h
        exact ⟨τ.mk' x, rfl, fun a w hR => Tpl.rd_ok hx hR⟩
      · cases h
    | false =>
      rw [hb, cond_false] at h
      split at h
      · rename_i x hx
        injection h with h
        subst h
        exact rdX_ok l e x hx X k
      · cases h
theorem loopB_ok {id : Nat} {body : Code} {τ : Tpl} {exs : List (Nat × Tpl)} {F : τ.St → Option (τ.St ⊕ SumT exs)} {fuel : τ.St → Nat} (hΦ : CtrsOK P Φ) (hΛ : BlksOK P N Λ (occs body)) (hF : ∀ x, stepK P N Φ Λ body τ exs x = F x) : BlkOK P N (.block id (.loop body)) (loopB id τ exs F fuel) := by
  intro X σ k r w0 h a w hR
  simp only [loopB] at h
  split at h
  · rename_i x hx
    split at h
    · rename_i z hz
      refine wp_block ?_
      have key : ∀ (n : Nat) (x : τ.St), iter F n x = some z → ∀ (a : Act) (w : World), R w0 N (τ.mk' x) a w → ∀ (b : Frame) (kk : List Item) (cs : List Frame),
          ∃ e a' w', Exit.inBlock id (fun e a' w' => ∃ σ', k e σ' = some r ∧ R w0 N σ' a' w') e a' w' ∧ Arrives P (lone (b.at a (.code body :: .inLoop body :: kk)) cs w) b kk cs e a' w' := by
        intro n
        induction n with
        | zero => intro x hx; simp [iter] at hx
        | succ n ih =>
          intro x hx a w hR b kk cs
          simp only [iter] at hx
          have hst : ∃ y, stepK P N Φ Λ body τ exs x = some y ∧ (match y with | .inl y => iter F n y = some z | .inr z' => z' = z) := by
            rw [hF]
            split at hx
            · rename_i y hy; exact ⟨_, hy, hx⟩
            · rename_i y hy; exact ⟨_, hy, by injection hx⟩
            · cases hx
          obtain ⟨y, hy, hyz⟩ := hst
          unfold stepK at hy
          have hwp := codeK_ok (w0 := w0) hΦ body _ _ hy hΛ a w hR
          obtain ⟨e, a1, w1, ⟨σ1, hk1, hR1⟩, harr⟩ := hwp b (.inLoop body :: kk) cs
          split at hk1
          · rename_i he
            have he := exNo_ok he
            subst he
            split at hk1
            · rename_i x1 hx1
              injection hk1 with hk1
              subst hk1
              obtain ⟨e2, a2, w2, hq2, harr2⟩ := ih x1 hyz a1 w1 (Tpl.rd_ok hx1 hR1) b kk cs
              exact ⟨e2, a2, w2, hq2, .of_steps (Steps.trans harr (.one step_inLoop)) harr2⟩
            · cases hk1
          · rename_i n' hne he
            have he := exNo_ok he
            split at hk1
            · rename_i z1 hz1
              injection hk1 with hk1
              subst hk1
              have hyz : z1 = z := hyz
              subst hyz
              obtain ⟨σ2, hc2, hR2⟩ := rdX_ok (w0 := w0) (N := N) exs n' z1 hz1 X (outB id k)
              rw [hc2] at h
              rw [← he] at h
              refine ⟨e, a1, w1, ?_, ?_⟩
              · cases e with
                | exit id' =>
                  simp only [outB] at h
                  simp only [Exit.inBlock]
                  split at h
                  · rename_i hid; rw [if_pos hid]; exact ⟨σ2, h, hR2 a1 w1 hR1⟩
                  · rename_i hid; rw [if_neg hid]; exact ⟨σ2, h, hR2 a1 w1 hR1⟩
                | _ => exact ⟨σ2, h, hR2 a1 w1 hR1⟩
              · refine .pass (x := .inLoop body) rfl (fun _ _ => .inl ?_) harr
                intro e'
                rw [e'] at he
                match n', hne, he with
                | 0, hne, _ => exact hne rfl
                | 1, _, he => cases he
                | n + 2, _, he => cases he
            · cases hk1
          · cases hk1
      intro b kk cs
      obtain ⟨e, a', w', hq, harr⟩ := key (fuel x) x hz a w (Tpl.rd_ok hx hR) b kk cs
      exact ⟨e, a', w', hq, .of_steps (.one step_loop) harr⟩
    · cases h
  · cases h

theorem PV.wks {key : Nat → List Nat} {b : Bool} {xs ys : List V} {u : Value} (h : PV w B lab key (b, xs) u) (k : Wks xs ys) : PV w B lab key (b, ys) u := by
  obtain ⟨us, hu, hs, hr⟩ := h
  refine ⟨us, hu, hs.trans k.1, fun j y hy => ?_⟩
  have hj : j < xs.length := by rw [k.1]; exact (List.getElem?_eq_some_iff.1 hy).1
  obtain ⟨v, hv, hr'⟩ := hr j _ (List.getElem?_eq_getElem hj)
  exact ⟨v, hv, hr'.wk (k.2 j _ y (List.getElem?_eq_getElem hj) hy)⟩
theorem inRd_ok : ∀ (l : List (Bool × TC)) (ps : List Pt) (x : InT l), inRd l ps = some x → (inMk l x).length = ps.length ∧ ∀ (i : Nat) p, (inMk l x)[i]? = some p → ∃ q, ps[i]? = some q ∧ q.1 = p.1 ∧ Wks q.2 p.2
  | [], [], x, h => ⟨rfl, fun i p hp => by simp [inMk] at hp⟩
  | (b, t) :: r, (b', vs) :: ps, x, h => by
    unfold inRd at h
    cases hb : b == b' with
    | false => rw [hb] at h; cases h
    | true =>
      rw [hb, cond_true] at h
      have hb : b = b' := by simpa using hb
      subst hb
      split at h
      · rename_i y ys h1 h2
        injection h with h
        subst h
        obtain ⟨k1, k2⟩ := inRd_ok r ps ys h2
        refine ⟨by simp [inMk, k1], fun i p hp => ?_⟩
        cases i with
        | zero => simp [inMk] at hp; subst hp; exact ⟨(b, vs), rfl, rfl, dec_ok t 0 vs y h1⟩
        | succ i => exact k2 i p (by simpa [inMk] using hp)
      · cases h
  | [], _ :: _, x, h => by simp [inRd] at h
  | _ :: _, [], x, h => by simp [inRd] at h
theorem Wks.loc {xs ys : List V} (h : Wks xs ys) (hx : xs.all V.loc = true) : (∀ y ∈ ys, ∃ x ∈ xs, Wk x y) := by
  intro y hy
  obtain ⟨j, hj⟩ := List.mem_iff_getElem?.1 hy
  have hjx : j < xs.length := by rw [h.1]; exact (List.getElem?_eq_some_iff.1 hj).1
  exact ⟨xs[j], List.getElem_mem _, h.2 j _ y (List.getElem?_eq_getElem hjx) hj⟩
/-- Grades of results: all owned. -/
def okOut (l : List (Bool × TC × Nat)) : Bool := l.all fun p => Nat.ble (full p.2.1) p.2.2
theorem enc_loc (t : TC) (g : Nat) (x : T t) (h : full t ≤ g) : (enc t g x).all V.loc = true := by
  rw [List.all_eq_true]
  intro y hy
  have hg := enc_gr t g x y hy
  have hl := enc_full t g x y hy
  cases y with
  | sl t' o' q l =>
    have ho : o' = g := by simpa [V.gr] using hg
    subst ho
    have hl : full t' + 2 ≤ full t := Nat.le_of_ble_eq_true hl
    show locG t' o' = true
    match o', h with
    | 0, h => omega
    | 1, h => omega
    | n + 2, h =>
      simp only [locG, Bool.or_eq_true]
      left
      exact Nat.ble_eq_true_of_le (by omega)
  | _ => rfl
theorem outRd_ok : ∀ (l : List (Bool × TC × Nat)) (ps : List Pt) (x : OutT l), okOut l = true → outRd l ps = some x → (outMk l x).length = ps.length ∧ ∀ (nm : Nat → Nat) (off : Nat) (vs : List Value), ResL w B lab nm off ps vs → ResL w B lab nm off (outMk l x) vs
  | [], [], x, _, h => ⟨rfl, fun nm off vs hr => hr⟩
  | [(b, t, g)], [(b', vs)], x, ho, h => by
    unfold outRd at h
    cases hb : b == b' with
    | false => rw [hb] at h; cases h
    | true =>
      rw [hb] at h
      have h : dec t g vs = some x := h
      have hb : b = b' := by simpa using hb
      subst hb
      have hg : full t ≤ g := by simpa [okOut] using ho
      refine ⟨rfl, fun nm off us hr => ?_⟩
      match us, hr with
      | [u], ⟨⟨_, h1⟩, _⟩ => exact ⟨⟨enc_loc t g x hg, h1.wks (dec_ok t g vs x h)⟩, trivial⟩
  | (b, t, g) :: q :: r, (b', vs) :: ps, x, ho, h => by
    unfold outRd at h
    cases hb : b == b' with
    | false => rw [hb] at h; cases h
    | true =>
      rw [hb, cond_true] at h
      have hb : b = b' := by simpa using hb
      subst hb
      have ho' : full t ≤ g ∧ okOut (q :: r) = true := by
        simp only [okOut, List.all_cons, Bool.and_eq_true] at ho ⊢
        exact ⟨Nat.le_of_ble_eq_true ho.1, ho.2⟩
      split at h
      · rename_i y ys h1 h2
        injection h with h
        subst h
        obtain ⟨k1, k2⟩ := outRd_ok (q :: r) ps ys ho'.2 h2
        refine ⟨by simp [outMk, k1], fun nm off us hr => ?_⟩
        match us, hr with
        | u :: us, ⟨⟨_, hp⟩, hrest⟩ =>
          have hlen : vs.length = (enc t g y).length := (dec_ok t g vs y h1).1
          refine ⟨⟨enc_loc t g y ho'.1, hp.wks (dec_ok t g vs y h1)⟩, ?_⟩
          have hlen' : off + vs.length = off + (enc t g y).length := by rw [hlen]
          have hrest : ResL w B lab nm (off + vs.length) ps us := hrest
          rw [hlen'] at hrest
          exact k2 nm _ us hrest
      · cases h
  | [], _ :: _, x, _, h => by simp [outRd] at h
  | [_], [], x, _, h => by simp [outRd] at h
  | [_], _ :: _ :: _, x, _, h => by simp [outRd] at h
  | _ :: _ :: _, [], x, _, h => by simp [outRd] at h
theorem resRd_ok {l : List (Bool × TC × Nat)} {res : Res} {x : OutT l} (ho : okOut l = true) (h : resRd l res = some x) {nm : Nat → Nat} {v : Value} (hr : ResOK w B lab nm res v) : ResOK w B lab nm (resMk l x) v := by
  cases res with
  | one p =>
    obtain ⟨k1, k2⟩ := outRd_ok (w := w) (B := B) (lab := lab) l [p] x ho h
    have hr : ResL w B lab nm 0 [p] [v] := hr
    have := k2 nm 0 [v] hr
    unfold resMk
    match hm : outMk l x, k1, this with
    | [q], _, this => exact this
    | [], k1, _ => cases k1
    | _ :: _ :: _, k1, _ => simp at k1
  | tup ps =>
    simp only [resRd] at h
    cases hb : Nat.beq ps.length 1 with
    | true => rw [hb] at h; cases h
    | false =>
      rw [hb, cond_false] at h
      obtain ⟨k1, k2⟩ := outRd_ok (w := w) (B := B) (lab := lab) l ps x ho h
      obtain ⟨vs, e, hr⟩ := hr
      have := k2 nm 0 _ hr
      unfold resMk
      match hm : outMk l x, k1, this with
      | [q], k1, this => simp only [List.length_singleton] at k1; rw [← k1] at hb; cases hb
      | [], _, this => exact ⟨vs, e, this⟩
      | _ :: _ :: _, _, this => exact ⟨vs, e, this⟩
theorem fn_ok {f : Nat} {fn : Func} {code : Code} {ai : List (Bool × TC)} {ro : List (Bool × TC × Nat)} {F : InT ai → Option (OutT ro)} (hf : P.funcs[f]? = some fn) (hb : fn.body = some code) (hN : fn.ntmps = N) (hname : (fn.name == "runtime.NumGoroutine") = false) (hai : Nat.ble ai.length N = true) (hro : okOut ro = true)
    (hΦ : CtrsOK P Φ) (hΛ : BlksOK P N Λ (occs code)) (hF : ∀ x, fnK P N Φ Λ code fn.results (inMk ai x) (resRd ro) = F x) : enters P f ∧ CtrOK P f (ctrT ai ro F) := by
  refine ⟨⟨fn, hf, hname, by rw [hb]; rfl⟩, fun X args k r h => ?_⟩
  simp only [ctrT] at h
  split at h
  · rename_i x hx
    split at h
    · rename_i y hy
      refine ⟨_, h, fun X' k' => by simp only [ctrT, hx, hy], fun nm w vals hargs => ?_⟩
      obtain ⟨k1, k2⟩ := inRd_ok ai args x hx
      have hlen : ∀ (l : List (Bool × TC)) (x : InT l), (inMk l x).length = l.length := by
        intro l
        induction l with
        | nil => intro x; rfl
        | cons p l ih => obtain ⟨b, t⟩ := p; intro x; simp [inMk, ih]
      have hval : vals.size = ai.length := by rw [hargs.1, ← k1, hlen]
      have hle : vals.size ≤ N := by rw [hval]; exact Nat.le_of_ble_eq_true hai
      refine calls_of_wp hf hb ?_
      rw [← hF x] at hy
      unfold fnK at hy
      have hR : R w N (startS (inMk ai x)) { tmps := vals ++ Array.replicate (fn.ntmps - vals.size) undef, defers := [] } w := by
        refine ⟨fun _ => none, fun _ => .blk 0 0, Below.refl _ _, (fun b k hk => by cases hk), (fun n y hy => by cases hy), fun j => ?_, by simp [hN]; omega, rfl⟩
        show RA w w.heap.size _ _ (match (inMk ai x)[j]? with | some (false, [x]) => A.lf (.v x) | some (true, xs) => .agg (xs.map .v) | _ => .undef) _
        have hget : ∀ p, (inMk ai x)[j]? = some p → ∃ u, (vals ++ Array.replicate (fn.ntmps - vals.size) undef).getD j undef = u ∧ PV w w.heap.size (fun _ => none) (fun _ => []) p u ∧ ∀ y ∈ p.2, y.fro = true := by
          intro p hp
          obtain ⟨q, hq, hq1, hq2⟩ := k2 j p hp
          obtain ⟨u, hu, hpv⟩ := hargs.2 j q hq
          have hj : j < vals.size := (Array.getElem?_eq_some_iff.1 hu).1
          refine ⟨u, ?_, ?_, ?_⟩
          · rw [Array.getD_eq_getD_getElem?, Array.getElem?_append_left hj, hu]; rfl
          · obtain ⟨b, ys⟩ := p
            obtain ⟨b', xs⟩ := q
            simp only at hq1
            subst hq1
            exact hpv.wks hq2
          · have hfr : ∀ (l : List (Bool × TC)) (x : InT l) (j : Nat) p, (inMk l x)[j]? = some p → ∀ y ∈ p.2, y.fro = true := by
              intro l
              induction l with
              | nil => intro x j p hp; simp [inMk] at hp
              | cons c l ih =>
                obtain ⟨b, t⟩ := c
                intro x j p hp y hy
                cases j with
                | zero =>
                  simp [inMk] at hp
                  subst hp
                  obtain ⟨i, hi⟩ := List.mem_iff_getElem?.1 hy
                  exact enc_fro t 0 x.1 (by omega) i y hi
                | succ j => exact ih x.2 j p (by simpa [inMk] using hp) y hy
            exact hfr ai x j p hp
        split
        · rename_i x' hx'
          obtain ⟨u, hu, hpv, hfr⟩ := hget _ hx'
          rw [hu]
          obtain ⟨us, rfl, hs, hr⟩ := hpv
          obtain ⟨v, hv, hr'⟩ := hr 0 x' rfl
          have : u = v := by simpa using hv
          subst this
          exact ⟨hfr x' (by simp), hr'⟩
        · rename_i xs hx'
          obtain ⟨u, hu, hpv, hfr⟩ := hget _ hx'
          rw [hu]
          obtain ⟨us, rfl, hs, hr⟩ := hpv
          refine ⟨us, rfl, by rw [List.length_map]; exact hs, fun i y hy => ?_⟩
          rw [List.getElem?_map] at hy
          cases hz : xs[i]? with
          | none => rw [hz] at hy; cases hy
          | some z =>
            rw [hz] at hy
            injection hy with hy
            subst hy
            obtain ⟨v, hv, hr'⟩ := hr i z hz
            exact ⟨v, hv, hfr z (List.mem_of_getElem? hz), hr'⟩
        · trivial
      refine wp_mono (codeK_ok (w0 := w) hΦ code _ _ hy hΛ _ w hR) fun e a' w' he => ?_
      obtain ⟨σ', hk, lab, ρ, hR'⟩ := he
      have fin : endK P σ' fn.results (resRd ro) = some y → a'.defers = [] ∧ ∃ v, (results fn a'.tmps).run P w' = .ok v w' ∧ ∃ v_1 lab', Ending.returned v = Ending.returned v_1 ∧ Below w.heap.size w w' ∧ (∀ b k, lab' b = some k → w.heap.size ≤ b ∧ b < w'.heap.size ∧ k ≠ []) ∧ ResOK w' w.heap.size lab' nm (resMk ro y) v_1 := by
        intro hend
        obtain ⟨res, hres, hrun⟩ := endK_ok (w0 := w) (N := N) (fn := fn) hend
        obtain ⟨v, lab', h1, h2, h3⟩ := hrun lab ρ a' w' hR' nm
        exact ⟨hR'.defers, v, h1, v, lab', rfl, hR'.below, h2, resRd_ok hro hres h3⟩
      split at hk
      · rename_i he
        have he := exNo_ok he
        subst he
        exact fin hk
      · rename_i he
        have he := exNo_ok he
        subst he
        exact fin hk
      · cases hk
    · cases h
  · cases h
end
end Go.Proofs.Ytkgliadgedamiaa
