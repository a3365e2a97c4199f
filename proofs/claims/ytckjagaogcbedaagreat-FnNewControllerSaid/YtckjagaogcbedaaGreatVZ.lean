/-
  Running the program over pure contents, and that it follows (part Z). Nothing here is a claim.
-/
import Derived.Test.YtckjagaogcbedaaGreatV4
set_option linter.unusedSimpArgs false
namespace Go.Proofs.YtckjagaogcbedaaGreat
open Go.RowKit
set_option linter.unusedVariables false
section
variable {P : Program} {w w' : World} {w0 : Wd} {B N : Nat} {lab lab' : Lab} {ρ ρ' : Nat -> Loc} {σ : S} {a : Act} {X : Type} {d e : Nat} {r : X} {o : Oper} {Φ : Ctrs} {x : Root} {u : A}
def Frs (e : Nat) (σ : S) : Prop := σ.drop e = σ
theorem Frs.t_ (h : Frs e σ) (k : Nat) : (σ.t k).drop e = σ.t k := congrFun (congrArg S.t h) k
theorem Frs.m_ (h : Frs e σ) (r : Nat) : (bif Nat.beq r e then none else (σ.m r).map (Root.drop e)) = σ.m r := congrFun (congrArg S.m h) r
theorem Frs.opd_ (h : Frs e σ) (y : Operand) : (opd σ y).drop e = opd σ y := by
  cases y with
  | tmp t => exact h.t_ t
  | const v =>
    show (constA v).drop e = constA v
    unfold constA
    split <;> rfl
  | global g => rfl
  | func f => rfl
def eqB (e n : Nat) : Bool := Nat.beq n e
theorem eqB_self (e : Nat) : eqB e e = true := Nat.beq_refl e
theorem keyNr_of {k : List Nat} (h : lastIs e k = false) : keyNr (eqB e) k = true := by
  unfold keyNr
  unfold lastIs at h
  split
  · rename_i r hr
    rw [hr] at h
    unfold eqB
    cases hb : Nat.beq r e with
    | false => rfl
    | true =>
      have := Nat.eq_of_beq_eq_true hb
      subst this
      simp at h
  · rfl
theorem Lf.nr_of {l : Lf} (h : l.drop e = l) : l.nr (eqB e) = true := by
  cases l with
  | own k =>
    have h : (bif lastIs e k then Lf.dead else .own k) = .own k := h
    cases hl : lastIs e k with
    | true => rw [hl] at h; cases h
    | false => exact keyNr_of hl
  | v z => rfl
  | dead => rfl
theorem Lfs.of_map {cs : List Lf} (h : cs.map (Lf.drop e) = cs) : ∀ c ∈ cs, c.drop e = c := by
  induction cs with
  | nil => intro c hc; cases hc
  | cons c cs ih =>
    rw [List.map_cons] at h
    injection h with h1 h2
    intro c' hc
    rcases List.mem_cons.1 hc with rfl | hc
    · exact h1
    · exact ih h2 c' hc
theorem Lfs.to_map {cs : List Lf} (h : ∀ c ∈ cs, c.drop e = c) : cs.map (Lf.drop e) = cs := by
  rw [List.map_congr_left h, List.map_id']
theorem A.nr_of {y : A} (h : y.drop e = y) : y.nr (eqB e) = true := by
  cases y with
  | lf l => injection h with h; exact Lf.nr_of h
  | agg cs =>
    injection h with h
    exact List.all_eq_true.2 fun c hc => Lf.nr_of (Lfs.of_map h c hc)
  | tup xs =>
    injection h with h
    refine List.all_eq_true.2 fun q hq => List.all_eq_true.2 fun c hc => Lf.nr_of ?_
    have h2 : ∀ q ∈ xs, (q.1, q.2.map (Lf.drop e)) = q := by
      clear hq
      induction xs with
      | nil => intro q hq; cases hq
      | cons z zs ih =>
        rw [List.map_cons] at h
        injection h with h1 h2
        intro q hq
        rcases List.mem_cons.1 hq with rfl | hq
        · exact h1
        · exact ih h2 q hq
    exact Lfs.of_map (congrArg Prod.snd (h2 q hq)) c hc
  | ptr k =>
    have h : (bif lastIs e k then A.undef else .ptr k) = .ptr k := h
    cases hl : lastIs e k with
    | true => rw [hl] at h; cases h
    | false => exact keyNr_of hl
  | view k s i j =>
    have h : (bif lastIs e k then A.undef else .view k s i j) = .view k s i j := h
    cases hl : lastIs e k with
    | true => rw [hl] at h; cases h
    | false => exact keyNr_of hl
  | bptr r j =>
    have h : (bif Nat.beq r e then A.undef else .bptr r j) = .bptr r j := h
    cases hl : Nat.beq r e with
    | true => rw [hl] at h; cases h
    | false => show (!eqB e r) = true; unfold eqB; rw [hl]; rfl
  | pk r j =>
    have h : (bif Nat.beq r e then A.undef else .pk r j) = .pk r j := h
    cases hl : Nat.beq r e with
    | true => rw [hl] at h; cases h
    | false => show (!eqB e r) = true; unfold eqB; rw [hl]; rfl
  | fn f cap =>
    have h : (bif cap.any (fun p => Nat.beq p.1 e) then A.undef else .fn f cap) = .fn f cap := h
    cases hl : cap.any (fun p => Nat.beq p.1 e) with
    | true => rw [hl] at h; cases h
    | false =>
      refine List.all_eq_true.2 fun q hq => ?_
      have := List.any_eq_false.1 hl q hq
      show (!eqB e q.1) = true
      unfold eqB
      cases hb : Nat.beq q.1 e with
      | false => rfl
      | true => exact absurd hb this
  | _ => rfl
theorem Lf.drop_twice (l : Lf) : (l.drop e).drop e = l.drop e := by
  cases l with
  | own k =>
    show Lf.drop e (bif lastIs e k then Lf.dead else .own k) = (bif lastIs e k then Lf.dead else .own k)
    cases hl : lastIs e k with
    | true => rfl
    | false =>
      show (bif lastIs e k then Lf.dead else .own k) = _
      rw [hl, cond_false]
  | _ => rfl
theorem Lfs.drop_twice (cs : List Lf) : (cs.map (Lf.drop e)).map (Lf.drop e) = cs.map (Lf.drop e) := by
  rw [List.map_map]
  exact List.map_congr_left fun c _ => Lf.drop_twice c
theorem A.drop_twice (y : A) : (y.drop e).drop e = y.drop e := by
  cases y with
  | lf l => exact congrArg A.lf (Lf.drop_twice l)
  | agg cs => exact congrArg A.agg (Lfs.drop_twice cs)
  | tup xs =>
    show A.tup ((xs.map fun p => (p.1, p.2.map (Lf.drop e))).map fun p => (p.1, p.2.map (Lf.drop e))) = A.tup (xs.map fun p => (p.1, p.2.map (Lf.drop e)))
    rw [List.map_map]
    refine congrArg A.tup (List.map_congr_left fun p _ => ?_)
    exact congrArg (Prod.mk p.1) (Lfs.drop_twice p.2)
  | ptr k =>
    show A.drop e (bif lastIs e k then A.undef else .ptr k) = (bif lastIs e k then A.undef else .ptr k)
    cases hl : lastIs e k with
    | true => rfl
    | false => show (bif lastIs e k then A.undef else .ptr k) = _; rw [hl, cond_false]
  | view k s i j =>
    show A.drop e (bif lastIs e k then A.undef else .view k s i j) = (bif lastIs e k then A.undef else .view k s i j)
    cases hl : lastIs e k with
    | true => rfl
    | false => show (bif lastIs e k then A.undef else .view k s i j) = _; rw [hl, cond_false]
  | bptr r j =>
    show A.drop e (bif Nat.beq r e then A.undef else .bptr r j) = (bif Nat.beq r e then A.undef else .bptr r j)
    cases hl : Nat.beq r e with
    | true => rfl
    | false => show (bif Nat.beq r e then A.undef else .bptr r j) = _; rw [hl, cond_false]
  | pk r j =>
    show A.drop e (bif Nat.beq r e then A.undef else .pk r j) = (bif Nat.beq r e then A.undef else .pk r j)
    cases hl : Nat.beq r e with
    | true => rfl
    | false => show (bif Nat.beq r e then A.undef else .pk r j) = _; rw [hl, cond_false]
  | fn f cap =>
    show A.drop e (bif cap.any (fun p => Nat.beq p.1 e) then A.undef else .fn f cap) = (bif cap.any (fun p => Nat.beq p.1 e) then A.undef else .fn f cap)
    cases hl : cap.any (fun p => Nat.beq p.1 e) with
    | true => rfl
    | false => show (bif cap.any (fun p => Nat.beq p.1 e) then A.undef else .fn f cap) = _; rw [hl, cond_false]
  | _ => rfl
theorem Root.drop_twice (y : Root) : (y.drop e).drop e = y.drop e := by
  cases y with
  | blk cs => exact congrArg Root.blk (Lfs.drop_twice cs)
  | sl y => rfl
  | mp l => rfl
  | gh xs =>
    refine congrArg Root.gh ?_
    rw [List.map_map]
    exact List.map_congr_left fun x _ => A.drop_twice x
theorem Frs.drop (σ : S) : Frs e (σ.drop e) := by
  refine S.ext' (fun k => A.drop_twice _) fun n => ?_
  show (bif Nat.beq n e then none else ((bif Nat.beq n e then none else (σ.m n).map (Root.drop e))).map (Root.drop e)) = (bif Nat.beq n e then none else (σ.m n).map (Root.drop e))
  cases Nat.beq n e with
  | true => rfl
  | false =>
    simp only [cond_false]
    cases σ.m n with
    | none => rfl
    | some y => simp only [Option.map_some, Root.drop_twice]
theorem Frs.set (h : Frs e σ) {v : A} (hv : v.drop e = v) (d : Nat) : Frs e (σ.set d v) := by
  refine S.ext' (fun k => ?_) fun n => h.m_ n
  show (upd σ.t d v k).drop e = upd σ.t d v k
  by_cases hk : k = d
  · subst hk; rw [upd_same, hv]
  · rw [upd_ne _ _ _ hk, h.t_]
theorem Frs.put (h : Frs e σ) {v : A} (hv : v.drop e = v) (dst : Option Tmp) : Frs e (putS σ dst v) := by
  cases dst with
  | none => exact h
  | some d => exact h.set hv d
theorem Frs.sl (h : Frs e σ) {c : Nat} (z : V) (hc : e ≠ c) : Frs e ((σ.drop c).root c (.sl z)) := by
  refine S.ext' (fun k => ?_) fun n => ?_
  · show ((σ.t k).drop c).drop e = (σ.t k).drop c
    rw [A.drop_comm, h.t_]
  · show (bif Nat.beq n e then none else (((σ.drop c).root c (.sl z)).m n).map (Root.drop e)) = ((σ.drop c).root c (.sl z)).m n
    rw [root_m]
    by_cases hn : n = c
    · rw [if_pos hn, beq_ne (by rintro rfl; exact hc hn), cond_false]; rfl
    · rw [if_neg hn]
      have hm := h.m_ n
      cases hb : Nat.beq n e with
      | true =>
        rw [hb, cond_true] at hm
        rw [<- hm]; rfl
      | false =>
        rw [hb, cond_false] at hm
        rw [cond_false]
        cases hz : σ.m n with
        | none => rfl
        | some y =>
          rw [hz] at hm
          injection hm with hm
          simp only [Option.map_some]
          rw [Root.drop_comm, hm]
theorem Frs.resRt (hc : e < d) : ∀ (xs : List V) (c : Nat) (σ : S), d <= c -> Frs e σ -> Frs e (resRt c σ xs)
  | [], c, σ, _, h => h
  | x :: xs, c, σ, hd, h => by
    simp only [Go.Proofs.YtckjagaogcbedaaGreat.resRt]
    refine Frs.resRt hc xs (c + 1) _ (by omega) ?_
    cases x.fro with
    | true => exact h
    | false => exact h.sl x (by omega)
theorem Frs.resRs (hc : e < d) : ∀ (ps : List Pt) (c : Nat) (σ : S), d <= c -> Frs e σ -> Frs e (resRs c σ ps)
  | [], c, σ, _, h => h
  | q :: ps, c, σ, hd, h => Frs.resRs hc ps _ _ (by omega) (Frs.resRt hc q.2 c σ hd h)
/-! Values. -/
theorem Frs.root_opd (y : Operand) : opd (σ.root e x) y = opd σ y := by cases y <;> rfl
theorem Frs.lfK_ {l : Lf} (hl : l.nr (eqB e) = true) (k : V -> Option X) : lfK (σ.root e x) l k = lfK σ l k := by
  cases l with
  | own q => exact getK_upd (eqB_self e) q k hl
  | v z => rfl
  | dead => rfl
theorem Frs.val (h : Frs e σ) {op : Op} (hop : isE op = true) (k : A -> Option X) : valK P (σ.root e x) op k = valK P σ op k := by
  have ho : ∀ y, opd (σ.root e x) y = opd σ y := Frs.root_opd
  have hn : ∀ y, (opd σ y).nr (eqB e) = true := fun y => A.nr_of (h.opd_ y)
  cases op with
  | move y => simp only [valK, ho]
  | assign y => simp only [valK, ho]
  | unOp f t y => simp only [valK, ho]
  | field s y f => simp only [valK, ho]
  | fieldAddr s y f => simp only [valK, ho]
  | index t y i => simp only [valK, ho]
  | load t y =>
    simp only [valK, ho]
    have h1 := hn y
    generalize opd σ y = u at h1
    unfold loadK
    split
    · rfl
    · split
      · rename_i r j
        have hr : r ≠ e := by
          rintro rfl
          have h1 : (!eqB r r) = true := h1
          rw [eqB_self] at h1
          cases h1
        have : (σ.root e x).m r = σ.m r := upd_ne _ _ _ hr
        rw [this]
      · rfl
      · rename_i j i s q
        have hk : keyNr (eqB e) (j :: i :: s :: q) = true := h1
        cases q with
        | nil => rfl
        | cons q0 q =>
          refine getK_upd (eqB_self e) _ _ ?_
          simpa [keyNr, List.getLast?_cons_cons] using hk
      · rfl
  | binOp f t y z yt =>
    simp only [valK, ho]
    refine binAK_lf fun l hl k => Frs.lfK_ ?_ k
    have h1 := hn y
    rw [hl] at h1
    exact h1
  | call c =>
    obtain ⟨callee, ⟨args⟩, ⟨tys⟩⟩ := c
    cases callee with
    | builtin b =>
      cases b <;> try (cases hop)
      match args, tys with
      | [y], [t] =>
        simp only [valK, ho]
        have h1 := hn y
        generalize opd σ y = u at h1
        unfold lenK
        split
        · exact Frs.lfK_ h1 _
        · rfl
      | [], _ => rfl
      | [_], [] => rfl
      | [_], _ :: _ :: _ => rfl
      | _ :: _ :: _, _ => rfl
    | _ => cases hop
  | _ => cases hop
theorem finK_frs {t : TypeId} {cs : List Lf} {v : A} (h : finK P t cs some = some v) (hc : ∀ c ∈ cs, c.drop e = c) : v.drop e = v := by
  unfold finK at h
  split at h
  · split at h
    · split at h
      · injection h with h; subst h; exact congrArg A.agg (Lfs.to_map hc)
      · split at h
        · injection h with h; subst h; exact congrArg A.lf (hc _ (.head _))
        · cases h
      · cases h
    · cases h
  · cases h
theorem binAK_frs {op : BinOp} {t : TypeId} {y z : A} {v : A} (h : binAK P σ op t y z some = some v) : v.drop e = v := by
  have fin : ∀ (a b : A), (vK a fun a => vK b fun b => binK P t op a b fun z => some (A.lf (.v z))) = some v -> v.drop e = v := by
    intro a b h
    obtain ⟨_, h1, _⟩ := vK_det h
    obtain ⟨_, h2, _⟩ := vK_det h1
    obtain ⟨_, h3, _⟩ := binK_det h2
    injection h3 with h3
    subst h3
    rfl
  unfold binAK at h
  split at h
  · split at h
    · rename_i cs ds xs ys _ _
      cases hb : (P.eqGuardType P.depth t || !isStr P t) with
      | true => rw [hb] at h; cases h
      | false =>
        rw [hb, cond_false] at h
        split at h
        · injection h with h; subst h; rfl
        · cases h
    · cases h
  · split at h
    · obtain ⟨z, h1, hz⟩ := lfK_det h
      clear hz
      split at h1
      · injection h1 with h1; subst h1; rfl
      · injection h1 with h1; subst h1; rfl
      · rename_i l
        cases hb : isEmp l with
        | true => rw [hb] at h1; cases h1
        | false => rw [hb] at h1; injection h1 with h1; subst h1; rfl
      · cases h1
    · cases h
  · exact fin _ _ h
theorem Frs.res (h : Frs e σ) {op : Op} (hop : isE op = true) {v : A} (hv : valK P σ op some = some v) : v.drop e = v := by
  cases op with
  | move y => simp only [valK] at hv; injection hv with hv; subst hv; exact h.opd_ y
  | assign y => simp only [valK] at hv; injection hv with hv; subst hv; exact h.opd_ y
  | unOp f t y =>
    simp only [valK] at hv
    obtain ⟨_, h1, _⟩ := vK_det hv
    obtain ⟨_, h2, _⟩ := unK_det h1
    injection h2 with h2
    subst h2
    rfl
  | field s y f =>
    simp only [valK] at hv
    have h1 := h.opd_ y
    generalize opd σ y = u at h1 hv
    unfold partK at hv
    split at hv
    · rename_i fd cs _
      injection h1 with h1
      have hc := Lfs.of_map h1
      split at hv
      · split at hv
        · injection hv with hv
          subst hv
          exact congrArg A.agg (Lfs.to_map fun c hm => hc c (List.mem_of_mem_drop (List.mem_of_mem_take hm)))
        · cases hv
      · split at hv
        · rename_i z hz
          injection hv with hv
          subst hv
          exact congrArg A.lf (hc _ (List.mem_of_getElem? hz))
        · cases hv
      · cases hv
    · cases hv
  | fieldAddr s y f =>
    simp only [valK] at hv
    have h1 := h.opd_ y
    generalize opd σ y = u at h1 hv
    unfold fieldK at hv
    split at hv
    · cases hv
    · split at hv
      · split at hv
        · rename_i r j
          injection hv with hv
          subst hv
          have h1 : (bif Nat.beq r e then A.undef else .bptr r j) = .bptr r j := h1
          cases hl : Nat.beq r e with
          | true => rw [hl] at h1; cases h1
          | false => show (bif Nat.beq r e then A.undef else _) = _; rw [hl, cond_false]
        · injection hv with hv; subst hv; rfl
        · rename_i j i s' q
          injection hv with hv
          subst hv
          have h1 : (bif lastIs e (j :: i :: s' :: q) then A.undef else .ptr (j :: i :: s' :: q)) = .ptr (j :: i :: s' :: q) := h1
          cases hl : lastIs e (j :: i :: s' :: q) with
          | true => rw [hl] at h1; cases h1
          | false =>
            have hl2 : ∀ j', lastIs e (j' :: i :: s' :: q) = false := by
              intro j'
              unfold lastIs at hl ⊢
              simpa [List.getLast?_cons_cons] using hl
            show (bif lastIs e _ then A.undef else _) = _
            rw [hl2, cond_false]
        · cases hv
      · cases hv
  | index t y i =>
    simp only [valK] at hv
    unfold strIdxK at hv
    split at hv
    · split at hv
      · split at hv
        · injection hv with hv; subst hv; rfl
        · cases hv
      · cases hv
    · cases hv
  | load t y =>
    simp only [valK] at hv
    have h1 := h.opd_ y
    generalize opd σ y = u at h1 hv
    unfold loadK at hv
    split at hv
    · cases hv
    · split at hv
      · rename_i r j
        split at hv
        · rename_i cs hcs
          have hm := h.m_ r
          rw [hcs] at hm
          have hc : cs.map (Lf.drop e) = cs := by
            cases hb : Nat.beq r e with
            | true => rw [hb] at hm; cases hm
            | false =>
              rw [hb] at hm
              injection hm with hm
              injection hm
          exact finK_frs hv fun c hm => Lfs.of_map hc c (List.mem_of_mem_drop (List.mem_of_mem_take hm))
        · cases hv
      · refine finK_frs hv fun c hm => ?_
        obtain ⟨z, _, rfl⟩ := List.mem_map.1 hm
        rfl
      · rename_i j i s q
        obtain ⟨y, h2, hg, _⟩ := getK_det _ _ hv
        have hq : ∀ j', lastIs e (j' :: i :: s :: q) = false := by
          have h1 : (bif lastIs e (j :: i :: s :: q) then A.undef else .ptr (j :: i :: s :: q)) = .ptr (j :: i :: s :: q) := h1
          have hl : lastIs e (j :: i :: s :: q) = false := by
            cases hl : lastIs e (j :: i :: s :: q) with
            | false => rfl
            | true => rw [hl] at h1; cases h1
          intro j'
          unfold lastIs at hl ⊢
          simpa [List.getLast?_cons_cons] using hl
        split at h2
        · split at h2
          · split at h2
            · refine finK_frs h2 fun c hm => ?_
              obtain ⟨n, hn⟩ := List.getElem?_of_mem hm
              rw [leaves_get] at hn
              obtain ⟨z, _, rfl⟩ := Option.map_eq_some_iff.1 hn
              cases z.fro with
              | true => rfl
              | false =>
                show (bif lastIs e _ then Lf.dead else _) = _
                rw [hq]
                rfl
            · cases h2
          · cases h2
        · cases h2
      · cases hv
  | binOp f t y z yt => exact binAK_frs (by simpa only [valK] using hv)
  | call c =>
    obtain ⟨callee, ⟨args⟩, ⟨tys⟩⟩ := c
    cases callee with
    | builtin b =>
      cases b <;> try (cases hop)
      match args, tys, hv with
      | [y], [t], hv =>
        simp only [valK] at hv
        unfold lenK at hv
        split at hv
        · obtain ⟨_, h1, _⟩ := lfK_det hv
          split at h1
          · split at h1
            · injection h1 with h1; subst h1; rfl
            · cases h1
          · split at h1
            · injection h1 with h1; subst h1; rfl
            · cases h1
          · split at h1
            · injection h1 with h1; subst h1; rfl
            · cases h1
          · cases h1
        · cases hv
      | [], _, hv => cases hv
      | [_], [], hv => cases hv
      | [_], _ :: _ :: _, hv => cases hv
      | _ :: _ :: _, _, hv => cases hv
    | _ => cases hop
  | _ => cases hop
theorem isE_isV {op : Op} (h : isE op = true) : isV op = true := by
  cases op with
  | call c =>
    obtain ⟨callee, args, tys⟩ := c
    cases callee with
    | builtin b => cases b <;> first | rfl | cases h
    | _ => cases h
  | _ => first | rfl | cases h
theorem beside_back [Inhabited Wd] (hΦ : CtrsOK P Φ) {ops : Array Oper} {oj : Oper} {τ : S} (hx : Bare x) (hu : Uok e u) (he : e < 20000) (hb : besideE Φ oj = true) (hl : e ∉ oj.looksAt ops) (hd : oj.dst ≠ some e) (h : Frs e σ)
    (hτ : doK P N Φ ops (mks e x u σ) oj some = some τ) : ∃ σ', doK P N Φ ops σ oj some = some σ' /\ τ = mks e x u σ' /\ Frs e σ' := by
  have hmk : mks e x u σ = (σ.root e x).set e u := by
    unfold mks
    rw [show σ.drop e = σ from h]
  have hops : ∀ y ∈ oj.op.operands, opd (mks e x u σ) y = opd (σ.root e x) y := fun y hy => by
    rw [hmk]; exact looksAt_opd hl u hy
  have hw : wantK (mks e x u σ) ops oj = wantK σ ops oj := by
    rw [hmk]
    exact (wantK_c (looksAt_guard (σ := σ.root e x) hl u)).trans rfl
  unfold doK at hτ ⊢
  rw [hw] at hτ
  split at hτ
  · unfold besideE at hb
    rw [Bool.or_eq_true] at hb
    rcases hb with hb | hb
    · have hval : ∀ (k : A -> Option S), valK P (mks e x u σ) oj.op k = valK P σ oj.op k := fun k =>
        (valK_c (σ := σ.root e x) (σ2 := mks e x u σ) oj.op (by rw [hmk]; rfl) hops k).trans (h.val hb k)
      have hrun : ∀ σ2 : S, opK P N Φ σ2 oj some = valK P σ2 oj.op fun v => putK N σ2 oj.dst v some := by
        intro σ2
        unfold opK
        rw [isE_isV hb, cond_true]
      rw [hrun, hval] at hτ
      obtain ⟨v, h1, hdet, _⟩ := valK_ok (w0 := default) (N := N) hτ
      obtain ⟨h2, h3⟩ := putK_eq h1
      injection h2 with h2
      have hv := h.res hb (hdet.at_ (X := A) some)
      refine ⟨putS σ oj.dst v, ?_, ?_, h.put hv _⟩
      · rw [hrun]
        exact (hdet.at_ _).trans ((h3 σ).at_ _)
      · rw [<- h2, mks_put hd hv]
    · split at hb
      · rename_i f args tys ho
        split at hb
        · rename_i c hc
          have hrun : ∀ σ2, opK P N Φ σ2 oj some = withD oj fun d => callK N σ2 d c args.toList some := by
            intro σ2
            unfold opK
            rw [show isV oj.op = false by rw [ho]; rfl, cond_false]
            simp only [memK, ho, hc]
          rw [hrun] at hτ
          obtain ⟨d, hdd, hτ⟩ := withD_ok hτ
          have hde : d ≠ e := by rintro rfl; exact hd hdd
          obtain ⟨res, τ', h1, h2, h3⟩ := callK_det (hΦ f _ hc).2 hτ
          injection h2 with h2
          subst h2
          have hargs : ∀ y ∈ args.toList, (opd σ y).nr (eqB e) = true /\ y ≠ .tmp e := by
            intro y hy
            have hy' : y ∈ oj.op.operands := by
              rw [ho]
              simp only [Op.operands, Call.operands]
              simp only [Array.mem_append]
              first
                | exact .inr (by simpa using hy)
                | exact .inl (by simpa using hy)
            refine ⟨A.nr_of (h.opd_ y), ?_⟩
            rintro rfl
            exact hl (List.mem_append_left _ (List.mem_filterMap.2 ⟨.tmp e, by simpa using hy', rfl⟩))
          have hback : ∀ (X : Type) (k : List Pt -> Option X), argsK σ args.toList k = argsK (mks e x u σ) args.toList k := fun X k => (argsK_mks (eqB_self e) _ k hargs).symm
          unfold callS at h1 h3
          cases res with
          | one q =>
            simp only at h1 h3
            split at h1
            · rename_i y hy
              injection h1 with h1
              refine ⟨(resRt (1000000000100000 + 1000 * d) σ q.2).set d y, ?_, ?_, ?_⟩
              · rw [hrun]
                unfold withD
                rw [hdd]
                exact (h3 σ _ hback (by rw [hy])).at_ _
              · rw [<- h1, resRt_mks hx hu _ _ _ (by omega), mks_set hde (partA_drop hy (resLf_drop _ _ (by omega)))]
              · exact (Frs.resRt (d := 20000) he _ _ _ (by omega) h).set (partA_drop hy (resLf_drop _ _ (by omega))) d
            · cases h1
          | tup ps =>
            simp only at h1 h3
            injection h1 with h1
            refine ⟨(resRs (1000000000100000 + 1000 * d) σ ps).set d (.tup (resLs (1000000000100000 + 1000 * d) ps)), ?_, ?_, ?_⟩
            · rw [hrun]
              unfold withD
              rw [hdd]
              exact (h3 σ _ hback rfl).at_ _
            · rw [<- h1, resRs_mks hx hu _ _ _ (by omega), mks_set hde (tup_drop _ _ (by omega))]
            · exact (Frs.resRs (d := 20000) he _ _ _ (by omega) h).set (tup_drop _ _ (by omega)) d
        · cases hb
      · cases hb
  · obtain ⟨h2, h3⟩ := putK_eq hτ
    injection h2 with h2
    refine ⟨putS σ oj.dst .skip, (h3 σ).at_ _, ?_, h.put rfl _⟩
    rw [<- h2, mks_put hd rfl]
  · cases hτ
theorem Rl.dropd (h : Rl w0 N lab ρ σ a w) (d : Nat) : Rl w0 N lab ρ (σ.drop d) a w := by
  refine ⟨h.below, h.lab_ge, fun r y hy => ?_, fun k => (h.tmp k).rho fun _ _ => rfl, h.size, h.defers, h.fix, h.lim⟩
  have hy : (bif Nat.beq r d then none else (σ.m r).map (Root.drop d)) = some y := hy
  cases hb : Nat.beq r d with
  | true => rw [hb] at hy; cases hy
  | false =>
    rw [hb, cond_false] at hy
    obtain ⟨z, hz, rfl⟩ := Option.map_eq_some_iff.1 hy
    exact (h.root r z hz).rho (fun _ _ => rfl) (by rintro rfl; simp at hb)
theorem R.dropd (h : R w0 N σ a w) (d : Nat) : R w0 N (σ.drop d) a w := by
  obtain ⟨lab, ρ, h⟩ := h
  exact ⟨lab, ρ, h.dropd d⟩
theorem drawE_any [Inhabited Wd] (hΦ : CtrsOK P Φ) {ops : Array Oper} {k : S -> Option X} (h : drawE P N Φ ops σ k = some r) : ∃ σ0, (∀ w0 a w, R w0 N σ a w -> R w0 N σ0 a w) /\ Any P N Φ ops (fun τ => k τ = some r) ops.size 0 σ0 := by
  unfold drawE at h
  split at h
  · rename_i i hf
    have hc := List.find?_some hf
    have hi := List.mem_range.1 (List.mem_of_find?_eq_some hf)
    split at h
    · rename_i o ho
      split at h
      · rename_i e he
        unfold early at hc
        rw [ho] at hc
        simp only [Bool.and_eq_true] at hc
        obtain ⟨⟨⟨⟨⟨⟨_, c1⟩, c2⟩, c3⟩, c4⟩, c5⟩, c6⟩ := hc
        have hfr := freeB_spec _ _ c6
        have c5 := Nat.eq_of_beq_eq_true c5
        have hWL' : ∀ j, (waits ops i ops.size 0 0).testBit j = true -> (0 ||| 2 ^ i).testBit j = false := by
          intro j hj
          have : ((0 ||| 2 ^ i) &&& waits ops i ops.size 0 0).testBit j = false := by rw [c5]; exact Nat.zero_testBit j
          rw [Nat.testBit_and, hj, Bool.and_true] at this
          exact this
        have hg : o.guard = none := Option.isNone_iff_eq_none.1 c2
        have hwant : ∀ σ2, wantK σ2 ops o = some true := fun σ2 => by unfold wantK; rw [hg]
        obtain ⟨τ, h1, h2⟩ := doK_det hΦ h
        obtain ⟨e', x, u, hd, he', hx, hu, hτ, hall⟩ := mk_do c1 (hwant _) h2
        rw [he] at hd
        injection hd with hd
        subst hd
        obtain ⟨n, hn⟩ : ∃ n, ops.size = n + 1 := ⟨ops.size - 1, by omega⟩
        have hconst : ∀ σ2 y, y ∈ o.op.operands -> opd σ2 y = opd (σ.drop e) y := by
          intro σ2 y hy
          have := List.all_eq_true.1 c4 y (by simpa using hy)
          cases y with
          | const v => rfl
          | _ => cases this
        refine ⟨σ.drop e, fun w0 a w hR => hR.dropd e, ?_⟩
        have hA := drawK_any hΦ _ _ _ k h1
        rw [hτ] at hA
        have hsz : ops.size - 1 = n := by omega
        rw [hsz] at hA
        rw [hn]
        refine Any_gen (W := waits ops i ops.size 0 0) ho (fun j oj hoj hj => ?_) (fun σ => mks e x u σ) (fun _ σ => Frs e σ) (fun L σ' _ => hall σ' (hwant _) (hconst σ')) (fun L σ' j oj τ' hF hoj hji hjL hjW hτ' => ?_) n 0 (σ.drop e) (fun j _ => Nat.zero_testBit j) c3 (Frs.drop σ) hA
        · have hlt := (Array.getElem?_eq_some_iff.1 hoj).1
          rcases hfr j (by omega) (by omega) with e1 | e1 | e1 | e1
          · subst e1
            have := hWL' j hj
            rw [bit_or] at this
            simp at this
          · rw [Nat.zero_testBit] at e1; cases e1
          · exact waitsOn_spec hoj e1.2
          · rw [hj] at e1; cases e1.1
        · have hlt := (Array.getElem?_eq_some_iff.1 hoj).1
          rcases hfr j (by omega) (by omega) with e1 | e1 | e1 | e1
          · exact absurd e1 hji
          · rw [Nat.zero_testBit] at e1; cases e1
          · rw [hjW] at e1; cases e1.1
          · obtain ⟨b1, b2⟩ := e1.2 oj hoj
            obtain ⟨a1, a2, a3⟩ := Oper.apart_spec b2
            exact beside_back hΦ hx hu he' b1 (a1 e he) (fun hd => a2 e he hd) hF hτ'
      · cases h
    · cases h
  · exact ⟨σ, fun _ _ _ h => h, drawK_any hΦ _ _ _ _ h⟩
theorem regionE_ok [Inhabited Wd] (hΦ : CtrsOK P Φ) {ops : Array Oper} {id : Nat} {k : S -> Option X} (hm : P.follows .mixedOrders = true) (h : drawE P N Φ ops σ k = some r) {Q : Exit -> Act -> World -> Prop} (hQ : ∀ τ, k τ = some r -> ∀ a w, R w0 N τ a w -> Q .normal a w) (hR : R w0 N σ a w) :
    (Code.region id ops true).wp P Q a w := by
  obtain ⟨σ0, h1, h2⟩ := drawE_any hΦ h
  exact wp_region_any hm (Any_ok hΦ hQ _ _ _ _ h2 Same'.start a _ (h1 _ _ _ hR).drawn)
end
end Go.Proofs.YtckjagaogcbedaaGreat
namespace Go.Proofs.YtckjagaogcbedaaGreat
open Go.RowKit
set_option linter.unusedVariables false
section
variable {P : Program} {w w' : World} {w0 : Wd} {B N : Nat} {lab lab' : Lab} {ρ ρ' : Nat -> Loc} {σ : S} {a : Act} {X : Type} {d : Nat} {r : X} {o : Oper} {Φ : Ctrs} {Λ : Blks}
theorem splitK_ok {dst : Option Tmp} {g : Bool} {k : S -> Option X} (h : splitK σ dst g k = some r) : ∃ σ', k σ' = some r /\ ∀ a w, R w0 N σ a w -> R w0 N σ' a w := by
  unfold splitK at h
  cases g with
  | false => exact ⟨σ, h, fun _ _ h => h⟩
  | true =>
    rw [cond_true] at h
    split at h
    · rename_i d
      split at h
      · rename_i b hb
        have key : ∀ c : Bool, b = c -> ∀ a w, R w0 N σ a w -> R w0 N (σ.set d (.lf (.v (.bool c)))) a w := by
          rintro c rfl a w ⟨lab, ρ, hR⟩
          refine ⟨lab, ρ, hR.below, hR.lab_ge, hR.root, fun k => ?_, hR.size, hR.defers, hR.fix, hR.lim⟩
          show RA w w0.heap.size lab ρ (upd σ.t d (.lf (.v (.bool b))) k) _
          by_cases hk : k = d
          · subst hk
            rw [upd_same, <- hb]
            exact hR.tmp k
          · rw [upd_ne _ _ _ hk]
            exact hR.tmp k
        cases b with
        | true => exact ⟨_, h, key true rfl⟩
        | false => exact ⟨_, h, key false rfl⟩
      · exact ⟨σ, h, fun _ _ h => h⟩
    · exact ⟨σ, h, fun _ _ h => h⟩
theorem regK_ok (hΦ : CtrsOK P Φ) (ops : Array Oper) : ∀ (rest : List Oper) (j : Nat) (σ : S) (k : S -> Option X), regK P N Φ ops j rest σ k = some r -> ∃ σ', k σ' = some r /\ ∀ a w, R w0 N σ a w -> ∀ Q, (∀ a' w', R w0 N σ' a' w' -> Q Exit.normal a' w') -> wpList P ops Q rest a w
  | [], j, σ, k, h => ⟨σ, h, fun a w hR Q hQ => hQ a w hR⟩
  | o :: rest, j, σ, k, h => by
    unfold regK at h
    split at h
    · rename_i hwant
      obtain ⟨σ1, h1, hop⟩ := opFK_ok (w0 := w0) hΦ h
      obtain ⟨σ2, h2, hsp⟩ := splitK_ok (w0 := w0) (N := N) h1
      obtain ⟨σ3, h3, hrest⟩ := regK_ok hΦ ops rest (j + 1) σ2 k h2
      refine ⟨σ3, h3, fun a w hR Q hQ => ?_⟩
      obtain ⟨lab, ρ, hR'⟩ := hR
      simp only [wpList, wantK_ok hwant hR', if_true]
      exact .inl (hop a w _ Q ⟨lab, ρ, hR'⟩ fun a' w' hR1 => hrest a' w' (hsp a' w' hR1) Q hQ)
    · rename_i hwant
      unfold putK at h
      split at h
      · rename_i hd
        obtain ⟨σ3, h3, hrest⟩ := regK_ok hΦ ops rest (j + 1) σ k h
        refine ⟨σ3, h3, fun a w hR Q hQ => ?_⟩
        obtain ⟨lab, ρ, hR'⟩ := hR
        simp only [wpList, wantK_ok hwant hR', hd]
        exact hrest a w ⟨lab, ρ, hR'⟩ Q hQ
      · rename_i d hd
        cases hN : Nat.blt d N with
        | false => rw [hN] at h; cases h
        | true =>
          rw [hN, cond_true] at h
          obtain ⟨σ3, h3, hrest⟩ := regK_ok hΦ ops rest (j + 1) _ k h
          refine ⟨σ3, h3, fun a w hR Q hQ => ?_⟩
          obtain ⟨lab, ρ, hR'⟩ := hR
          simp only [wpList, wantK_ok hwant hR', hd]
          exact hrest _ w ⟨lab, ρ, hR'.set rfl (by have := Nat.le_of_ble_eq_true hN; omega)⟩ Q hQ
    · cases h
theorem codeK_ok (hΦ : CtrsOK P Φ) : ∀ (c : Code) (σ : S) (k : Exit -> S -> Option X), codeK P N Φ Λ c σ k = some r -> BlksOK P N Λ (occs c) -> AW P w0 N c σ fun e σ' => k e σ' = some r := by
  intro c
  induction c with
  | skip => exact fun σ k h _ a w hR => wp_skip ⟨σ, h, hR⟩
  | label l => exact fun σ k h _ a w hR => wp_label ⟨σ, h, hR⟩
  | ret => exact fun σ k h _ a w hR => wp_ret ⟨σ, h, hR⟩
  | exit id => exact fun σ k h _ a w hR => wp_exit ⟨σ, h, hR⟩
  | region id ops draw =>
    intro σ k h _ a w hR
    cases draw with
    | true =>
      simp only [codeK] at h
      cases hm : P.follows .mixedOrders with
      | false => rw [hm] at h; cases h
      | true =>
        rw [hm, cond_true] at h
        haveI : Inhabited Wd := ⟨w0⟩
        exact regionE_ok hΦ hm h (fun τ hτ a w hR => ⟨τ, hτ, hR⟩) hR
    | false =>
      simp only [codeK] at h
      obtain ⟨σ', h', hw⟩ := regK_ok (w0 := w0) hΦ ops _ _ _ _ h
      exact wp_region_list (hw a w hR _ fun a' w' hR' => ⟨σ', h', hR'⟩)
  | seq x y ihx ihy =>
    intro σ k h hΛ a w hR
    simp only [codeK] at h
    have h1 := ihx σ _ h (fun p hp => hΛ p (List.mem_append_left _ hp))
    refine wp_seq (wp_mono (h1 a w hR) fun e a' w' he => ?_)
    obtain ⟨σ', hk, hR'⟩ := he
    cases e with
    | normal => exact ihy σ' k hk (fun p hp => hΛ p (List.mem_append_right _ hp)) a' w' hR'
    | _ => exact ⟨σ', hk, hR'⟩
  | cond c x y ihx ihy =>
    intro σ k h hΛ a w hR
    simp only [codeK] at h
    split at h
    · rename_i b hb
      obtain ⟨lab, ρ, hR'⟩ := hR
      have hc := hR'.opd c
      rw [hb] at hc
      have hcv := hc.2.bool_inv
      cases b with
      | true => exact wp_cond_true hcv (ihx σ k h (fun p hp => hΛ p (List.mem_append_left _ hp)) a w ⟨lab, ρ, hR'⟩)
      | false => exact wp_cond_false hcv (ihy σ k h (fun p hp => hΛ p (List.mem_append_right _ hp)) a w ⟨lab, ρ, hR'⟩)
    · cases h
  | block id c ih =>
    intro σ k h hΛ a w hR
    simp only [codeK] at h
    split at h
    · rename_i b hb
      exact hΛ (id, c) (.head _) b hb X σ k r w0 h a w hR
    · have h1 := ih σ _ h (fun p hp => hΛ p (.tail _ hp))
      refine wp_block (wp_mono (h1 a w hR) fun e a' w' he => ?_)
      obtain ⟨σ', hk, hR'⟩ := he
      cases e with
      | exit id' =>
        simp only [Exit.inBlock]
        by_cases hid : id' = id
        · simp only [hid, if_true] at hk ⊢
          exact ⟨σ', hk, hR'⟩
        · simp only [hid, if_false] at hk ⊢
          exact ⟨σ', hk, hR'⟩
      | _ => exact ⟨σ', hk, hR'⟩
  | _ => exact fun σ k h => by simp [codeK] at h
end
/-! What a loop carries. -/
inductive Lm where
  | int (k : IntKind)
  | bool
  | str
  | own (r : Nat)
  | fro (t : TC) (o : Nat)
def Lm.T : Lm -> Type
  | .int _ => Int
  | .bool => Bool
  | .str => ByteArray
  | .own _ => Unit
  | .fro t _ => List (Proofs.YtckjagaogcbedaaGreat.T t)
def Lm.mk : (m : Lm) -> m.T -> Lf
  | .int k, n => .v (.int k n)
  | .bool, b => .v (.bool b)
  | .str, s => .v (.str s)
  | .own r, _ => .own [r]
  | .fro t o, l => .v (.sl t o false l)
def Lm.rd : (m : Lm) -> Lf -> Option m.T
  | .int k, .v (.int k' n) => if k' = k then some n else none
  | .bool, .v (.bool b) => some b
  | .str, .v (.str s) => some s
  | .own r, .own [r'] => bif Nat.beq r' r then some () else none
  | .fro t o, .v x => bif Nat.blt o 2 then x.asL t o else none
  | _, _ => none
inductive Tm where
  | lf (m : Lm)
  | bptr (r j : Nat)
  | fp (t : TC) (o : Nat)
  | fc (f : Nat) (t : TC)
  | ag (t : TC)
  | pk (r n : Nat)
def Tm.T : Tm -> Type
  | .lf m => m.T
  | .bptr _ _ => Unit
  | .fp t _ => Proofs.YtckjagaogcbedaaGreat.T t
  | .fc _ t => Proofs.YtckjagaogcbedaaGreat.T t
  | .ag t => Proofs.YtckjagaogcbedaaGreat.T t
  | .pk _ _ => Unit
def Tm.mk : (m : Tm) -> m.T -> A
  | .lf m, x => .lf (m.mk x)
  | .bptr r j, _ => .bptr r j
  | .fp t o, x => .fptr (enc t o x)
  | .fc f t, x => .ffn f (enc t 0 x)
  | .ag t, x => .agg ((enc t 0 x).map .v)
  | .pk r n, _ => .pk r n
def Tm.rd : (m : Tm) -> A -> Option m.T
  | .lf m, .lf x => m.rd x
  | .bptr r j, .bptr r' j' => bif Nat.beq r' r && Nat.beq j' j then some () else none
  | .fp t o, .fptr cs => bif Nat.blt o 2 then dec t o cs else none
  | .fc f t, .ffn f' cs => bif Nat.beq f' f then dec t 0 cs else none
  | .ag t, .agg cs => (match lfVs cs with
    | some vs => dec t 0 vs
    | none => none)
  | .pk r n, .pk r' n' => bif Nat.beq r' r && Nat.beq n' n then some () else none
  | _, _ => none
def LmsT : List Lm -> Type
  | [] => Unit
  | m :: ms => m.T × LmsT ms
def lmsMk : (ms : List Lm) -> LmsT ms -> List Lf
  | [], _ => []
  | m :: ms, x => m.mk x.1 :: lmsMk ms x.2
def lmsRd : (ms : List Lm) -> List Lf -> Option (LmsT ms)
  | [], [] => some ()
  | m :: ms, x :: xs => match m.rd x, lmsRd ms xs with
    | some y, some ys => some (y, ys)
    | _, _ => none
  | _, _ => none
inductive Rm where
  | sl (t : TC) (o : Nat)
  | st (t : TC)
  | blk (ms : List Lm)
  | mp
def Rm.T : Rm -> Type
  | .sl t _ => List (Proofs.YtckjagaogcbedaaGreat.T t)
  | .st t => Proofs.YtckjagaogcbedaaGreat.T t
  | .blk ms => LmsT ms
  | .mp => List (Int × Bool)
def Rm.mk : (m : Rm) -> m.T -> Root
  | .sl t o, l => .sl (.sl t o false l)
  | .st t, x => .blk ((enc t 0 x).map .v)
  | .blk ms, x => .blk (lmsMk ms x)
  | .mp, l => .mp l
def Rm.rd : (m : Rm) -> Root -> Option m.T
  | .sl t o, .sl y => y.asL t o
  | .st t, .blk cs => (match lfVs cs with
    | some vs => dec t 0 vs
    | none => none)
  | .blk ms, .blk cs => lmsRd ms cs
  | .mp, .mp l => some l
  | _, _ => none
def TmsT : List (Nat × Tm) -> Type
  | [] => Unit
  | (_, m) :: ms => m.T × TmsT ms
def tmsMk : (ms : List (Nat × Tm)) -> TmsT ms -> Nat -> A
  | [], _, _ => .undef
  | (n, m) :: ms, x, k => bif Nat.beq k n then m.mk x.1 else tmsMk ms x.2 k
def tmsRd : (ms : List (Nat × Tm)) -> (Nat -> A) -> Option (TmsT ms)
  | [], _ => some ()
  | (n, m) :: ms, t => match m.rd (t n), tmsRd ms t with
    | some x, some xs => some (x, xs)
    | _, _ => none
def RmsT : List (Nat × Rm) -> Type
  | [] => Unit
  | (_, m) :: ms => m.T × RmsT ms
def rmsMk : (ms : List (Nat × Rm)) -> RmsT ms -> Nat -> Option Root
  | [], _, _ => none
  | (n, m) :: ms, x, k => bif Nat.beq k n then some (m.mk x.1) else rmsMk ms x.2 k
def rmsRd : (ms : List (Nat × Rm)) -> (Nat -> Option Root) -> Option (RmsT ms)
  | [], _ => some ()
  | (n, m) :: ms, t => match (t n).bind m.rd, rmsRd ms t with
    | some x, some xs => some (x, xs)
    | _, _ => none
structure TplB where
  ts : List (Nat × Tm)
  rs : List (Nat × Rm)
def TplB.St (τ : TplB) : Type := TmsT τ.ts × RmsT τ.rs
def TplB.mk' (τ : TplB) (x : τ.St) : S := ⟨tmsMk τ.ts x.1, rmsMk τ.rs x.2⟩
def TplB.rd0 (τ : TplB) (σ : S) : Option τ.St := match tmsRd τ.ts σ.t, rmsRd τ.rs σ.m with
  | some x, some y => some (x, y)
  | _, _ => none
/-! Roots by other names. -/
abbrev Rn := List (Nat × Nat)
def Rn.inv (rs : Rn) (n : Nat) : Option Nat := (rs.find? fun p => Nat.beq p.2 n).map (·.1)
def Rn.add (rs : Rn) (r n : Nat) : Rn := bif rs.any (fun p => Nat.beq p.1 r && Nat.beq p.2 n) then rs else (r, n) :: rs
def optIs (n : Nat) : Option Nat -> Bool
  | some m => Nat.beq m n
  | none => false
def Rn.ok (rs : Rn) : Bool := rs.all fun p => (Nat.beq p.1 p.2 || Nat.ble 60000 p.2) && optIs p.2 (rs.lookup p.1) && optIs p.1 (rs.inv p.2)
def Lf.ren (rs : Rn) : Lf -> Lf
  | .v x => .v x
  | .own [r] => (match rs.lookup r with
    | some n => .own [n]
    | none => .dead)
  | _ => .dead
def A.ren (rs : Rn) : A -> A
  | .lf x => .lf (x.ren rs)
  | .bptr r j => (match rs.lookup r with
    | some n => .bptr n j
    | none => .undef)
  | .fptr cs => .fptr cs
  | .ffn f cs => .ffn f cs
  | .agg cs => .agg (cs.map (Lf.ren rs))
  | _ => .undef
def Root.ren (rs : Rn) : Root -> Root
  | .blk cs => .blk (cs.map (Lf.ren rs))
  | .sl y => .sl y
  | .mp l => .mp l
  | .gh _ => .gh []
def S.ren (rs : Rn) (σ : S) : S := ⟨fun k => (σ.t k).ren rs, fun n => match rs.inv n with
  | some r => (σ.m r).map (Root.ren rs)
  | none => none⟩
def rnL : Lm -> Lf -> Rn -> Rn
  | .own n, .own [r], rs => rs.add r n
  | _, _, rs => rs
def rnLs : List Lm -> List Lf -> Rn -> Rn
  | m :: ms, x :: xs, rs => rnLs ms xs (rnL m x rs)
  | _, _, rs => rs
def rnT : Tm -> A -> Rn -> Rn
  | .lf m, .lf x, rs => rnL m x rs
  | .bptr n j, .bptr r j', rs => rs.add r n
  | _, _, rs => rs
def rnTs (t : Nat -> A) : List (Nat × Tm) -> Rn -> Rn
  | [], rs => rs
  | (k, m) :: ms, rs => rnTs t ms (rnT m (t k) rs)
def rnRs (m : Nat -> Option Root) : List (Nat × Rm) -> Rn -> Rn
  | [], rs => rs
  | (n, x) :: xs, rs => rnRs m xs (match x, rs.inv n with
    | .blk ms, some r => (match m r with
      | some (.blk cs) => rnLs ms cs rs
      | _ => rs)
    | .blk ms, none => (match m n with
      | some (.blk cs) => rnLs ms cs (rs.add n n)
      | _ => rs)
    | _, some _ => rs
    | _, none => rs.add n n)
def TplB.rn (τ : TplB) (σ : S) : Rn := rnRs σ.m τ.rs (rnTs σ.t τ.ts [])
def nil1 (rs : List (Nat × Rm)) (p : Nat × Tm) (σ : S) : S := match p.2, σ.t p.1 with
  | .lf (.own n), .lf (.v .nil) => (match rs.lookup n with
    | some (.sl t o) => bif Nat.ble 60000 n then ⟨upd ((σ.drop n).root n (.sl (.sl t o false []))).t p.1 (.lf (.own [n])), ((σ.drop n).root n (.sl (.sl t o false []))).m⟩ else σ
    | _ => σ)
  | _, _ => σ
def nilsK (rs : List (Nat × Rm)) : List (Nat × Tm) -> S -> S
  | [], σ => σ
  | p :: ps, σ => nilsK rs ps (nil1 rs p σ)
def setNil (n j r : Nat) (σ : S) : S := match σ.m r with
  | some (.blk cs) => (match cs[j]? with
    | some (.v .nil) => ⟨σ.t, upd σ.m r (some (.blk (cs.set j (.own [n]))))⟩
    | _ => σ)
  | _ => σ
def nil2 (rs : List (Nat × Rm)) (n j r : Nat) (σ : S) : S := match rs.lookup n with
  | some (.sl t o) => bif Nat.ble 60000 n then setNil n j r ((σ.drop n).root n (.sl (.sl t o false []))) else σ
  | _ => σ
def nilsL (rs : List (Nat × Rm)) (r : Nat) : Nat -> List Lm -> List Lf -> S -> S
  | j, .own n :: ms, .v .nil :: cs, σ => nilsL rs r (j + 1) ms cs (nil2 rs n j r σ)
  | j, _ :: ms, _ :: cs, σ => nilsL rs r (j + 1) ms cs σ
  | _, _, _, σ => σ
def nilsC (rs : List (Nat × Rm)) : List (Nat × Rm) -> S -> S
  | [], σ => σ
  | (r, .blk ms) :: ps, σ => nilsC rs ps (match σ.m r with
    | some (.blk cs) => nilsL rs r 0 ms cs σ
    | _ => σ)
  | _ :: ps, σ => nilsC rs ps σ
def TplB.rd1 (τ : TplB) (σ : S) : Option τ.St := bif (τ.rn σ).ok then τ.rd0 (nilsC τ.rs τ.rs (σ.ren (τ.rn σ))) else none
def TplB.rd (τ : TplB) (σ : S) : Option τ.St := match τ.rd0 σ with
  | some x => some x
  | none => τ.rd1 (nilsK τ.rs τ.ts σ)
section
variable {P : Program} {w w' : World} {w0 : Wd} {B N : Nat} {lab lab' : Lab} {ρ ρ' : Nat -> Loc} {σ : S} {a : Act} {X : Type} {d : Nat} {r : X} {o : Oper} {Φ : Ctrs} {Λ : Blks}
theorem Lm.rd_ok {m : Lm} {x : Lf} {y : m.T} (h : m.rd x = some y) {u : Value} (hu : RLf w B lab ρ x u) : RLf w B lab ρ (m.mk y) u := by
  unfold Lm.rd at h
  split at h
  · split at h
    · rename_i hk; subst hk; injection h with h; subst h; exact hu
    · cases h
  · injection h with h; subst h; exact hu
  · injection h with h; subst h; exact hu
  · rename_i r' r''
    cases hb : Nat.beq r'' r' with
    | false => rw [hb] at h; cases h
    | true => obtain rfl := Nat.eq_of_beq_eq_true hb; exact hu
  · rename_i t o x
    cases hb : Nat.blt o 2 with
    | false => rw [hb] at h; cases h
    | true =>
      rw [hb] at h
      have h : V.asL t o x = some y := h
      have := Nat.le_of_ble_eq_true hb
      exact ⟨by simp [V.fro]; omega, hu.2.wk (V.asL_ok h)⟩
  · cases h
theorem Tm.rd_ok {m : Tm} {x : A} {y : m.T} (h : m.rd x = some y) {u : Value} (hu : RA w B lab ρ x u) : RA w B lab ρ (m.mk y) u := by
  cases m with
  | lf m =>
    cases x with
    | lf x => exact Lm.rd_ok (m := m) h hu
    | _ => cases h
  | bptr r j =>
    cases x with
    | bptr r' j' =>
      have h : (bif Nat.beq r' r && Nat.beq j' j then some () else none) = some y := h
      cases hb : (Nat.beq r' r && Nat.beq j' j) with
      | false => rw [hb] at h; cases h
      | true =>
        rw [Bool.and_eq_true] at hb
        obtain rfl := Nat.eq_of_beq_eq_true hb.1
        obtain rfl := Nat.eq_of_beq_eq_true hb.2
        exact hu
    | _ => cases h
  | fp t o =>
    cases x with
    | fptr cs =>
      have h : (bif Nat.blt o 2 then dec t o cs else none) = some y := h
      cases hb : Nat.blt o 2 with
      | false => rw [hb] at h; cases h
      | true =>
        rw [hb, cond_true] at h
        have ho := Nat.le_of_ble_eq_true hb
        have hk := dec_ok t o cs y h
        obtain ⟨b, off, h1, h2, h3, h4⟩ := hu
        refine ⟨b, off, h1, h2, h3, fun j z hz => ?_⟩
        have hj : j < cs.length := by rw [hk.1]; exact (List.getElem?_eq_some_iff.1 hz).1
        have hv := List.getElem?_eq_getElem hj
        obtain ⟨g1, v, g2, g3⟩ := h4 j _ hv
        exact ⟨enc_fro t o y (by omega) j z hz, v, g2, g3.wk (hk.2 j _ z hv hz)⟩
    | _ => cases h
  | fc f t =>
    cases x with
    | ffn f' cs =>
      have h : (bif Nat.beq f' f then dec t 0 cs else none) = some y := h
      cases hb : Nat.beq f' f with
      | false => rw [hb] at h; cases h
      | true =>
        rw [hb, cond_true] at h
        obtain rfl := Nat.eq_of_beq_eq_true hb
        have hk := dec_ok t 0 cs y h
        obtain ⟨pv, e0, b, off, h1, h2, h3, h4⟩ := hu
        refine ⟨pv, e0, b, off, h1, h2, h3, fun j z hz => ?_⟩
        have hj : j < cs.length := by rw [hk.1]; exact (List.getElem?_eq_some_iff.1 hz).1
        have hv := List.getElem?_eq_getElem hj
        obtain ⟨g1, v, g2, g3⟩ := h4 j _ hv
        exact ⟨enc_fro t 0 y (by omega) j z hz, v, g2, g3.wk (hk.2 j _ z hv hz)⟩
    | _ => cases h
  | ag t =>
    cases x with
    | agg cs =>
      have h : (match lfVs cs with | some vs => dec t 0 vs | none => none) = some y := h
      cases hvs : lfVs cs with
      | none => rw [hvs] at h; cases h
      | some vs =>
        rw [hvs] at h
        have h : dec t 0 vs = some y := h
        have hcs := lfVs_ok _ _ hvs
        have hk := dec_ok t 0 vs y h
        obtain ⟨us, h1, h2, h3⟩ := hu
        refine ⟨us, h1, ?_, fun j x hx => ?_⟩
        · rw [h2, hcs, List.length_map, List.length_map, hk.1]
        · rw [List.getElem?_map] at hx
          cases hz : (enc t 0 y)[j]? with
          | none => rw [hz] at hx; cases hx
          | some z =>
            rw [hz] at hx
            injection hx with hx
            subst hx
            have hj : j < vs.length := by rw [hk.1]; exact (List.getElem?_eq_some_iff.1 hz).1
            have hv := List.getElem?_eq_getElem hj
            obtain ⟨v, g1, g2⟩ := h3 j (.v vs[j]) (by rw [hcs, List.getElem?_map, hv]; rfl)
            exact ⟨v, g1, enc_fro t 0 y (by omega) j z hz, g2.2.wk (hk.2 j _ z hv hz)⟩
    | _ => cases h
  | pk r n =>
    cases x with
    | pk r' n' =>
      have h : (bif Nat.beq r' r && Nat.beq n' n then some () else none) = some y := h
      cases hb : (Nat.beq r' r && Nat.beq n' n) with
      | false => rw [hb] at h; cases h
      | true =>
        rw [Bool.and_eq_true] at hb
        obtain rfl := Nat.eq_of_beq_eq_true hb.1
        obtain rfl := Nat.eq_of_beq_eq_true hb.2
        exact hu
    | _ => cases h
theorem lmsRd_ok : ∀ (ms : List Lm) (cs : List Lf) (y : LmsT ms), lmsRd ms cs = some y -> (lmsMk ms y).length = cs.length /\ ∀ (j : Nat) x, (lmsMk ms y)[j]? = some x -> ∃ z, cs[j]? = some z /\ (∀ (w : World) (B : Nat) (lab : Lab) (ρ : Nat -> Loc) (u : Value), RLf w B lab ρ z u -> RLf w B lab ρ x u)
  | [], [], y, h => ⟨rfl, fun j x hx => by simp [lmsMk] at hx⟩
  | m :: ms, c :: cs, y, h => by
    unfold lmsRd at h
    split at h
    · rename_i y1 ys h1 h2
      injection h with h
      subst h
      obtain ⟨k1, k2⟩ := lmsRd_ok ms cs ys h2
      refine ⟨by simp [lmsMk, k1], fun j x hx => ?_⟩
      cases j with
      | zero => simp [lmsMk] at hx; subst hx; exact ⟨c, rfl, fun w B lab ρ u hu => Lm.rd_ok h1 hu⟩
      | succ j => exact k2 j x (by simpa [lmsMk] using hx)
    · cases h
  | [], _ :: _, y, h => by simp [lmsRd] at h
  | _ :: _, [], y, h => by simp [lmsRd] at h
theorem Rm.rd_ok {m : Rm} {x : Root} {y : m.T} (h : m.rd x = some y) {n : Nat} (hx : RootOK w B lab ρ n x) : RootOK w B lab ρ n (m.mk y) := by
  cases m with
  | sl t o =>
    cases hx with
    | sl v y' hρ hr => exact .sl v _ hρ (hr.wk (V.asL_ok h))
    | blk => cases h
    | mp => cases h
    | gh => cases h
  | mp =>
    cases hx with
    | gh => cases h
    | sl => cases h
    | blk => cases h
    | mp b c es l hρ hl hh he => injection h with h; subst h; exact .mp b c es _ hρ hl hh he
  | st t =>
    cases hx with
    | sl => cases h
    | mp => cases h
    | gh => cases h
    | blk b off cells e cs us hρ hl hh hs hc =>
      have h : (match lfVs cs with | some vs => dec t 0 vs | none => none) = some y := h
      cases hvs : lfVs cs with
      | none => rw [hvs] at h; cases h
      | some vs =>
        rw [hvs] at h
        have h : dec t 0 vs = some y := h
        have hcs := lfVs_ok _ _ hvs
        have hk := dec_ok t 0 vs y h
        refine .blk b off cells e _ us hρ hl hh (by rw [List.length_map, <- hk.1]; rw [hcs, List.length_map] at hs; exact hs) fun j x hx => ?_
        rw [List.getElem?_map] at hx
        cases hz : (enc t 0 y)[j]? with
        | none => rw [hz] at hx; cases hx
        | some z =>
          rw [hz] at hx
          injection hx with hx
          subst hx
          have hj : j < vs.length := by rw [hk.1]; exact (List.getElem?_eq_some_iff.1 hz).1
          have hv := List.getElem?_eq_getElem hj
          obtain ⟨h1, h2⟩ := hc j (.v vs[j]) (by rw [hcs, List.getElem?_map, hv]; rfl)
          exact ⟨h1, enc_fro t 0 y (by omega) j z hz, h2.2.wk (hk.2 j _ z hv hz)⟩
  | blk ms =>
    cases hx with
    | sl => cases h
    | mp => cases h
    | gh => cases h
    | blk b off cells e cs us hρ hl hh hs hc =>
      obtain ⟨k1, k2⟩ := lmsRd_ok ms cs y h
      refine .blk b off cells e _ us hρ hl hh (by show off + (lmsMk ms y).length <= _; rw [k1]; exact hs) fun j x hx => ?_
      obtain ⟨z, hz, hm⟩ := k2 j x hx
      exact ⟨(hc j z hz).1, hm _ _ _ _ _ (hc j z hz).2⟩
theorem tmsRd_ok : ∀ (ms : List (Nat × Tm)) (t : Nat -> A) (y : TmsT ms), tmsRd ms t = some y -> ∀ k, tmsMk ms y k = .undef \/ ∃ m z, (Tm.rd m (t k) = some z /\ tmsMk ms y k = m.mk z)
  | [], t, y, h, k => .inl rfl
  | (n, m) :: ms, t, y, h, k => by
    unfold tmsRd at h
    split at h
    · rename_i x xs h1 h2
      injection h with h
      subst h
      by_cases hk : k = n
      · subst hk
        exact .inr ⟨m, x, h1, by simp [tmsMk]⟩
      · have hb : Nat.beq k n = false := by
          cases hb : Nat.beq k n with
          | false => rfl
          | true => exact absurd (Nat.eq_of_beq_eq_true hb) hk
        simp only [tmsMk, hb, cond_false]
        exact tmsRd_ok ms t xs h2 k
    · cases h
theorem rmsRd_ok : ∀ (ms : List (Nat × Rm)) (t : Nat -> Option Root) (y : RmsT ms), rmsRd ms t = some y -> ∀ k, rmsMk ms y k = none \/ ∃ m x z, t k = some x /\ Rm.rd m x = some z /\ rmsMk ms y k = some (m.mk z)
  | [], t, y, h, k => .inl rfl
  | (n, m) :: ms, t, y, h, k => by
    unfold rmsRd at h
    split at h
    · rename_i x xs h1 h2
      injection h with h
      subst h
      by_cases hk : k = n
      · subst hk
        cases ht : t k with
        | none => rw [ht] at h1; cases h1
        | some z => rw [ht] at h1; exact .inr ⟨m, z, x, rfl, h1, by simp [rmsMk]⟩
      · have hb : Nat.beq k n = false := by
          cases hb : Nat.beq k n with
          | false => rfl
          | true => exact absurd (Nat.eq_of_beq_eq_true hb) hk
        simp only [rmsMk, hb, cond_false]
        exact rmsRd_ok ms t xs h2 k
    · cases h
theorem TplB.rd0_ok {τ : TplB} {x : τ.St} (h : τ.rd0 σ = some x) (hR : R w0 N σ a w) : R w0 N (τ.mk' x) a w := by
  unfold TplB.rd0 at h
  split at h
  · rename_i u v h1 h2
    injection h with h
    subst h
    obtain ⟨lab, ρ, hR⟩ := hR
    refine ⟨lab, ρ, hR.below, hR.lab_ge, fun n y hy => ?_, fun k => ?_, hR.size, hR.defers, hR.fix, hR.lim⟩
    · have hy : rmsMk τ.rs v n = some y := hy
      rcases rmsRd_ok τ.rs σ.m v h2 n with e | ⟨m, x, z, e1, e2, e3⟩
      · rw [e] at hy; cases hy
      · rw [e3] at hy
        injection hy with hy
        subst hy
        exact Rm.rd_ok e2 (hR.root n x e1)
    · show RA _ _ _ _ (tmsMk τ.ts u k) _
      rcases tmsRd_ok τ.ts σ.t u h1 k with e | ⟨m, z, e1, e2⟩
      · rw [e]; trivial
      · rw [e2]; exact Tm.rd_ok e1 (hR.tmp k)
  · cases h
theorem optIs_ok {n : Nat} {o : Option Nat} (h : optIs n o = true) : o = some n := by
  cases o with
  | none => cases h
  | some m => rw [Nat.eq_of_beq_eq_true h]
theorem rn_mem {rs : Rn} {r n : Nat} (h : rs.lookup r = some n) : (r, n) ∈ rs := by
  induction rs with
  | nil => cases h
  | cons p rs ih =>
    obtain ⟨x, y⟩ := p
    rw [List.lookup_cons] at h
    split at h
    · rename_i hb
      injection h with h
      subst h
      rw [eq_of_beq hb]
      exact .head _
    · exact .tail _ (ih h)
theorem inv_mem {rs : Rn} {r n : Nat} (h : rs.inv n = some r) : (r, n) ∈ rs := by
  unfold Rn.inv at h
  cases hf : rs.find? (fun p => Nat.beq p.2 n) with
  | none => rw [hf] at h; cases h
  | some p =>
    rw [hf] at h
    injection h with h
    subst h
    have h1 := List.find?_some hf
    have h2 := List.mem_of_find?_eq_some hf
    rw [<- Nat.eq_of_beq_eq_true h1]
    exact h2
def Rn.rho (rs : Rn) (ρ : Nat -> Loc) : Nat -> Loc := fun n => match rs.inv n with
  | some r => ρ r
  | none => ρ n
theorem Rn.ok_of {rs : Rn} (h : rs.ok = true) {r n : Nat} (hm : (r, n) ∈ rs) : (r = n \/ 60000 <= n) /\ rs.lookup r = some n /\ rs.inv n = some r := by
  have := List.all_eq_true.1 h _ hm
  rw [Bool.and_eq_true, Bool.and_eq_true, Bool.or_eq_true] at this
  refine ⟨?_, optIs_ok this.1.2, optIs_ok this.2⟩
  rcases this.1.1 with h | h
  · exact .inl (Nat.eq_of_beq_eq_true h)
  · exact .inr (Nat.le_of_ble_eq_true h)
theorem RLf.ren {rs : Rn} (hrs : rs.ok = true) {x : Lf} {u : Value} (h : RLf w B lab ρ x u) : RLf w B (relab lab rs id) (rs.rho ρ) (x.ren rs) u := by
  unfold Lf.ren
  split
  · exact ⟨h.1, h.2.froR h.1 fun b => relab_none⟩
  · rename_i r
    split
    · rename_i n hn
      have hi := (Rn.ok_of hrs (rn_mem hn)).2.2
      refine ⟨h.1, ?_⟩
      have h2 := h.2
      simp only [valAt] at h2 ⊢
      unfold Rn.rho
      rw [hi]
      exact h2
    · trivial
  · trivial
theorem Rl.ren {rs : Rn} (hrs : rs.ok = true) (h : Rl w0 N lab ρ σ a w) : Rl w0 N (relab lab rs id) (rs.rho ρ) (σ.ren rs) a w := by
  have hl : ∀ b r n, lab b = some [r] -> rs.lookup r = some n -> relab lab rs id b = some [n] := by
    intro b r n h1 h2
    simp [relab, h1, h2]
  refine ⟨h.below, fun b k hk => ?_, fun n x hx => ?_, fun k => ?_, h.size, h.defers, fun r l hr => ?_, h.lim⟩
  · unfold relab at hk
    split at hk
    · cases hk
    · rename_i k0 hk0
      split at hk
      · cases hk
      · rename_i r hr
        cases hn : rs.lookup r with
        | none => rw [hn] at hk; cases hk
        | some n =>
          rw [hn] at hk
          injection hk with hk
          subst hk
          obtain ⟨h1, h2, _⟩ := h.lab_ge b k0 hk0
          exact ⟨h1, h2, by simp⟩
  · have hx : (match rs.inv n with | some r => (σ.m r).map (Root.ren rs) | none => none) = some x := hx
    cases hi : rs.inv n with
    | none => rw [hi] at hx; cases hx
    | some r =>
      rw [hi] at hx
      have hx : (σ.m r).map (Root.ren rs) = some x := hx
      have hlk := (Rn.ok_of hrs (inv_mem hi)).2.1
      have hρ : rs.rho ρ n = ρ r := by unfold Rn.rho; rw [hi]
      cases hm : σ.m r with
      | none => rw [hm] at hx; cases hx
      | some y =>
        rw [hm] at hx
        injection hx with hx
        subst hx
        cases h.root r y hm with
        | blk b off cells e cs us h1 h2 hh hs hc =>
          refine .blk b off cells e _ us (hρ.trans h1) (hl b r n h2 hlk) hh (by rw [List.length_map]; exact hs) fun j x hx => ?_
          rw [List.getElem?_map] at hx
          cases hz : cs[j]? with
          | none => rw [hz] at hx; cases hx
          | some z =>
            rw [hz] at hx
            injection hx with hx
            subst hx
            exact ⟨(hc j z hz).1, (hc j z hz).2.ren hrs⟩
        | sl v y h1 h2 =>
          exact .sl v y (hρ.trans h1) (RV.relab (p := []) (nm := id) h2 hlk)
        | mp b c es l h1 h2 hh he => exact .mp b c es l (hρ.trans h1) (hl b r n h2 hlk) hh he
        | gh us xs h1 hx => exact .gh us _ (hρ.trans h1) fun j x hj => by simp at hj
  · show RA _ _ _ _ ((σ.t k).ren rs) _
    have hk := h.tmp k
    generalize σ.t k = x at hk
    unfold A.ren
    split
    · exact hk.ren hrs
    · rename_i r j
      split
      · rename_i n hn
        have hi := (Rn.ok_of hrs (rn_mem hn)).2.2
        obtain ⟨b, off, h1, h2⟩ := hk
        exact ⟨b, off, by unfold Rn.rho; rw [hi]; exact h1, h2⟩
      · trivial
    · obtain ⟨b, off, g1, g2, g3, g4⟩ := hk
      refine ⟨b, off, g1, g2, relab_none g3, fun j x hx => ?_⟩
      obtain ⟨f1, v, f2, f3⟩ := g4 j x hx
      exact ⟨f1, v, f2, f3.froR f1 fun b => relab_none⟩
    · obtain ⟨pv, e0, b, off, g1, g2, g3, g4⟩ := hk
      refine ⟨pv, e0, b, off, g1, g2, relab_none g3, fun j x hx => ?_⟩
      obtain ⟨f1, v, f2, f3⟩ := g4 j x hx
      exact ⟨f1, v, f2, f3.froR f1 fun b => relab_none⟩
    · obtain ⟨us, g1, g2, g3⟩ := hk
      refine ⟨us, g1, by rw [List.length_map]; exact g2, fun j x hx => ?_⟩
      rw [List.getElem?_map] at hx
      rename_i cs
      cases hz : cs[j]? with
      | none => rw [hz] at hx; cases hx
      | some z =>
        rw [hz] at hx
        injection hx with hx
        subst hx
        obtain ⟨v, f1, f2⟩ := g3 j z hz
        exact ⟨v, f1, f2.ren hrs⟩
    · trivial
  · show rs.rho ρ r = l
    unfold Rn.rho
    split
    · rename_i r0 hi
      rcases (Rn.ok_of hrs (inv_mem hi)).1 with e | e
      · rw [e]; exact h.fix r l hr
      · rw [h.lim r (.inr e)] at hr; cases hr
    · exact h.fix r l hr
theorem nil1_ok {rs : List (Nat × Rm)} {p : Nat × Tm} (hR : R w0 N σ a w) : R w0 N (nil1 rs p σ) a w := by
  unfold nil1
  split
  · rename_i n hp hk
    split
    · rename_i t o hl
      cases hb : Nat.ble 60000 n with
      | false => exact hR
      | true =>
        have hn := Nat.le_of_ble_eq_true hb
        obtain ⟨lab, ρ, hR⟩ := hR
        have hu := hR.tmp p.1
        rw [hk] at hu
        have hu2 : a.tmps.getD p.1 undef = .slice none 0 0 := by
          have h2 := hu.2
          generalize a.tmps.getD p.1 undef = u at h2
          cases h2
          rfl
        have h1 := hR.new (d := n) (x := .sl (.sl t o false [])) (.hdr (.slice none 0 0)) (.sl _ _ (upd_same _ _ _) (.slNil _ _ _)) (hR.lim n (.inr hn))
        refine ⟨lab, _, h1.below, h1.lab_ge, h1.root, fun k => ?_, h1.size, h1.defers, h1.fix, h1.lim⟩
        show RA _ _ _ _ (upd ((σ.drop n).root n (.sl (.sl t o false []))).t p.1 (.lf (.own [n])) k) _
        by_cases hkp : k = p.1
        · subst hkp
          rw [upd_same, hu2]
          exact ⟨rfl, by simp only [valAt, upd_same]⟩
        · rw [upd_ne _ _ _ hkp]
          exact h1.tmp k
    · exact hR
  · exact hR
theorem setNil_ok {n j r : Nat} {y : V} (hR : Rl w0 N lab ρ σ a w) (hn : ρ n = .hdr (.slice none 0 0)) : Rl w0 N lab ρ (setNil n j r σ) a w := by
  unfold setNil
  split
  · rename_i cs hm
    split
    · rename_i hj
      refine ⟨hR.below, hR.lab_ge, fun r' x hx => ?_, hR.tmp, hR.size, hR.defers, hR.fix, hR.lim⟩
      have hx : upd σ.m r (some (.blk (cs.set j (.own [n])))) r' = some x := hx
      by_cases hr : r' = r
      · subst hr
        rw [upd_same] at hx
        injection hx with hx
        subst hx
        cases hR.root r' _ hm with
        | blk b off cells e cs us h1 h2 hh hs hc =>
          refine .blk b off cells e _ us h1 h2 hh (by rw [List.length_set]; exact hs) fun i z hz => ?_
          rw [List.getElem?_set] at hz
          by_cases hi : j = i
          · subst hi
            have hlt : j < cs.length := (List.getElem?_eq_some_iff.1 hj).1
            rw [if_pos rfl, if_pos hlt] at hz
            injection hz with hz
            subst hz
            obtain ⟨k1, k2⟩ := hc j _ hj
            refine ⟨k1, ?_⟩
            have hu : us j = .slice none 0 0 := by
              have h2 := k2.2
              generalize us j = u at h2
              cases h2
              rfl
            rw [hu]
            exact ⟨rfl, by simp only [valAt, hn]⟩
          · rw [if_neg hi] at hz
            exact hc i z hz
      · rw [upd_ne _ _ _ hr] at hx
        exact hR.root r' x hx
    · exact hR
  · exact hR
theorem nil2_ok {rs : List (Nat × Rm)} {n j r : Nat} (hR : R w0 N σ a w) : R w0 N (nil2 rs n j r σ) a w := by
  unfold nil2
  split
  · rename_i t o hl
    cases hb : Nat.ble 60000 n with
    | false => exact hR
    | true =>
      have hn := Nat.le_of_ble_eq_true hb
      obtain ⟨lab, ρ, hR⟩ := hR
      exact ⟨lab, _, setNil_ok (y := .nil) (hR.new (d := n) (x := .sl (.sl t o false [])) (.hdr (.slice none 0 0)) (.sl _ _ (upd_same _ _ _) (.slNil _ _ _)) (hR.lim n (.inr hn))) (upd_same _ _ _)⟩
  · exact hR
theorem nilsL_ok {rs : List (Nat × Rm)} {r : Nat} : ∀ (ms : List Lm) (cs : List Lf) (j : Nat) (σ : S), R w0 N σ a w -> R w0 N (nilsL rs r j ms cs σ) a w
  | [], cs, j, σ, h => by unfold nilsL; exact h
  | m :: ms, [], j, σ, h => by
    unfold nilsL
    split <;> first | exact h | contradiction
  | m :: ms, c :: cs, j, σ, h => by
    unfold nilsL
    split
    · rename_i e1 e2; cases e1; cases e2; exact nilsL_ok ms cs _ _ (nil2_ok h)
    · rename_i e1 e2; cases e1; cases e2; exact nilsL_ok ms cs _ _ h
    · exact h
theorem nilsC_ok {rs : List (Nat × Rm)} : ∀ (ps : List (Nat × Rm)) (σ : S), R w0 N σ a w -> R w0 N (nilsC rs ps σ) a w
  | [], σ, h => h
  | (r, .sl t o) :: ps, σ, h => nilsC_ok ps σ h
  | (r, .st t) :: ps, σ, h => nilsC_ok ps σ h
  | (r, .mp) :: ps, σ, h => nilsC_ok ps σ h
  | (r, .blk ms) :: ps, σ, h => by
    unfold nilsC
    refine nilsC_ok ps _ ?_
    split
    · exact nilsL_ok ms _ 0 σ h
    · exact h
theorem nilsK_ok {rs : List (Nat × Rm)} : ∀ (ps : List (Nat × Tm)) (σ : S), R w0 N σ a w -> R w0 N (nilsK rs ps σ) a w
  | [], σ, h => h
  | p :: ps, σ, h => nilsK_ok ps _ (nil1_ok h)
theorem TplB.rd_ok {τ : TplB} {x : τ.St} (h : τ.rd σ = some x) (hR : R w0 N σ a w) : R w0 N (τ.mk' x) a w := by
  unfold TplB.rd at h
  split at h
  · rename_i y hy
    injection h with h
    subst h
    exact TplB.rd0_ok hy hR
  · have hR := nilsK_ok (rs := τ.rs) τ.ts σ hR
    revert h hR
    generalize nilsK τ.rs τ.ts σ = σ'
    intro h hR
    unfold TplB.rd1 at h
    cases hb : (τ.rn σ').ok with
    | false => rw [hb] at h; cases h
    | true =>
      rw [hb, cond_true] at h
      obtain ⟨lab, ρ, hR⟩ := hR
      exact TplB.rd0_ok h (nilsC_ok τ.rs _ ⟨_, _, hR.ren hb⟩)
end
end Go.Proofs.YtckjagaogcbedaaGreat
namespace Go.Proofs.YtckjagaogcbedaaGreat
open Go.RowKit
set_option linter.unusedVariables false
def owC : List V -> List Nat -> List Lf
  | [], _ => []
  | x :: xs, ns => bif x.plain then .v x :: owC xs ns else (match ns with
    | n :: ns => .own [n] :: owC xs ns
    | [] => .dead :: owC xs [])
def owM : List V -> List Nat -> (Nat -> Option Root) -> Nat -> Option Root
  | [], _, m, k => m k
  | x :: xs, ns, m, k => bif x.plain then owM xs ns m k else (match ns with
    | n :: ns => bif Nat.beq k n then some (.sl x) else owM xs ns m k
    | [] => owM xs [] m k)
def owV (m : Nat -> Option Root) : List Lf -> List Nat -> Option (List V)
  | [], [] => some []
  | .v x :: cs, ns => bif x.plain then (match owV m cs ns with
    | some vs => some (x :: vs)
    | none => none) else none
  | .own [r] :: cs, n :: ns => bif Nat.beq r n then (match m n with
    | some (.sl y) => bif y.plain then none else (match owV m cs ns with
      | some vs => some (y :: vs)
      | none => none)
    | _ => none) else none
  | _, _ => none
abbrev Gp := Nat × TC × Nat × List Nat
def gsT : List Gp -> Type -> Type
  | [], X => X
  | g :: gs, X => T g.2.1 × gsT gs X
def gsMk : (gs : List Gp) -> (rs : List (Nat × Rm)) -> gsT gs (RmsT rs) -> Nat -> Option Root
  | [], rs, x, k => rmsMk rs x k
  | (n, t, o, ns) :: gs, rs, x, k => bif Nat.beq k n then some (.blk (owC (enc t o x.1) ns)) else owM (enc t o x.1) ns (gsMk gs rs x.2) k
def gsRd : (gs : List Gp) -> (rs : List (Nat × Rm)) -> (Nat -> Option Root) -> Option (gsT gs (RmsT rs))
  | [], rs, m => rmsRd rs m
  | (n, t, o, ns) :: gs, rs, m => match m n with
    | some (.blk cs) => (match owV m cs ns with
      | some vs => (match dec t o vs, gsRd gs rs m with
        | some x, some y => some (x, y)
        | _, _ => none)
      | none => none)
    | _ => none
def owMs : List V -> List Nat -> List Lm
  | [], _ => []
  | .int k _ :: xs, ns => .int k :: owMs xs ns
  | .bool _ :: xs, ns => .bool :: owMs xs ns
  | .str _ :: xs, ns => .str :: owMs xs ns
  | _ :: xs, n :: ns => .own n :: owMs xs ns
  | _ :: xs, [] => .bool :: owMs xs []
def owRs : List V -> List Nat -> List (Nat × Rm)
  | .sl t o _ _ :: xs, n :: ns => (n, .sl t o) :: owRs xs ns
  | _ :: xs, ns => owRs xs ns
  | [], _ => []
def gsAll : List Gp -> List (Nat × Rm) -> List (Nat × Rm)
  | [], rs => rs
  | (n, t, o, ns) :: gs, rs => (n, .blk (owMs (shp t o) ns)) :: (owRs (shp t o) ns ++ gsAll gs rs)
structure Tpl where
  ts : List (Nat × Tm)
  rs : List (Nat × Rm)
  gs : List Gp
def Tpl.St (τ : Tpl) : Type := TmsT τ.ts × gsT τ.gs (RmsT τ.rs)
def Tpl.mk' (τ : Tpl) (x : τ.St) : S := ⟨tmsMk τ.ts x.1, gsMk τ.gs τ.rs x.2⟩
def Tpl.rdG (τ : Tpl) (σ : S) : Option τ.St := match tmsRd τ.ts σ.t, gsRd τ.gs τ.rs σ.m with
  | some x, some y => some (x, y)
  | _, _ => none
def Tpl.rd (τ : Tpl) (σ : S) : Option τ.St := match τ.rdG σ with
  | some x => some x
  | none => match TplB.rd ⟨τ.ts, gsAll τ.gs τ.rs⟩ σ with
    | some z => τ.rdG (TplB.mk' ⟨τ.ts, gsAll τ.gs τ.rs⟩ z)
    | none => none
section
variable {P : Program} {w w' : World} {w0 : Wd} {B N : Nat} {lab lab' : Lab} {ρ ρ' : Nat -> Loc} {σ : S} {a : Act} {m : Nat -> Option Root}
theorem Wks.inv {x : V} {xs ys : List V} (k : Wks (x :: xs) ys) : ∃ y zs, ys = y :: zs /\ Wk x y /\ Wks xs zs := by
  obtain ⟨k1, k2⟩ := k
  cases ys with
  | nil => simp at k1
  | cons y zs => exact ⟨y, zs, rfl, k2 0 x y rfl rfl, by simpa using k1, fun j a b ha hb => k2 (j + 1) a b (by simpa using ha) (by simpa using hb)⟩
theorem Wk.plain_eq {x y : V} (h : Wk x y) (hp : x.plain = true) : y = x := by
  cases h <;> first | rfl | cases hp
theorem Wk.plain_no {x y : V} (h : Wk x y) (hp : x.plain = false) : y.plain = false := by
  cases h <;> first | exact hp | rfl
theorem owC_ok : ∀ (cs : List Lf) (ns : List Nat) (vs ys : List V), owV m cs ns = some vs -> Wks vs ys -> (owC ys ns).length = cs.length /\ ∀ (j : Nat) z, (owC ys ns)[j]? = some z -> cs[j]? = some z
  | [], [], vs, ys, h, hw => by
    simp only [owV, Option.some.injEq] at h
    subst h
    have : ys = [] := List.eq_nil_of_length_eq_zero hw.1.symm
    subst this
    exact ⟨rfl, fun j z hz => by simp [owC] at hz⟩
  | .v x :: cs, ns, vs, ys, h, hw => by
    unfold owV at h
    cases hp : x.plain with
    | false => rw [hp] at h; cases h
    | true =>
      rw [hp, cond_true] at h
      split at h
      · rename_i us hus
        injection h with h
        subst h
        obtain ⟨y, zs, rfl, k1, k2⟩ := hw.inv
        obtain rfl := k1.plain_eq hp
        obtain ⟨e1, e2⟩ := owC_ok cs ns us zs hus k2
        simp only [owC, hp, cond_true]
        refine ⟨by simp [e1], fun j z hz => ?_⟩
        cases j with
        | zero => simpa using hz
        | succ j => exact e2 j z (by simpa using hz)
      · cases h
  | .own [r] :: cs, n :: ns, vs, ys, h, hw => by
    unfold owV at h
    cases hb : Nat.beq r n with
    | false => rw [hb] at h; cases h
    | true =>
      rw [hb, cond_true] at h
      obtain rfl := Nat.eq_of_beq_eq_true hb
      split at h
      · rename_i y hy
        cases hp : y.plain with
        | true => rw [hp] at h; cases h
        | false =>
          rw [hp, cond_false] at h
          split at h
          · rename_i us hus
            injection h with h
            subst h
            obtain ⟨y', zs, rfl, k1, k2⟩ := hw.inv
            have hq := k1.plain_no hp
            obtain ⟨e1, e2⟩ := owC_ok cs ns us zs hus k2
            simp only [owC, hq, cond_false]
            refine ⟨by simp [e1], fun j z hz => ?_⟩
            cases j with
            | zero => simpa using hz
            | succ j => exact e2 j z (by simpa using hz)
          · cases h
      · cases h
  | [], _ :: _, vs, ys, h, _ => by simp [owV] at h
  | .dead :: _, _, vs, ys, h, _ => by simp [owV] at h
  | .own [] :: _, _, vs, ys, h, _ => by simp [owV] at h
  | .own (_ :: _ :: _) :: _, _, vs, ys, h, _ => by simp [owV] at h
  | .own [_] :: _, [], vs, ys, h, _ => by simp [owV] at h
theorem owM_ok {f : Nat -> Option Root} {k : Nat} {x : Root} : ∀ (cs : List Lf) (ns : List Nat) (vs ys : List V), owV m cs ns = some vs -> Wks vs ys -> owM ys ns f k = some x -> f k = some x \/ ∃ v y, m k = some (.sl v) /\ x = .sl y /\ Wk v y
  | [], [], vs, ys, h, hw, hx => by
    simp only [owV, Option.some.injEq] at h
    subst h
    have : ys = [] := List.eq_nil_of_length_eq_zero hw.1.symm
    subst this
    exact .inl hx
  | .v x' :: cs, ns, vs, ys, h, hw, hx => by
    unfold owV at h
    cases hp : x'.plain with
    | false => rw [hp] at h; cases h
    | true =>
      rw [hp, cond_true] at h
      split at h
      · rename_i us hus
        injection h with h
        subst h
        obtain ⟨y, zs, rfl, k1, k2⟩ := hw.inv
        obtain rfl := k1.plain_eq hp
        simp only [owM, hp, cond_true] at hx
        exact owM_ok cs ns us zs hus k2 hx
      · cases h
  | .own [r] :: cs, n :: ns, vs, ys, h, hw, hx => by
    unfold owV at h
    cases hb : Nat.beq r n with
    | false => rw [hb] at h; cases h
    | true =>
      rw [hb, cond_true] at h
      obtain rfl := Nat.eq_of_beq_eq_true hb
      split at h
      · rename_i y hy
        cases hp : y.plain with
        | true => rw [hp] at h; cases h
        | false =>
          rw [hp, cond_false] at h
          split at h
          · rename_i us hus
            injection h with h
            subst h
            obtain ⟨y', zs, rfl, k1, k2⟩ := hw.inv
            have hq := k1.plain_no hp
            simp only [owM, hq, cond_false] at hx
            cases hk : Nat.beq k r with
            | true =>
              rw [hk, cond_true] at hx
              injection hx with hx
              obtain rfl := Nat.eq_of_beq_eq_true hk
              exact .inr ⟨y, y', hy, hx.symm, k1⟩
            | false =>
              rw [hk, cond_false] at hx
              exact owM_ok cs ns us zs hus k2 hx
          · cases h
      · cases h
  | [], _ :: _, vs, ys, h, _, _ => by simp [owV] at h
  | .dead :: _, _, vs, ys, h, _, _ => by simp [owV] at h
  | .own [] :: _, _, vs, ys, h, _, _ => by simp [owV] at h
  | .own (_ :: _ :: _) :: _, _, vs, ys, h, _, _ => by simp [owV] at h
  | .own [_] :: _, [], vs, ys, h, _, _ => by simp [owV] at h
theorem gsRd_ok : ∀ (gs : List Gp) (rs : List (Nat × Rm)) (y : gsT gs (RmsT rs)), gsRd gs rs m = some y -> ∀ k x, gsMk gs rs y k = some x -> ∃ x0, m k = some x0 /\ ∀ (w : World) (B : Nat) (lab : Lab) (ρ : Nat -> Loc), RootOK w B lab ρ k x0 -> RootOK w B lab ρ k x
  | [], rs, y, h, k, x, hx => by
    have h : rmsRd rs m = some y := h
    have hx : rmsMk rs y k = some x := hx
    rcases rmsRd_ok rs m y h k with e | ⟨m', x0, z, e1, e2, e3⟩
    · rw [e] at hx; cases hx
    · rw [e3] at hx
      injection hx with hx
      subst hx
      exact ⟨x0, e1, fun w B lab ρ hr => Rm.rd_ok e2 hr⟩
  | (n, t, o, ns) :: gs, rs, y, h, k, x, hx => by
    unfold gsRd at h
    split at h
    · rename_i cs hm
      split at h
      · rename_i vs hvs
        split at h
        · rename_i x1 y1 h1 h2
          injection h with h
          subst h
          have hw := dec_ok t o vs x1 h1
          simp only [gsMk] at hx
          cases hk : Nat.beq k n with
          | true =>
            rw [hk, cond_true] at hx
            injection hx with hx
            subst hx
            obtain rfl := Nat.eq_of_beq_eq_true hk
            obtain ⟨e1, e2⟩ := owC_ok cs ns vs _ hvs hw
            refine ⟨_, hm, fun w B lab ρ hr => ?_⟩
            cases hr with
            | blk b off cells e _ us hρ hl hh hs hc => exact .blk b off cells e _ us hρ hl hh (by rw [e1]; exact hs) fun j z hz => hc j z (e2 j z hz)
          | false =>
            rw [hk, cond_false] at hx
            rcases owM_ok cs ns vs _ hvs hw hx with e | ⟨v, y', e1, rfl, e2⟩
            · exact gsRd_ok gs rs y1 h2 k x e
            · refine ⟨_, e1, fun w B lab ρ hr => ?_⟩
              cases hr with
              | sl u _ hρ hr => exact .sl u _ hρ (hr.wk e2)
        · cases h
      · cases h
    · cases h
theorem Tpl.rdG_ok {τ : Tpl} {x : τ.St} (h : τ.rdG σ = some x) (hR : R w0 N σ a w) : R w0 N (τ.mk' x) a w := by
  unfold Tpl.rdG at h
  split at h
  · rename_i u v h1 h2
    injection h with h
    subst h
    obtain ⟨lab, ρ, hR⟩ := hR
    refine ⟨lab, ρ, hR.below, hR.lab_ge, fun n y hy => ?_, fun k => ?_, hR.size, hR.defers, hR.fix, hR.lim⟩
    · obtain ⟨x0, e1, e2⟩ := gsRd_ok τ.gs τ.rs v h2 n y hy
      exact e2 _ _ _ _ (hR.root n x0 e1)
    · show RA _ _ _ _ (tmsMk τ.ts u k) _
      rcases tmsRd_ok τ.ts σ.t u h1 k with e | ⟨m, z, e1, e2⟩
      · rw [e]; trivial
      · rw [e2]; exact Tm.rd_ok e1 (hR.tmp k)
  · cases h
theorem Tpl.rd_ok {τ : Tpl} {x : τ.St} (h : τ.rd σ = some x) (hR : R w0 N σ a w) : R w0 N (τ.mk' x) a w := by
  unfold Tpl.rd at h
  split at h
  · rename_i y hy
    injection h with h
    subst h
    exact Tpl.rdG_ok hy hR
  · split at h
    · rename_i z hz
      exact Tpl.rdG_ok h (TplB.rd_ok hz hR)
    · cases h
end
end Go.Proofs.YtckjagaogcbedaaGreat
namespace Go.Proofs.YtckjagaogcbedaaGreat
open Go.RowKit
set_option linter.unusedVariables false
def exNo : Exit -> Option Nat
  | .normal => some 0
  | .ret => some 1
  | .exit n => some (n + 2)
  | _ => none
def exOf : Nat -> Exit
  | 0 => .normal
  | 1 => .ret
  | n + 2 => .exit n
theorem exNo_ok {e : Exit} {n : Nat} (h : exNo e = some n) : e = exOf n := by
  cases e <;> simp [exNo] at h <;> subst h <;> rfl
def SumT : List (Nat × Tpl) -> Type
  | [] => Empty
  | (_, τ) :: r => τ.St ⊕ SumT r
def rdX : (l : List (Nat × Tpl)) -> Nat -> S -> Option (SumT l)
  | [], _, _ => none
  | (n, τ) :: r, e, σ => bif Nat.beq n e then (match τ.rd σ with
    | some x => some (.inl x)
    | none => none) else (match rdX r e σ with
    | some x => some (.inr x)
    | none => none)
def contX {X : Type} : (l : List (Nat × Tpl)) -> SumT l -> (Exit -> S -> Option X) -> Option X
  | [], z, _ => nomatch z
  | (n, τ) :: r, z, k => match z with
    | .inl x => k (exOf n) (τ.mk' x)
    | .inr z => contX r z k
def iter {α β : Type} (step : α -> Option (α ⊕ β)) : Nat -> α -> Option β
  | 0, _ => none
  | n + 1, x => match step x with
    | some (.inl y) => iter step n y
    | some (.inr z) => some z
    | none => none
def stepK (P : Program) (N : Nat) (Φ : Ctrs) (Λ : Blks) (body : Code) (τ : Tpl) (exs : List (Nat × Tpl)) (x : τ.St) : Option (τ.St ⊕ SumT exs) :=
  codeK P N Φ Λ body (τ.mk' x) fun e σ => match exNo e with
    | some 0 => (match τ.rd σ with
      | some x => some (.inl x)
      | none => none)
    | some n => (match rdX exs n σ with
      | some x => some (.inr x)
      | none => none)
    | none => none
def outB {X : Type} (id : Nat) (k : Exit -> S -> Option X) (e : Exit) (σ : S) : Option X :=
  match e with
  | .exit id' => if id' = id then k .normal σ else k (.exit id') σ
  | e => k e σ
def loopB (id : Nat) (τ : Tpl) (exs : List (Nat × Tpl)) (F : τ.St -> Option (τ.St ⊕ SumT exs)) (fuel : τ.St -> Nat) : Blk' :=
  ⟨fun X σ k => match τ.rd σ with
    | some x => (match iter F (fuel x) x with
      | some z => contX exs z (outB id k)
      | none => none)
    | none => none⟩
def InT : List (Bool × TC) -> Type
  | [] => Unit
  | (_, t) :: r => T t × InT r
def inMk : (l : List (Bool × TC)) -> InT l -> List Pt
  | [], _ => []
  | (b, t) :: r, x => (b, enc t 0 x.1) :: inMk r x.2
def inRd : (l : List (Bool × TC)) -> List Pt -> Option (InT l)
  | [], [] => some ()
  | (b, t) :: r, (b', vs) :: ps => bif b == b' then (match dec t 0 vs, inRd r ps with
    | some x, some xs => some (x, xs)
    | _, _ => none) else none
  | _, _ => none
def ctrT (ai : List (Bool × TC)) (ro : List (Bool × TC × Nat)) (F : InT ai -> Option (OutT ro)) : Ctr :=
  ⟨fun X args k => match inRd ai args with
    | some x => (match F x with
      | some y => k (resMk ro y)
      | none => none)
    | none => none⟩
def argA : Pt -> A
  | (false, [x]) => .lf (.v x)
  | (true, xs) => .agg (xs.map .v)
  | (false, .bool true :: c :: cs) => .fptr (c :: cs)
  | (false, .bool false :: .int .i64 (.ofNat g) :: c :: cs) => .ffn g (c :: cs)
  | _ => .undef
def startS (args : List Pt) : S := ⟨fun k => match args[k]? with
  | some p => argA p
  | none => .undef, fun _ => none⟩
def fnK {X : Type} (P : Program) (N : Nat) (Φ : Ctrs) (Λ : Blks) (code : Code) (rv : Array ResultVar) (args : List Pt) (k : Res -> Option X) : Option X :=
  codeK P N Φ Λ code (startS args) fun e σ => match exNo e with
    | some 0 => endK P σ rv k
    | some 1 => endK P σ rv k
    | _ => none
section
variable {P : Program} {w w' : World} {w0 : Wd} {B N : Nat} {lab lab' : Lab} {ρ ρ' : Nat -> Loc} {σ : S} {a : Act} {X : Type} {d : Nat} {r : X} {o : Oper} {Φ : Ctrs} {Λ : Blks}
theorem rdX_ok : ∀ (l : List (Nat × Tpl)) (e : Nat) (z : SumT l), rdX l e σ = some z -> ∀ (X : Type) (k : Exit -> S -> Option X), ∃ σ', contX l z k = k (exOf e) σ' /\ ∀ a w, R w0 N σ a w -> R w0 N σ' a w
  | [], e, z, h => by cases h
  | (n, τ) :: l, e, z, h => by
    intro X k
    unfold rdX at h
    cases hb : Nat.beq n e with
    | true =>
      obtain rfl := Nat.eq_of_beq_eq_true hb
      rw [hb, cond_true] at h
      split at h
      · rename_i x hx
        injection h with h
        subst h
        exact ⟨τ.mk' x, rfl, fun a w hR => Tpl.rd_ok hx hR⟩
      · cases h
    | false =>
      rw [hb, cond_false] at h
      split at h
      · rename_i x hx
        injection h with h
        subst h
        exact rdX_ok l e x hx X k
      · cases h
theorem loopB_ok {id : Nat} {body : Code} {τ : Tpl} {exs : List (Nat × Tpl)} {F : τ.St -> Option (τ.St ⊕ SumT exs)} {fuel : τ.St -> Nat} (hΦ : CtrsOK P Φ) (hΛ : BlksOK P N Λ (occs body)) (hF : ∀ x, stepK P N Φ Λ body τ exs x = F x) : BlkOK P N (.block id (.loop body)) (loopB id τ exs F fuel) := by
  intro X σ k r w0 h a w hR
  simp only [loopB] at h
  split at h
  · rename_i x hx
    split at h
    · rename_i z hz
      refine wp_block ?_
      have key : ∀ (n : Nat) (x : τ.St), iter F n x = some z -> ∀ (a : Act) (w : World), R w0 N (τ.mk' x) a w -> ∀ (b : Frame) (kk : List Item) (cs : List Frame),
          ∃ e a' w', Exit.inBlock id (fun e a' w' => ∃ σ', k e σ' = some r /\ R w0 N σ' a' w') e a' w' /\ Arrives P (lone (b.at a (.code body :: .inLoop body :: kk)) cs w) b kk cs e a' w' := by
        intro n
        induction n with
        | zero => intro x hx; simp [iter] at hx
        | succ n ih =>
          intro x hx a w hR b kk cs
          simp only [iter] at hx
          have hst : ∃ y, stepK P N Φ Λ body τ exs x = some y /\ (match y with | .inl y => iter F n y = some z | .inr z' => z' = z) := by
            rw [hF]
            split at hx
            · rename_i y hy; exact ⟨_, hy, hx⟩
            · rename_i y hy; exact ⟨_, hy, by injection hx⟩
            · cases hx
          obtain ⟨y, hy, hyz⟩ := hst
          unfold stepK at hy
          have hwp := codeK_ok (w0 := w0) hΦ body _ _ hy hΛ a w hR
          obtain ⟨e, a1, w1, ⟨σ1, hk1, hR1⟩, harr⟩ := hwp b (.inLoop body :: kk) cs
          split at hk1
          · rename_i he
            have he := exNo_ok he
            subst he
            split at hk1
            · rename_i x1 hx1
              injection hk1 with hk1
              subst hk1
              obtain ⟨e2, a2, w2, hq2, harr2⟩ := ih x1 hyz a1 w1 (Tpl.rd_ok hx1 hR1) b kk cs
              exact ⟨e2, a2, w2, hq2, .of_steps (Steps.trans harr (.one step_inLoop)) harr2⟩
            · cases hk1
          · rename_i n' hne he
            have he := exNo_ok he
            split at hk1
            · rename_i z1 hz1
              injection hk1 with hk1
              subst hk1
              have hyz : z1 = z := hyz
              subst hyz
              obtain ⟨σ2, hc2, hR2⟩ := rdX_ok (w0 := w0) (N := N) exs n' z1 hz1 X (outB id k)
              rw [hc2] at h
              rw [<- he] at h
              refine ⟨e, a1, w1, ?_, ?_⟩
              · cases e with
                | exit id' =>
                  simp only [outB] at h
                  simp only [Exit.inBlock]
                  split at h
                  · rename_i hid; rw [if_pos hid]; exact ⟨σ2, h, hR2 a1 w1 hR1⟩
                  · rename_i hid; rw [if_neg hid]; exact ⟨σ2, h, hR2 a1 w1 hR1⟩
                | _ => exact ⟨σ2, h, hR2 a1 w1 hR1⟩
              · refine .pass (x := .inLoop body) rfl (fun _ _ => .inl ?_) harr
                intro e'
                rw [e'] at he
                match n', hne, he with
                | 0, hne, _ => exact hne rfl
                | 1, _, he => cases he
                | n + 2, _, he => cases he
            · cases hk1
          · cases hk1
      intro b kk cs
      obtain ⟨e, a', w', hq, harr⟩ := key (fuel x) x hz a w (Tpl.rd_ok hx hR) b kk cs
      exact ⟨e, a', w', hq, .of_steps (.one step_loop) harr⟩
    · cases h
  · cases h
theorem PV.wks {key : Nat -> List Nat} {b : Bool} {xs ys : List V} {u : Value} (h : PV w B lab key (b, xs) u) (k : Wks xs ys) : PV w B lab key (b, ys) u := by
  obtain ⟨us, hu, hs, hr⟩ := h
  refine ⟨us, hu, hs.trans k.1, fun j y hy => ?_⟩
  have hj : j < xs.length := by rw [k.1]; exact (List.getElem?_eq_some_iff.1 hy).1
  obtain ⟨v, hv, hr'⟩ := hr j _ (List.getElem?_eq_getElem hj)
  exact ⟨v, hv, hr'.wk (k.2 j _ y (List.getElem?_eq_getElem hj) hy)⟩
theorem FPt.wks {cs ds : List V} {u : Value} (h : FPt w cs u) (k : Wks cs ds) : FPt w ds u := by
  obtain ⟨b, off, hu, hb, hr⟩ := h
  refine ⟨b, off, hu, hb, fun j y hy => ?_⟩
  have hj : j < cs.length := by rw [k.1]; exact (List.getElem?_eq_some_iff.1 hy).1
  obtain ⟨v, hv, hr'⟩ := hr j _ (List.getElem?_eq_getElem hj)
  exact ⟨v, hv, hr'.wk (k.2 j _ y (List.getElem?_eq_getElem hj) hy)⟩
theorem PA.wks {b : Bool} {xs ys : List V} {u : Value} (h : PA w (b, xs) u) (k : Wks xs ys) : PA w (b, ys) u := by
  cases h with
  | v _ _ h => exact .v _ _ (h.wks k)
  | p c cs _ h =>
    obtain ⟨y, zs, rfl, k1, k2⟩ := k.inv
    cases k1
    have h := h.wks k2
    obtain ⟨c', cs', rfl, _, _⟩ := k2.inv
    exact .p _ _ _ h
  | f g c cs u h =>
    obtain ⟨y, zs, rfl, k1, k2⟩ := k.inv
    cases k1
    obtain ⟨y, zs, rfl, k1, k3⟩ := k2.inv
    cases k1
    have h := h.wks k3
    obtain ⟨c', cs', rfl, _, _⟩ := k3.inv
    exact .f _ _ _ _ h
theorem PA.ra {p : Pt} {u : Value} (h : PA w p u) (hf : ∀ y ∈ p.2, y.fro = true) : RA w w.heap.size (fun _ => none) ρ (argA p) u := by
  have hFP : ∀ {cs : List V} {u : Value}, FPt w cs u -> (∀ y ∈ cs, y.fro = true) -> RF w w.heap.size (fun _ => none) cs u := by
    rintro cs u ⟨b, off, rfl, hb, hr⟩ hf
    refine ⟨b, off, rfl, hb, rfl, fun j x hx => ⟨hf x (List.mem_of_getElem? hx), hr j x hx⟩⟩
  cases h with
  | v _ _ h =>
    obtain ⟨us, hu, hs, hr⟩ := h
    obtain ⟨b, xs⟩ := p
    cases b with
    | true =>
      refine ⟨us, hu, by rw [List.length_map]; exact hs, fun i y hy => ?_⟩
      rw [List.getElem?_map] at hy
      cases hz : xs[i]? with
      | none => rw [hz] at hy; cases hy
      | some z =>
        rw [hz] at hy
        injection hy with hy
        subst hy
        obtain ⟨v, hv, hr'⟩ := hr i z hz
        exact ⟨v, hv, hf z (List.mem_of_getElem? hz), hr'⟩
    | false =>
      have hu : us = #[u] := hu
      subst hu
      have h1 : xs.length = 1 := hs.symm
      obtain ⟨x, rfl⟩ := List.length_eq_one_iff.1 h1
      obtain ⟨v, hv, hr'⟩ := hr 0 x rfl
      have : u = v := by simpa using hv
      subst this
      exact ⟨hf x (by simp), hr'⟩
  | p c cs _ h => exact hFP h fun y hy => hf y (.tail _ hy)
  | f g c cs u h => exact ⟨u, rfl, hFP h fun y hy => hf y (.tail _ (.tail _ hy))⟩
theorem inRd_ok : ∀ (l : List (Bool × TC)) (ps : List Pt) (x : InT l), inRd l ps = some x -> (inMk l x).length = ps.length /\ ∀ (i : Nat) p, (inMk l x)[i]? = some p -> ∃ q, ps[i]? = some q /\ q.1 = p.1 /\ Wks q.2 p.2
  | [], [], x, h => ⟨rfl, fun i p hp => by simp [inMk] at hp⟩
  | (b, t) :: r, (b', vs) :: ps, x, h => by
    unfold inRd at h
    cases hb : b == b' with
    | false => rw [hb] at h; cases h
    | true =>
      rw [hb, cond_true] at h
      have hb : b = b' := by simpa using hb
      subst hb
      split at h
      · rename_i y ys h1 h2
        injection h with h
        subst h
        obtain ⟨k1, k2⟩ := inRd_ok r ps ys h2
        refine ⟨by simp [inMk, k1], fun i p hp => ?_⟩
        cases i with
        | zero => simp [inMk] at hp; subst hp; exact ⟨(b, vs), rfl, rfl, dec_ok t 0 vs y h1⟩
        | succ i => exact k2 i p (by simpa [inMk] using hp)
      · cases h
  | [], _ :: _, x, h => by simp [inRd] at h
  | _ :: _, [], x, h => by simp [inRd] at h
theorem Wks.loc {xs ys : List V} (h : Wks xs ys) (hx : xs.all V.loc = true) : (∀ y ∈ ys, ∃ x ∈ xs, Wk x y) := by
  intro y hy
  obtain ⟨j, hj⟩ := List.mem_iff_getElem?.1 hy
  have hjx : j < xs.length := by rw [h.1]; exact (List.getElem?_eq_some_iff.1 hj).1
  exact ⟨xs[j], List.getElem_mem _, h.2 j _ y (List.getElem?_eq_getElem hjx) hj⟩
def okOut (l : List (Bool × TC × Nat)) : Bool := l.all fun p => Nat.ble (full p.2.1) p.2.2
theorem enc_loc (t : TC) (g : Nat) (x : T t) (h : full t <= g) : (enc t g x).all V.loc = true := by
  rw [List.all_eq_true]
  intro y hy
  have hg := enc_gr t g x y hy
  have hl := enc_full t g x y hy
  cases y with
  | sl t' o' q l =>
    have ho : o' = g := by simpa [V.gr] using hg
    subst ho
    have hl : full t' + 2 <= full t := Nat.le_of_ble_eq_true hl
    show locG t' o' = true
    match o', h with
    | 0, h => omega
    | 1, h => omega
    | n + 2, h =>
      simp only [locG, Bool.or_eq_true]
      left
      exact Nat.ble_eq_true_of_le (by omega)
  | _ => rfl
theorem outRd_ok : ∀ (l : List (Bool × TC × Nat)) (ps : List Pt) (x : OutT l), okOut l = true -> outRd l ps = some x -> (outMk l x).length = ps.length /\ ∀ (nm : Nat -> Nat) (off : Nat) (vs : List Value), ResL w B lab nm off ps vs -> ResL w B lab nm off (outMk l x) vs
  | [], [], x, _, h => ⟨rfl, fun nm off vs hr => hr⟩
  | [(b, t, g)], [(b', vs)], x, ho, h => by
    unfold outRd at h
    cases hb : b == b' with
    | false => rw [hb] at h; cases h
    | true =>
      rw [hb] at h
      have h : dec t g vs = some x := h
      have hb : b = b' := by simpa using hb
      subst hb
      have hg : full t <= g := by simpa [okOut] using ho
      refine ⟨rfl, fun nm off us hr => ?_⟩
      match us, hr with
      | [u], ⟨⟨_, h1⟩, _⟩ => exact ⟨⟨enc_loc t g x hg, h1.wks (dec_ok t g vs x h)⟩, trivial⟩
  | (b, t, g) :: q :: r, (b', vs) :: ps, x, ho, h => by
    unfold outRd at h
    cases hb : b == b' with
    | false => rw [hb] at h; cases h
    | true =>
      rw [hb, cond_true] at h
      have hb : b = b' := by simpa using hb
      subst hb
      have ho' : full t <= g /\ okOut (q :: r) = true := by
        simp only [okOut, List.all_cons, Bool.and_eq_true] at ho ⊢
        exact ⟨Nat.le_of_ble_eq_true ho.1, ho.2⟩
      split at h
      · rename_i y ys h1 h2
        injection h with h
        subst h
        obtain ⟨k1, k2⟩ := outRd_ok (q :: r) ps ys ho'.2 h2
        refine ⟨by simp [outMk, k1], fun nm off us hr => ?_⟩
        match us, hr with
        | u :: us, ⟨⟨_, hp⟩, hrest⟩ =>
          have hlen : vs.length = (enc t g y).length := (dec_ok t g vs y h1).1
          refine ⟨⟨enc_loc t g y ho'.1, hp.wks (dec_ok t g vs y h1)⟩, ?_⟩
          have hlen' : off + vs.length = off + (enc t g y).length := by rw [hlen]
          have hrest : ResL w B lab nm (off + vs.length) ps us := hrest
          rw [hlen'] at hrest
          exact k2 nm _ us hrest
      · cases h
  | [], _ :: _, x, _, h => by simp [outRd] at h
  | [_], [], x, _, h => by simp [outRd] at h
  | [_], _ :: _ :: _, x, _, h => by simp [outRd] at h
  | _ :: _ :: _, [], x, _, h => by simp [outRd] at h
theorem resRd_ok {l : List (Bool × TC × Nat)} {res : Res} {x : OutT l} (ho : okOut l = true) (h : resRd l res = some x) {nm : Nat -> Nat} {v : Value} (hr : ResOK w B lab nm res v) : ResOK w B lab nm (resMk l x) v := by
  cases res with
  | one p =>
    obtain ⟨k1, k2⟩ := outRd_ok (w := w) (B := B) (lab := lab) l [p] x ho h
    have hr : ResL w B lab nm 0 [p] [v] := hr
    have := k2 nm 0 [v] hr
    unfold resMk
    match hm : outMk l x, k1, this with
    | [q], _, this => exact this
    | [], k1, _ => cases k1
    | _ :: _ :: _, k1, _ => simp at k1
  | tup ps =>
    simp only [resRd] at h
    cases hb : Nat.beq ps.length 1 with
    | true => rw [hb] at h; cases h
    | false =>
      rw [hb, cond_false] at h
      obtain ⟨k1, k2⟩ := outRd_ok (w := w) (B := B) (lab := lab) l ps x ho h
      obtain ⟨vs, e, hr⟩ := hr
      have := k2 nm 0 _ hr
      unfold resMk
      match hm : outMk l x, k1, this with
      | [q], k1, this => simp only [List.length_singleton] at k1; rw [<- k1] at hb; cases hb
      | [], _, this => exact ⟨vs, e, this⟩
      | _ :: _ :: _, _, this => exact ⟨vs, e, this⟩
theorem inMk_length : ∀ (l : List (Bool × TC)) (x : InT l), (inMk l x).length = l.length
  | [], x => rfl
  | (b, t) :: l, x => by simp [inMk, inMk_length l]
theorem inMk_fro : ∀ (l : List (Bool × TC)) (x : InT l) (j : Nat) (p : Pt), (inMk l x)[j]? = some p -> ∀ y ∈ p.2, y.fro = true
  | [], x, j, p, hp, _, _ => by simp [inMk] at hp
  | (b, t) :: l, x, 0, p, hp, y, hy => by
    simp [inMk] at hp
    subst hp
    obtain ⟨i, hi⟩ := List.mem_iff_getElem?.1 hy
    exact enc_fro t 0 x.1 (by omega) i y hi
  | (b, t) :: l, x, j + 1, p, hp, y, hy => inMk_fro l x.2 j p (by simpa [inMk] using hp) y hy
theorem fn_run {f : Nat} {fn : Func} {code : Code} {ps0 : List Pt} {ro : List (Bool × TC × Nat)} {y : OutT ro} (hf : P.funcs[f]? = some fn) (hb : fn.body = some code) (hN : fn.ntmps = N) (hle : ps0.length <= N) (hro : okOut ro = true)
    (hΦ : CtrsOK P Φ) (hΛ : BlksOK P N Λ (occs code)) (hfro : ∀ (j : Nat) p, ps0[j]? = some p -> ∀ y ∈ p.2, y.fro = true) (hy : fnK P N Φ Λ code fn.results ps0 (resRd ro) = some y) (nm : Nat -> Nat) (w : World) (vals : Array Value) (hargs : ArgsOK w ps0 vals) (hQ : Hd w (fun _ => none)) :
    Calls P f vals w fun e w' => ∃ v lab', e = .returned v /\ Below w.heap.size w w' /\ (∀ b k, lab' b = some k -> w.heap.size <= b /\ b < w'.heap.size /\ k ≠ []) /\ ResOK w' w.heap.size lab' nm (resMk ro y) v := by
  have hle : vals.size <= N := by rw [hargs.1]; exact hle
  refine calls_of_wp hf hb ?_
  unfold fnK at hy
  have hR : R (.of w hQ) N (startS ps0) { tmps := vals ++ Array.replicate (fn.ntmps - vals.size) undef, defers := [] } w := by
    refine ⟨fun _ => none, fun _ => .blk 0 0, .of (Below.refl w.heap.size w) (Nat.le_refl _), (fun b k hk => by cases hk), (fun n y hy => by cases hy), fun j => ?_, by simp [hN]; omega, rfl, (fun r l h => by cases h), (fun _ _ => rfl)⟩
    show RA w w.heap.size _ _ (match ps0[j]? with | some p => argA p | none => .undef) _
    cases hp : ps0[j]? with
    | none => trivial
    | some p =>
      obtain ⟨u, hu, hpv⟩ := hargs.2 j p hp
      have hj : j < vals.size := (Array.getElem?_eq_some_iff.1 hu).1
      have e : (vals ++ Array.replicate (fn.ntmps - vals.size) undef).getD j undef = u := by rw [Array.getD_eq_getD_getElem?, Array.getElem?_append_left hj, hu]; rfl
      rw [e]
      exact hpv.ra (hfro j p hp)
  refine wp_mono (codeK_ok (w0 := .of w hQ) hΦ code _ _ hy hΛ _ w hR) fun e a' w' he => ?_
  obtain ⟨σ', hk, lab, ρ, hR'⟩ := he
  have fin : endK P σ' fn.results (resRd ro) = some y -> a'.defers = [] /\ ∃ v, (results fn a'.tmps).run P w' = .ok v w' /\ ∃ v_1 lab', Ending.returned v = Ending.returned v_1 /\ Below w.heap.size w w' /\ (∀ b k, lab' b = some k -> w.heap.size <= b /\ b < w'.heap.size /\ k ≠ []) /\ ResOK w' w.heap.size lab' nm (resMk ro y) v_1 := by
    intro hend
    obtain ⟨res, hres, hrun⟩ := endK_ok (w0 := .of w hQ) (N := N) (fn := fn) hend
    obtain ⟨v, lab', h1, h2, h3⟩ := hrun lab ρ a' w' hR' nm
    exact ⟨hR'.defers, v, h1, v, lab', rfl, ⟨hR'.below.os, hR'.below.tape, hR'.below.output, hR'.below.size, fun k hk => hR'.below.block k hk rfl⟩, fun b k hb => ⟨(h2 b k hb).1.resolve_right (fun h => h rfl), (h2 b k hb).2⟩, resRd_ok hro hres h3⟩
  split at hk
  · rename_i he
    have he := exNo_ok he
    subst he
    exact fin hk
  · rename_i he
    have he := exNo_ok he
    subst he
    exact fin hk
  · cases hk
theorem fn_ok {f : Nat} {fn : Func} {code : Code} {ai : List (Bool × TC)} {ro : List (Bool × TC × Nat)} {F : InT ai -> Option (OutT ro)} (hf : P.funcs[f]? = some fn) (hb : fn.body = some code) (hN : fn.ntmps = N) (hname : (fn.name == "runtime.NumGoroutine") = false) (hai : Nat.ble ai.length N = true) (hro : okOut ro = true)
    (hΦ : CtrsOK P Φ) (hΛ : BlksOK P N Λ (occs code)) (hF : ∀ x, fnK P N Φ Λ code fn.results (inMk ai x) (resRd ro) = F x) : enters P f /\ CtrOK P f (ctrT ai ro F) := by
  refine ⟨⟨fn, hf, hname, by rw [hb]; rfl⟩, fun X args k r h => ?_⟩
  simp only [ctrT] at h
  split at h
  · rename_i x hx
    split at h
    · rename_i y hy
      refine ⟨_, h, fun X' k' => by simp only [ctrT, hx, hy], fun nm w vals hargs hQ => ?_⟩
      obtain ⟨k1, k2⟩ := inRd_ok ai args x hx
      refine fn_run hf hb hN (by rw [inMk_length]; exact Nat.le_of_ble_eq_true hai) hro hΦ hΛ (inMk_fro ai x) ((hF x).trans hy) nm w vals ⟨hargs.1.trans k1.symm, fun j p hp => ?_⟩ hQ
      obtain ⟨q, hq, hq1, hq2⟩ := k2 j p hp
      obtain ⟨u, hu, hpv⟩ := hargs.2 j q hq
      refine ⟨u, hu, ?_⟩
      obtain ⟨b, ys⟩ := p
      obtain ⟨b', xs⟩ := q
      simp only at hq1
      subst hq1
      exact hpv.wks hq2
    · cases h
  · cases h
theorem fnE_ok {f : Nat} {fn : Func} {code : Code} {t : TC} {g : Nat} {F : List (T t) -> Option (List (T t))} (hf : P.funcs[f]? = some fn) (hb : fn.body = some code) (hN : fn.ntmps = N) (hname : (fn.name == "runtime.NumGoroutine") = false) (hai : Nat.ble 1 N = true) (hro : okOut [(false, .sl t, g)] = true)
    (hΦ : CtrsOK P Φ) (hΛ : BlksOK P N Λ (occs code)) (hF : ∀ x : List (T t), fnK P N Φ Λ code fn.results [(false, [.sl t 0 false x])] (resRd [(false, .sl t, g)]) = F x)
    (h0 : fnK P N Φ Λ code fn.results [(false, [.nil])] (resRd [(false, .sl t, g)]) = some ([] : List (T t))) (h1 : fnK P N Φ Λ code fn.results [(false, [.sl t 0 true []])] (resRd [(false, .sl t, g)]) = some ([] : List (T t))) :
    enters P f /\ CtrOK P f (ctrT [(false, .sl t)] [(false, .sl t, g)] fun x => bif isEmp x.1 then some ([] : List (T t)) else F x.1) := by
  refine ⟨⟨fn, hf, hname, by rw [hb]; rfl⟩, fun X args k r h => ?_⟩
  simp only [ctrT] at h
  split at h
  · rename_i x hx
    split at h
    · rename_i y hy
      refine ⟨_, h, fun X' k' => by simp only [ctrT, hx, hy], fun nm w vals hargs hQ => ?_⟩
      obtain ⟨k1, k2⟩ := inRd_ok _ args x hx
      obtain ⟨l, _⟩ := x
      have hpa : ArgsOK w [(false, [.sl t 0 false l])] vals := ⟨hargs.1.trans k1.symm, fun j p hp => by
        obtain ⟨q, hq, hq1, hq2⟩ := k2 j p hp
        obtain ⟨u, hu, hpv⟩ := hargs.2 j q hq
        refine ⟨u, hu, ?_⟩
        obtain ⟨b, ys⟩ := p
        obtain ⟨b', xs⟩ := q
        simp only at hq1
        subst hq1
        exact hpv.wks hq2⟩
      have hle : 1 <= N := Nat.le_of_ble_eq_true hai
      have fro1 : ∀ (v : V), v.fro = true -> ∀ (j : Nat) p, ([(false, [v])] : List Pt)[j]? = some p -> ∀ y ∈ p.2, y.fro = true := by
        intro v hv j p hp y hy
        rcases j with _ | j
        · injection hp with hp
          subst hp
          rw [List.mem_singleton.1 hy]
          exact hv
        · cases hp
      obtain ⟨u, hu, hp⟩ := hpa.2 0 _ rfl
      obtain ⟨us, e, _, hv⟩ := hp.pv
      have e : us = #[u] := e
      subst e
      obtain ⟨v, g1, hr⟩ := hv 0 _ rfl
      have g1 : u = v := by simpa using g1
      subst g1
      have one : ∀ v : V, RV w w.heap.size (fun _ => none) [] v u -> ArgsOK w [(false, [v])] vals := fun v hr => ⟨hpa.1, fun j p hp => by
        rcases j with _ | j
        · injection hp with hp
          subst hp
          exact ⟨u, hu, .v _ _ ⟨#[u], rfl, rfl, fun i x hx => by
            rcases i with _ | i
            · injection hx with hx
              subst hx
              exact ⟨u, rfl, hr⟩
            · cases hx⟩⟩
        · cases hp⟩
      cases l with
      | cons a l => exact fn_run (ps0 := [(false, [.sl t 0 false (a :: l)])]) hf hb hN hle hro hΦ hΛ (fro1 _ rfl) ((hF _).trans hy) nm w vals hpa hQ
      | nil =>
        have hy : some ([] : List (T t)) = some y := hy
        injection hy with hy
        subst hy
        cases hr with
        | slNil => exact fn_run (ps0 := [(false, [.nil])]) hf hb hN hle hro hΦ hΛ (fro1 _ rfl) h0 nm w vals (one _ (.nil _)) hQ
        | slEmp _ _ _ A c ho => exact fn_run (ps0 := [(false, [.sl t 0 true []])]) hf hb hN hle hro hΦ hΛ (fro1 _ rfl) h1 nm w vals (one _ (.slNon _ _ _ _ _ ho)) hQ
        | fro _ _ _ qn l b off cap us ho hl hbb hB hcap hc hrr => exact fn_run (ps0 := [(false, [.sl t 0 true []])]) hf hb hN hle hro hΦ hΛ (fro1 _ rfl) h1 nm w vals (one _ (.slNon _ _ _ _ _ ho)) hQ
    · cases h
  · cases h
end
end Go.Proofs.YtckjagaogcbedaaGreat
namespace Go.Proofs.YtckjagaogcbedaaGreat
open Go.RowKit
set_option linter.unusedVariables false
def fnMK {X : Type} (P : Program) (N : Nat) (Φ : Ctrs) (Λ : Blks) (code : Code) (rv : Array ResultVar) (ins : List In) (args : List Ar) (k : List In -> Res -> Option X) : Option X :=
  codeK P N Φ Λ code (startM ins args) fun e σ => match exNo e with
    | some 0 => endMK P σ rv ins k
    | some 1 => endMK P σ rv ins k
    | _ => none
section
variable {P : Program} {w w' : World} {w0 : Wd} {B N : Nat} {lab lab' : Lab} {ρ ρ' : Nat -> Loc} {σ : S} {a : Act} {X : Type} {d : Nat} {r : X} {o : Oper} {Φ : Ctrs} {Λ : Blks}
theorem fnM_core {f : Nat} {fn : Func} {code : Code} {ins : List In} {args : List Ar} {k : List In -> Res -> Option X} (hf : P.funcs[f]? = some fn) (hb : fn.body = some code) (hN : fn.ntmps = N) (hN2 : N <= 20000) (hlen : args.length <= N)
    (hΦ : CtrsOK P Φ) (hΛ : BlksOK P N Λ (occs code)) (h : fnMK P N Φ Λ code fn.results ins args k = some r) (nm : Nat -> Nat) (w : World) (lab : Lab) (ρ : Nat -> Loc) (vals : Array Value)
    (hE : EntR w w.heap.size lab ρ 0 ins) (hlab : ∀ b k, lab b = some k -> b < w.heap.size /\ k ≠ []) (hsz : vals.size = args.length) (hv : ∀ i, RA w w.heap.size lab ρ ((startM ins args).t i) (vals.getD i undef)) (hQ : Hd w lab) :
    Calls P f vals w fun e w' => ∃ v lab' outs res, k outs res = some r /\ e = .returned v /\ BelowS ⟨w, lab, fun _ => none, hQ, fun _ _ => rfl⟩ w w' /\ (∀ b k, lab' b = some k -> (w.heap.size <= b \/ lab b ≠ none) /\ b < w'.heap.size /\ k ≠ []) /\ ResOK w' w.heap.size lab' nm res v /\ OutsOK w w' lab' ρ nm 0 res.len ins outs := by
  let W : Wd := ⟨w, lab, fun r => if 20000 <= r /\ r < 60000 then some (ρ r) else none, hQ, fun r hr => if_neg (by omega)⟩
  refine calls_of_wp hf hb ?_
  unfold fnMK at h
  have hR : R W N (startM ins args) { tmps := vals ++ Array.replicate (fn.ntmps - vals.size) undef, defers := [] } w := by
    refine ⟨lab, ρ, .of (Below.refl w.heap.size w) (Nat.le_refl _), fun b k hb => ⟨.inr (by rw [show W.L b = lab b from rfl, hb]; simp), hlab b k hb⟩, EntR.roots ins 0 _ hE (fun r x hx => by cases hx), fun j => ?_, by simp [hN]; omega, rfl, fun r l hr => ?_, fun r hr => ?_⟩
    · by_cases hj : j < vals.size
      · have e : (vals ++ Array.replicate (fn.ntmps - vals.size) undef).getD j undef = vals.getD j undef := by
          rw [Array.getD_eq_getD_getElem?, Array.getElem?_append_left hj, Array.getD_eq_getD_getElem?]
        show RA w w.heap.size lab ρ _ ((vals ++ Array.replicate (fn.ntmps - vals.size) undef).getD j undef)
        rw [e]
        exact hv j
      · have e : (startM ins args).t j = .undef := by
          simp only [startM, List.getElem?_eq_none (by omega : args.length <= j)]
        rw [e]
        trivial
    · have hr : (if 20000 <= r /\ r < 60000 then some (ρ r) else none) = some l := hr
      split at hr
      · injection hr
      · cases hr
    · show (if 20000 <= r /\ r < 60000 then some (ρ r) else none) = none
      rw [if_neg (by omega)]
  refine wp_mono (codeK_ok (w0 := W) hΦ code _ _ h hΛ _ w hR) fun e a' w' he => ?_
  obtain ⟨σ', hk, lab1, ρ1, hR'⟩ := he
  have fin : endMK P σ' fn.results ins k = some r -> a'.defers = [] /\ ∃ v, (results fn a'.tmps).run P w' = .ok v w' /\ ∃ v_1 lab' outs res, k outs res = some r /\ Ending.returned v = Ending.returned v_1 /\ BelowS ⟨w, lab, fun _ => none, hQ, fun _ _ => rfl⟩ w w' /\ (∀ b k, lab' b = some k -> (w.heap.size <= b \/ lab b ≠ none) /\ b < w'.heap.size /\ k ≠ []) /\ ResOK w' w.heap.size lab' nm res v_1 /\ OutsOK w w' lab' ρ nm 0 res.len ins outs := by
    intro hend
    obtain ⟨outs, res, hko, hrun⟩ := endMK_ok (w0 := W) (N := N) (fn := fn) (w1 := w) (ρ0 := ρ) rfl (fun r h1 h2 => if_pos ⟨h1, h2⟩) (EntR.ent ins 0 hE) hend
    obtain ⟨v, lab', h1, h2, h3, h4⟩ := hrun lab1 ρ1 a' w' hR' nm
    exact ⟨hR'.defers, v, h1, v, lab', outs, res, hko, rfl, ⟨hR'.below.os, hR'.below.tape, hR'.below.output, hR'.below.size, fun k hk => hR'.below.block k hk⟩, h2, h3, h4⟩
  split at hk
  · rename_i he
    have he := exNo_ok he
    subst he
    exact fin hk
  · rename_i he
    have he := exNo_ok he
    subst he
    exact fin hk
  · cases hk
end
end Go.Proofs.YtckjagaogcbedaaGreat
namespace Go.Proofs.YtckjagaogcbedaaGreat
open Go.RowKit
set_option linter.unusedVariables false
def insRd : (l : List (Bool × TC × Nat)) -> List In -> Option (InsT l)
  | [], [] => some ()
  | (true, t, g) :: r, .blk cs :: is => match dec t g cs, insRd r is with
    | some x, some xs => some (x, xs)
    | _, _ => none
  | (false, t, g) :: r, .sl y :: is => match y.asL t (g + 2), insRd r is with
    | some x, some xs => some (x, xs)
    | _, _ => none
  | _, _ => none
def InsRel : List In -> List In -> List In -> Prop
  | [], [], [] => True
  | .blk cs0 :: r0, .blk cs :: r, .blk cs' :: r' => (Wks cs cs' /\ cs0.map (fun v => (v.plain, v.fro)) = cs'.map (fun v => (v.plain, v.fro)) /\ ∀ x ∈ cs', x.nonnil = true) /\ InsRel r0 r r'
  | .sl _ :: r0, .sl y :: r, .sl y' :: r' => Wk y y' /\ InsRel r0 r r'
  | _, _, _ => False
theorem insRd_ok : ∀ (ps : List PK) (x0 : ParT ps) (is : List In) (x : InsT (mutT ps)), insRd (mutT ps) is = some x -> InsRel (insOf ps x0) is (insMk (mutT ps) x)
  | [], _, [], x, _ => trivial
  | [], _, _ :: _, x, h => by simp [insRd, mutT] at h
  | .v b t :: ps, x0, is, x, h => insRd_ok ps x0.2 is x h
  | .p t g off :: ps, x0, [], x, h => by simp [insRd, mutT] at h
  | .s t g :: ps, x0, [], x, h => by simp [insRd, mutT] at h
  | .p t g off :: ps, x0, .sl _ :: _, x, h => by simp [insRd, mutT] at h
  | .s t g :: ps, x0, .blk _ :: _, x, h => by simp [insRd, mutT] at h
  | .p t g off :: ps, x0, .blk cs :: is, x, h => by
    have h : insRd ((true, t, g) :: mutT ps) (.blk cs :: is) = some x := h
    unfold insRd at h
    split at h
    · rename_i y ys h1 h2
      injection h with h
      subst h
      exact ⟨⟨dec_ok t g cs y h1, enc_shape t g x0.1 y, fun z hz => enc_nonnil t g y z hz⟩, insRd_ok ps x0.2 is ys h2⟩
    · cases h
  | .s t g :: ps, x0, .sl y :: is, x, h => by
    have h : insRd ((false, t, g) :: mutT ps) (.sl y :: is) = some x := h
    unfold insRd at h
    split at h
    · rename_i z zs h1 h2
      injection h with h
      subst h
      exact ⟨V.asL_ok h1, insRd_ok ps x0.2 is zs h2⟩
    · cases h
theorem OutsOK.typed {w w' : World} {lab' : Lab} {ρ : Nat -> Loc} {nm : Nat -> Nat} : ∀ (ins : List In) (i pos : Nat) (outs outs' : List In), OutsOK w w' lab' ρ nm i pos ins outs -> InsRel ins outs outs' -> OutsT w w' lab' ρ nm i pos ins outs'
  | [], i, pos, [], [], h, hk => trivial
  | .blk cs0 :: ins, i, pos, .blk cs1 :: outs, .blk cs2 :: outs', h, hk => by
    obtain ⟨⟨b, off, cells, cells', e, e', h1, h2, h3, h4, h5, h6, h7⟩, hr⟩ := h
    obtain ⟨⟨hw, hsh, hnn⟩, hk'⟩ := hk
    refine ⟨⟨b, off, cells, cells', e, e', h1, h2, h3, h4, by rw [<- hw.1]; exact h5, by rw [<- hw.1]; exact h6, fun j x hx => ?_⟩, OutsOK.typed ins _ _ outs outs' hr hk'⟩
    have hj : j < cs1.length := by rw [hw.1]; exact (List.getElem?_eq_some_iff.1 hx).1
    obtain ⟨u, hu, hc⟩ := h7 j _ (List.getElem?_eq_getElem hj)
    have hk := hw.2 j _ x (List.getElem?_eq_getElem hj) hx
    have hx0 : ∀ x0, cs0[j]? = some x0 -> x0.plain = x.plain /\ x0.fro = x.fro := by
      intro x0 h0
      have e1 : (cs0.map (fun v => (v.plain, v.fro)))[j]? = (cs2.map (fun v => (v.plain, v.fro)))[j]? := by rw [hsh]
      rw [List.getElem?_map, List.getElem?_map, h0, hx] at e1
      simpa using e1
    have hxn := hnn x (List.mem_of_getElem? hx)
    generalize cs1[j] = y at hc hk
    refine ⟨u, hu, ?_⟩
    rcases hc with ⟨c1, c2⟩ | ⟨c1, c2, x0, c3, c4⟩ | ⟨c1, c2, c6, ⟨x0, c3, c4⟩, c5⟩ | ⟨c1, c2⟩
    · cases hk with
      | same => exact .inl ⟨c1, c2⟩
      | nil t o => cases c1
      | q t o l => cases c1
      | gr => cases c1
    · subst c1 c2
      have hf : x.fro = false := by rw [<- (hx0 x0 c3).2]; exact c4
      cases hk with
      | same => cases hxn
      | nil t o => exact .inr (.inr ⟨hf, .slNil _ _ _⟩)
    · cases hk with
      | same => exact .inr (.inl ⟨c1, c2, c5⟩)
      | nil t o => cases c6
      | q t o l => exact .inr (.inl ⟨rfl, c2, c5⟩)
      | gr t o o' qn l h1 h2 => simp [V.fro] at c2; omega
    · have hf := hk.fro_eq c1
      exact .inr (.inr ⟨hf, c2.wk hk⟩)
  | .sl y0 :: ins, i, pos, .sl y1 :: outs, .sl y2 :: outs', h, hk => by
    obtain ⟨⟨v, h1, h2⟩, hr⟩ := h
    obtain ⟨hw, hk'⟩ := hk
    exact ⟨⟨v, h1, h2.wk hw⟩, OutsOK.typed ins _ _ outs outs' hr hk'⟩
  | [], _, _, _ :: _, _, h, _ => h.elim
  | [], _, _, [], _ :: _, _, h => h.elim
  | .blk _ :: _, _, _, [], _, h, _ => h.elim
  | .sl _ :: _, _, _, [], _, h, _ => h.elim
  | .blk _ :: _, _, _, .sl _ :: _, _, h, _ => h.elim
  | .sl _ :: _, _, _, .blk _ :: _, _, h, _ => h.elim
  | .blk _ :: _, _, _, .blk _ :: _, [], _, h => h.elim
  | .blk _ :: _, _, _, .blk _ :: _, .sl _ :: _, _, h => h.elim
  | .sl _ :: _, _, _, .sl _ :: _, [], _, h => h.elim
  | .sl _ :: _, _, _, .sl _ :: _, .blk _ :: _, _, h => h.elim
theorem outRd_len : ∀ (l : List (Bool × TC × Nat)) (ps : List Pt) (x : OutT l), outRd l ps = some x -> (ps.map fun p => p.2.length) = ((outMk l x).map fun p => p.2.length)
  | [], [], x, h => rfl
  | [(b, t, g)], [(b', vs)], x, h => by
    unfold outRd at h
    cases hb : b == b' with
    | false => rw [hb] at h; cases h
    | true =>
      rw [hb] at h
      have h : dec t g vs = some x := h
      simp [outMk, (dec_ok t g vs x h).1]
  | (b, t, g) :: q :: r, (b', vs) :: ps, x, h => by
    unfold outRd at h
    cases hb : b == b' with
    | false => rw [hb] at h; cases h
    | true =>
      rw [hb, cond_true] at h
      split at h
      · rename_i y ys h1 h2
        injection h with h
        subst h
        simp only [outMk, List.map_cons]
        rw [outRd_len (q :: r) ps ys h2, (dec_ok t g vs y h1).1]
      · cases h
  | [], _ :: _, x, h => by simp [outRd] at h
  | [_], [], x, h => by simp [outRd] at h
  | [_], _ :: _ :: _, x, h => by simp [outRd] at h
  | _ :: _ :: _, [], x, h => by simp [outRd] at h
theorem resRd_len {l : List (Bool × TC × Nat)} {res : Res} {x : OutT l} (h : resRd l res = some x) : res.len = (resMk l x).len := by
  have key : ∀ ps, outRd l ps = some x -> (ps.map fun p => p.2.length).sum = (resMk l x).len := by
    intro ps h
    rw [outRd_len l ps x h]
    unfold resMk
    match hm : outMk l x with
    | [q] => simp [Res.len]
    | [] => rfl
    | _ :: _ :: _ => rfl
  cases res with
  | one p => have := key [p] h; simpa [Res.len] using this
  | tup ps =>
    simp only [resRd] at h
    cases hb : Nat.beq ps.length 1 with
    | true => rw [hb] at h; cases h
    | false => rw [hb, cond_false] at h; exact key ps h
section
variable {P : Program} {w w' : World} {w0 : Wd} {B N : Nat} {lab lab' : Lab} {ρ ρ' : Nat -> Loc} {σ : S} {a : Act} {X : Type} {d : Nat} {r : X} {o : Oper} {Φ : Ctrs} {Λ : Blks}
def rdM (l : List (Bool × TC × Nat)) (ro : List (Bool × TC × Nat)) (outs : List In) (res : Res) : Option (OutT ro × InsT l) :=
  match resRd ro res, insRd l outs with
  | some x, some y => some (x, y)
  | _, _ => none
theorem fnM_ok {f : Nat} {fn : Func} {code : Code} {ps : List PK} {ro : List (Bool × TC × Nat)} {F : ParT ps -> Option (OutT ro × InsT (mutT ps))} (hf : P.funcs[f]? = some fn) (hb : fn.body = some code) (hN : fn.ntmps = N) (hname : (fn.name == "runtime.NumGoroutine") = false) (hai : Nat.ble ps.length N = true) (hN2 : Nat.ble N 20000 = true) (hro : okOut ro = true)
    (hΦ : CtrsOK P Φ) (hΛ : BlksOK P N Λ (occs code)) (hF : ∀ x, fnMK P N Φ Λ code fn.results (insOf ps x) (arsOf ps 0 x) (rdM (mutT ps) ro) = F x) : enters P f /\ CtrMOK P f ⟨ps, ro, F⟩ := by
  refine ⟨⟨fn, hf, hname, by rw [hb]; rfl⟩, fun x y h nm w lab ρ vals hE hlab hsz hv hQ => ?_⟩
  have h : F x = some y := h
  rw [<- hF x] at h
  have hlen : ∀ (ps : List PK) (i : Nat) (x : ParT ps), (arsOf ps i x).length = ps.length := by
    intro ps
    induction ps with
    | nil => intro i x; rfl
    | cons p ps ih =>
      intro i x
      cases p with
      | v => exact congrArg (· + 1) (ih _ _)
      | p => exact congrArg (· + 1) (ih _ _)
      | s => exact congrArg (· + 1) (ih _ _)
  have hsz : vals.size = (arsOf ps 0 x).length := by rw [hlen]; exact hsz
  refine (fnM_core hf hb hN (Nat.le_of_ble_eq_true hN2) (by rw [hlen]; exact Nat.le_of_ble_eq_true hai) hΦ hΛ h nm w lab ρ vals hE hlab hsz hv hQ).mono fun e w' hpost => ?_
  obtain ⟨v, lab', outs, res, hk, he, hbel, hl, hres, hout⟩ := hpost
  unfold rdM at hk
  split at hk
  · rename_i y1 y2 h1 h2
    injection hk with hk
    subst hk
    refine ⟨v, lab', he, hbel, hl, resRd_ok hro h1 hres, ?_⟩
    rw [<- resRd_len h1]
    exact OutsOK.typed _ _ _ _ _ hout (insRd_ok ps x outs y2 h2)
  · cases hk
end
end Go.Proofs.YtckjagaogcbedaaGreat
namespace Go.Proofs.YtckjagaogcbedaaGreat
open Go.RowKit
set_option linter.unusedVariables false
set_option maxRecDepth 100000
def endN (σ : S) (rv : Array ResultVar) : Option Int :=
  match rv.toList with
  | [.tmp t] => (match σ.t t with
    | .bptr r 0 => (match σ.m r with
      | some (.blk [.own [n], .v (.int .i64 z), .v (.int .i64 h)]) => bif Nat.beq n 20000 && z == 0 then some h else none
      | _ => none)
    | _ => none)
  | _ => none
def fnNK (P : Program) (N : Nat) (Φ : Ctrs) (Λ : Blks) (code : Code) (rv : Array ResultVar) (l : List (T .u8)) : Option Int :=
  codeK P N Φ Λ code (startM [.sl (.sl .u8 0 false l)] [.mut 0 0]) fun e σ => match exNo e with
    | some 0 => endN σ rv
    | some 1 => endN σ rv
    | _ => none
section
variable {P : Program} {w w' : World} {w0 : Wd} {B N : Nat} {lab lab' : Lab} {ρ ρ' : Nat -> Loc} {σ : S} {a : Act} {X : Type} {d : Nat} {r : X} {o : Oper} {Φ : Ctrs} {Λ : Blks}
theorem fnN_ok {f : Nat} {fn : Func} {code : Code} {F : List Int -> Option Int} (hf : P.funcs[f]? = some fn) (hb : fn.body = some code) (hN : fn.ntmps = N) (hname : (fn.name == "runtime.NumGoroutine") = false) (hN1 : Nat.ble 1 N = true) (hN2 : Nat.ble N 20000 = true)
    (hΦ : CtrsOK P Φ) (hΛ : BlksOK P N Λ (occs code)) (hF : ∀ l, fnNK P N Φ Λ code fn.results l = F l) : enters P f /\ CtrNOK P f F := by
  refine ⟨⟨fn, hf, hname, by rw [hb]; rfl⟩, fun w l h v hh hv hQ => ?_⟩
  rw [<- hF l] at hh
  unfold fnNK at hh
  have hN1 := Nat.le_of_ble_eq_true hN1
  have hN2 := Nat.le_of_ble_eq_true hN2
  let W : Wd := ⟨w, fun _ => none, fun r => if 20000 <= r /\ r < 60000 then some (.hdr v) else none, hQ, fun r hr => if_neg (by omega)⟩
  refine calls_of_wp hf hb ?_
  have hR : R W N (startM [.sl (.sl .u8 0 false l)] [.mut 0 0]) { tmps := #[v] ++ Array.replicate (fn.ntmps - (#[v] : Array Value).size) undef, defers := [] } w := by
    refine ⟨fun _ => none, fun _ => .hdr v, .of (Below.refl w.heap.size w) (Nat.le_refl _), (fun b k hb => by cases hb), fun n y hy => ?_, fun j => ?_, by simp [hN]; omega, rfl, fun r l hr => ?_, fun r hr => ?_⟩
    · have hy : upd (fun _ => none) (nF 0) (some (.sl (.sl .u8 0 false l))) n = some y := hy
      by_cases hn : n = nF 0
      · subst hn
        rw [upd_same] at hy
        injection hy with hy
        subst hy
        exact .sl v _ rfl (hv.key rfl)
      · rw [upd_ne _ _ _ hn] at hy
        cases hy
    · cases j with
      | zero =>
        have e : (#[v] ++ Array.replicate (fn.ntmps - (#[v] : Array Value).size) undef).getD 0 undef = v := by
          rw [Array.getD_eq_getD_getElem?, Array.getElem?_append_left (by simp)]; rfl
        show RA w w.heap.size _ _ (.lf (.own [nF 0])) ((#[v] ++ Array.replicate (fn.ntmps - (#[v] : Array Value).size) undef).getD 0 undef)
        rw [e]
        exact ⟨hv.isSl rfl rfl, rfl⟩
      | succ j => exact trivial
    · have hr : (if 20000 <= r /\ r < 60000 then some (Loc.hdr v) else none) = some l := hr
      split at hr
      · injection hr
      · cases hr
    · show (if 20000 <= r /\ r < 60000 then some (Loc.hdr v) else none) = none
      rw [if_neg (by omega)]
  refine wp_mono (codeK_ok (w0 := W) hΦ code _ _ hh hΛ _ w hR) fun e a' w' he => ?_
  obtain ⟨σ', hk, lab1, ρ1, hR'⟩ := he
  have fin : endN σ' fn.results = some h -> a'.defers = [] /\ ∃ u, (results fn a'.tmps).run P w' = .ok u w' /\ ∃ b off cells t, Ending.returned u = .returned (.pointer (some ⟨b, off, none⟩)) /\ Below w.heap.size w w' /\ w.heap.size <= b /\ w'.heap[b]? = some (.cells cells t (0, 0)) /\ cells[off]? = some v /\ cells[off + 1]? = some (.int .i64 0) /\ cells[off + 2]? = some (.int .i64 h) := by
    intro hend
    unfold endN at hend
    split at hend
    · rename_i t ht
      split at hend
      · rename_i r hr
        split at hend
        · rename_i n z h' hm
          cases hb : (Nat.beq n 20000 && z == 0) with
          | false => rw [hb] at hend; cases hend
          | true =>
            rw [hb, cond_true] at hend
            injection hend with hend
            subst hend
            rw [Bool.and_eq_true] at hb
            have hn := Nat.eq_of_beq_eq_true hb.1
            have hz : z = 0 := by simpa using hb.2
            subst hn hz
            have h1 := hR'.tmp t
            rw [hr] at h1
            obtain ⟨b, off, e1, e2⟩ := h1
            have h2 := hR'.root r _ hm
            generalize hx : Root.blk _ = x at h2
            cases h2 with
            | sl => cases hx
            | mp => cases hx
            | gh => cases hx
            | blk b' off' cells e cs us hρ hl hh2 hs hc =>
              injection hx with hx
              subst hx
              rw [hρ] at e1
              injection e1 with e3 e4
              subst e3 e4
              obtain ⟨c0, d0⟩ := hc 0 _ rfl
              obtain ⟨c1, d1⟩ := hc 1 _ rfl
              obtain ⟨c2, d2⟩ := hc 2 _ rfl
              have d0 := d0.2
              have hfix := hR'.fix 20000 (.hdr v) rfl
              simp only [valAt, hfix] at d0
              injection d0 with d0
              rw [<- d0] at c0
              rw [d1.2.int_inv] at c1
              rw [d2.2.int_inv] at c2
              refine ⟨hR'.defers, _, ?_, b', off', cells, e, rfl, ⟨hR'.below.os, hR'.below.tape, hR'.below.output, hR'.below.size, fun k hk => hR'.below.block k hk rfl⟩, ?_, hh2, c0, c1, c2⟩
              · have hres : results fn a'.tmps = (do let vs <- fn.results.mapM (resOf a'.tmps); pure (if h : vs.size = 1 then vs[0] else .tuple vs)) := by
                  unfold results
                  congr 1
                have hfr : fn.results = #[.tmp t] := by apply Array.ext'; exact ht
                rw [hres, hfr, Array.mapM_eq_mapM_toList]
                simp [resOf, e2]
              · have := (hR'.lab_ge b' _ hl).1
                exact this.resolve_right (fun h => h rfl)
        · cases hend
      · cases hend
    · cases hend
  split at hk
  · rename_i he
    have he := exNo_ok he
    subst he
    exact fin hk
  · rename_i he
    have he := exNo_ok he
    subst he
    exact fin hk
  · cases hk
end
end Go.Proofs.YtckjagaogcbedaaGreat
namespace Go.Proofs.YtckjagaogcbedaaGreat
open Go.RowKit
set_option linter.unusedVariables false
set_option maxRecDepth 100000
def nV (i j : Nat) : Nat := 20001 + 1000 * i + j
def leafS (i j : Nat) (x : V) : Lf := match x with
  | .sl .. => .own [nV i j]
  | x => .v x
def leafSs (i : Nat) : Nat -> List V -> List Lf
  | _, [] => []
  | j, x :: xs => leafS i j x :: leafSs i (j + 1) xs
def rootS (args : List Pt) (n : Nat) : Option Root := bif Nat.ble 20001 n && Nat.blt n 60000 then (match args[(n - 20001) / 1000]? with
  | some (_, xs) => (match xs[(n - 20001) % 1000]? with
    | some (.sl t g q l) => some (.sl (.sl t g q l))
    | _ => none)
  | none => none) else none
def startV (args : List Pt) : S := ⟨fun i => match args[i]? with
  | some (false, [x]) => .lf (leafS i 0 x)
  | some (true, xs) => .agg (leafSs i 0 xs)
  | _ => .undef, rootS args⟩
def endV (σ : S) (rv : Array ResultVar) (a j : Nat) (t : TC) : Option (Nat × Nat) := match rv.toList with
  | [.tmp s] => (match σ.t s with
    | .view [n] sz i k => bif Nat.beq n (nV a j) && Nat.beq sz (csz t) then some (i, k) else none
    | _ => none)
  | _ => none
def fnVK (P : Program) (N : Nat) (Φ : Ctrs) (Λ : Blks) (code : Code) (rv : Array ResultVar) (a j : Nat) (t : TC) (args : List Pt) : Option (Nat × Nat) :=
  codeK P N Φ Λ code (startV args) fun e σ => match exNo e with
    | some 0 => endV σ rv a j t
    | some 1 => endV σ rv a j t
    | _ => none
def ctrV (ai : List (Bool × TC)) (a j : Nat) (t : TC) (F : InT ai -> Option (Nat × Nat)) : CtrV := ⟨a, j, t, fun args => match inRd ai args with
  | some x => F x
  | none => none⟩
section
variable {P : Program} {w w' : World} {w0 : Wd} {B N : Nat} {lab lab' : Lab} {ρ ρ' : Nat -> Loc} {σ : S} {a : Act} {X : Type} {d : Nat} {r : X} {o : Oper} {Φ : Ctrs} {Λ : Blks}
theorem leafSs_get (i : Nat) : ∀ (xs : List V) (j0 j : Nat), (leafSs i j0 xs)[j]? = (xs[j]?).map fun x => leafS i (j0 + j) x
  | [], j0, j => by simp [leafSs]
  | x :: xs, j0, 0 => by simp [leafSs]
  | x :: xs, j0, j + 1 => by
    simp only [leafSs, List.getElem?_cons_succ, leafSs_get i xs (j0 + 1) j]
    rw [show j0 + 1 + j = j0 + (j + 1) by omega]
theorem leafSs_len (i : Nat) : ∀ (xs : List V) (j0 : Nat), (leafSs i j0 xs).length = xs.length
  | [], _ => rfl
  | x :: xs, j0 => by simp [leafSs, leafSs_len i xs (j0 + 1)]
theorem nV_div {i j : Nat} (h : j < 1000) : (nV i j - 20001) / 1000 = i /\ (nV i j - 20001) % 1000 = j := by
  unfold nV
  omega
def rhoS (vals : Array Value) (n : Nat) : Loc := .hdr ((leafVal vals ((n - 20001) / 1000) ((n - 20001) % 1000)).getD undef)
theorem leafS_ok {vals : Array Value} {i j : Nat} {x : V} {u : Value} (hj : j < 1000) (hu : leafVal vals i j = some u) (hf : x.fro = true) (hr : RV w B (fun _ => none) [] x u) : RLf w B (fun _ => none) (rhoS vals) (leafS i j x) u := by
  unfold leafS
  split
  · refine ⟨hr.isSl rfl rfl, ?_⟩
    obtain ⟨e1, e2⟩ := nV_div (i := i) hj
    simp only [valAt, rhoS, e1, e2, hu]
    rfl
  · exact ⟨hf, hr⟩
theorem fnV_ok {f : Nat} {fn : Func} {code : Code} {ai : List (Bool × TC)} {aa jj : Nat} {t : TC} {F : InT ai -> Option (Nat × Nat)} (hf : P.funcs[f]? = some fn) (hb : fn.body = some code) (hN : fn.ntmps = N) (hname : (fn.name == "runtime.NumGoroutine") = false) (hai : Nat.ble ai.length N = true) (hN2 : Nat.ble N 20000 = true) (hsz : (ai.all fun p => Nat.blt (csz p.2) 1000 && (p.1 || Nat.beq (csz p.2) 1)) = true) (hjj : Nat.blt jj 1000 = true) (haa : Nat.blt aa 30 = true)
    (hΦ : CtrsOK P Φ) (hΛ : BlksOK P N Λ (occs code)) (hF : ∀ x, fnVK P N Φ Λ code fn.results aa jj t (inMk ai x) = F x) : enters P f /\ CtrVOK P f (ctrV ai aa jj t F) := by
  refine ⟨⟨fn, hf, hname, by rw [hb]; rfl⟩, fun args p h w vals hargs hQ => ?_⟩
  simp only [ctrV] at h
  split at h
  · rename_i x hx
    obtain ⟨k1, k2⟩ := inRd_ok ai args x hx
    have hlen : ∀ (l : List (Bool × TC)) (x : InT l), (inMk l x).length = l.length := by
      intro l
      induction l with
      | nil => intro x; rfl
      | cons p l ih => obtain ⟨b, t⟩ := p; intro x; simp [inMk, ih]
    have hval : vals.size = ai.length := by rw [hargs.1, <- k1, hlen]
    have hle : vals.size <= N := by rw [hval]; exact Nat.le_of_ble_eq_true hai
    have hN2 := Nat.le_of_ble_eq_true hN2
    have hfr : ∀ (l : List (Bool × TC)) (x : InT l), (l.all fun p => Nat.blt (csz p.2) 1000 && (p.1 || Nat.beq (csz p.2) 1)) = true -> ∀ (j : Nat) p, (inMk l x)[j]? = some p -> (∀ y ∈ p.2, y.fro = true) /\ p.2.length < 1000 /\ (p.1 = true \/ p.2.length = 1) := by
      intro l
      induction l with
      | nil => intro x _ j p hp; simp [inMk] at hp
      | cons c l ih =>
        obtain ⟨b, t⟩ := c
        intro x hs j p hp
        rw [List.all_cons, Bool.and_eq_true] at hs
        cases j with
        | zero =>
          simp [inMk] at hp
          subst hp
          refine ⟨fun y hy => ?_, ?_⟩
          · obtain ⟨i, hi⟩ := List.mem_iff_getElem?.1 hy
            exact enc_fro t 0 x.1 (by omega) i y hi
          · show (enc t 0 x.1).length < 1000 /\ (b = true \/ (enc t 0 x.1).length = 1)
            rw [enc_length]
            have h8 := hs.1
            rw [Bool.and_eq_true, Bool.or_eq_true] at h8
            have h9 : csz t < 1000 := Nat.le_of_ble_eq_true h8.1
            exact ⟨h9, h8.2.imp id Nat.eq_of_beq_eq_true⟩
        | succ j => exact ih x.2 hs.2 j p (by simpa [inMk] using hp)
    have hget : ∀ (i : Nat) (p : Pt), (inMk ai x)[i]? = some p -> ∃ u : Value, vals[i]? = some u /\ PV w w.heap.size (fun _ => none) (fun _ => []) p u /\ (∀ y ∈ p.2, y.fro = true) /\ p.2.length < 1000 := by
      intro i p hp
      obtain ⟨q, hq, hq1, hq2⟩ := k2 i p hp
      obtain ⟨u, hu, hpv⟩ := hargs.2 i q hq
      obtain ⟨g1, g2, g3⟩ := hfr ai x hsz i p hp
      refine ⟨u, hu, ?_, g1, g2⟩
      obtain ⟨b, ys⟩ := p
      obtain ⟨b', xs⟩ := q
      simp only at hq1
      subst hq1
      have hw := hpv.wks hq2
      rcases g3 with g3 | g3
      · simp only at g3
        subst g3
        exact hw.pvS
      · obtain ⟨y, rfl⟩ := List.length_eq_one_iff.1 g3
        cases b' with
        | true => exact hw.pvS
        | false => exact hw.pv
    have hleaf : ∀ (i : Nat) (p : Pt), (inMk ai x)[i]? = some p -> ∀ (j : Nat) y, p.2[j]? = some y -> ∃ u, leafVal vals i j = some u /\ RV w w.heap.size (fun _ => none) [] y u /\ y.fro = true /\ j < 1000 := by
      intro i p hp j y hy
      obtain ⟨u, hu, ⟨us, h1, h2, h3⟩, h4, h5⟩ := hget i p hp
      obtain ⟨v, hv, hr⟩ := h3 j y hy
      refine ⟨v, ?_, hr, h4 y (List.mem_of_getElem? hy), by have := (List.getElem?_eq_some_iff.1 hy).1; omega⟩
      unfold leafVal
      rw [hu]
      obtain ⟨b, ys⟩ := p
      cases b with
      | true =>
        have h1 : u = .agg us := h1
        subst h1
        exact hv
      | false =>
        have h1 : us = #[u] := h1
        subst h1
        have hj : j = 0 := by
          have := (Array.getElem?_eq_some_iff.1 hv).1
          simpa using this
        subst hj
        have : u = v := by simpa using hv
        subst this
        have hna : ∀ us, u ≠ .agg us := by
          rintro us rfl
          cases hr
        cases u <;> first | exact absurd rfl (hna _) | rfl
    let W : Wd := ⟨w, fun _ => none, fun r => if 20000 <= r /\ r < 60000 then some (rhoS vals r) else none, hQ, fun r hr => if_neg (by omega)⟩
    refine calls_of_wp hf hb ?_
    rw [<- hF x] at h
    unfold fnVK at h
    have hR : R W N (startV (inMk ai x)) { tmps := vals ++ Array.replicate (fn.ntmps - vals.size) undef, defers := [] } w := by
      refine ⟨fun _ => none, rhoS vals, .of (Below.refl w.heap.size w) (Nat.le_refl _), (fun b k hk => by cases hk), (fun n y hy => ?_), fun i => ?_, by simp [hN]; omega, rfl, fun r l hr => ?_, fun r hr => ?_⟩
      · have hy : rootS (inMk ai x) n = some y := hy
        unfold rootS at hy
        cases hb : (Nat.ble 20001 n && Nat.blt n 60000) with
        | false => rw [hb] at hy; cases hy
        | true =>
          rw [hb, cond_true] at hy
          split at hy
          · rename_i b xs hp
            split at hy
            · rename_i t' g q l hl
              injection hy with hy
              subst hy
              obtain ⟨u, hu, hr, hf', _⟩ := hleaf _ _ hp _ _ hl
              refine .sl u _ ?_ (hr.key hf')
              unfold rhoS
              rw [hu]
              rfl
            · cases hy
          · cases hy
      · show RA w w.heap.size _ _ (match (inMk ai x)[i]? with | some (false, [x]) => A.lf (leafS i 0 x) | some (true, xs) => .agg (leafSs i 0 xs) | _ => .undef) _
        have hgt : ∀ p : Pt, (inMk ai x)[i]? = some p -> ∃ u : Value, vals[i]? = some u /\ (vals ++ Array.replicate (fn.ntmps - vals.size) undef).getD i undef = u := by
          intro p hp
          obtain ⟨u, hu, _⟩ := hget i p hp
          have hi : i < vals.size := (Array.getElem?_eq_some_iff.1 hu).1
          exact ⟨u, hu, by rw [Array.getD_eq_getD_getElem?, Array.getElem?_append_left hi, hu]; rfl⟩
        split
        · rename_i x' hx'
          obtain ⟨u, hu, e⟩ := hgt _ hx'
          rw [e]
          obtain ⟨v, hv, hr, hf', _⟩ := hleaf i _ hx' 0 x' rfl
          have huv : u = v := by
            unfold leafVal at hv
            rw [hu] at hv
            obtain ⟨u2, hu2, ⟨us, h1, h2, h3⟩, _⟩ := hget i _ hx'
            rw [hu] at hu2
            injection hu2 with hu2
            subst hu2
            have h1 : us = #[u] := h1
            subst h1
            obtain ⟨v3, hv3, hr3⟩ := h3 0 x' rfl
            have : u = v3 := by simpa using hv3
            subst this
            have hna : ∀ us, u ≠ .agg us := by
              rintro us rfl
              cases hr3
            cases u <;> first | exact absurd rfl (hna _) | (simp only [show Nat.beq 0 0 = true from rfl, cond_true, Option.some.injEq] at hv; exact hv)
          subst huv
          exact leafS_ok (by omega) hv hf' hr
        · rename_i xs hx'
          obtain ⟨u, hu, e⟩ := hgt _ hx'
          rw [e]
          obtain ⟨u2, hu2, ⟨us, h1, h2, h3⟩, _⟩ := hget i _ hx'
          rw [hu] at hu2
          injection hu2 with hu2
          subst hu2
          have h1 : u = .agg us := h1
          refine ⟨us, h1, by rw [leafSs_len]; exact h2, fun j y hy => ?_⟩
          rw [leafSs_get] at hy
          cases hz : xs[j]? with
          | none => rw [hz] at hy; cases hy
          | some z =>
            rw [hz] at hy
            injection hy with hy
            subst hy
            obtain ⟨v, hv, hr, hf', hj⟩ := hleaf i _ hx' j z hz
            have huj : us[j]? = some v := by
              unfold leafVal at hv
              rw [hu, h1] at hv
              exact hv
            refine ⟨v, huj, ?_⟩
            rw [Nat.zero_add]
            exact leafS_ok hj hv hf' hr
        · trivial
      · have hr : (if 20000 <= r /\ r < 60000 then some (rhoS vals r) else none) = some l := hr
        split at hr
        · injection hr
        · cases hr
      · show (if 20000 <= r /\ r < 60000 then some (rhoS vals r) else none) = none
        rw [if_neg (by omega)]
    refine wp_mono (codeK_ok (w0 := W) hΦ code _ _ h hΛ _ w hR) fun e a' w' he => ?_
    obtain ⟨σ', hk, lab1, ρ1, hR'⟩ := he
    have fin : endV σ' fn.results aa jj t = some p -> a'.defers = [] /\ ∃ u, (results fn a'.tmps).run P w' = .ok u w' /\ ∃ A n cap, leafVal vals aa jj = some (.slice A n cap) /\ p.1 <= p.2 /\ p.2 <= n /\ Ending.returned u = .returned (sliced A p.1 p.2 cap (csz t)) /\ Below w.heap.size w w' := by
      intro hend
      unfold endV at hend
      split at hend
      · rename_i s hs
        split at hend
        · rename_i n sz i k hv
          cases hb2 : (Nat.beq n (nV aa jj) && Nat.beq sz (csz t)) with
          | false => rw [hb2] at hend; cases hend
          | true =>
            rw [hb2, cond_true] at hend
            injection hend with hend
            subst hend
            rw [Bool.and_eq_true] at hb2
            have hn := Nat.eq_of_beq_eq_true hb2.1
            have hsz2 := Nat.eq_of_beq_eq_true hb2.2
            subst hn hsz2
            have h1 := hR'.tmp s
            rw [hv] at h1
            obtain ⟨A, m, c, e1, e2, e3, e4⟩ := h1
            have hjj := Nat.le_of_ble_eq_true hjj
            have hna : 20000 <= nV aa jj := by unfold nV; omega
            by_cases hlt : nV aa jj < 60000
            · have hfix := hR'.fix (nV aa jj) (rhoS vals (nV aa jj)) (if_pos ⟨hna, hlt⟩)
              have e1 : (match ρ1 (nV aa jj) with | .hdr v => some v | _ => none) = some (Value.slice A m c) := e1
              rw [hfix] at e1
              obtain ⟨d1, d2⟩ := nV_div (i := aa) (j := jj) (by omega)
              have e1 : some ((leafVal vals ((nV aa jj - 20001) / 1000) ((nV aa jj - 20001) % 1000)).getD undef) = some (Value.slice A m c) := e1
              rw [d1, d2] at e1
              injection e1 with e1
              refine ⟨hR'.defers, _, ?_, A, m, c, ?_, e2, e3, congrArg Ending.returned e4, ⟨hR'.below.os, hR'.below.tape, hR'.below.output, hR'.below.size, fun k hk => hR'.below.block k hk rfl⟩⟩
              · have hres : results fn a'.tmps = (do let vs <- fn.results.mapM (resOf a'.tmps); pure (if h : vs.size = 1 then vs[0] else .tuple vs)) := by
                  unfold results
                  congr 1
                have hfr : fn.results = #[.tmp s] := by apply Array.ext'; exact hs
                rw [hres, hfr, Array.mapM_eq_mapM_toList]
                simp [resOf]
              · cases hl : leafVal vals aa jj with
                | none => rw [hl] at e1; cases e1
                | some u => rw [hl] at e1; exact congrArg some e1
            · exfalso
              have := Nat.le_of_ble_eq_true haa
              unfold nV at hlt
              omega
        · cases hend
      · cases hend
    split at hk
    · rename_i he
      have he := exNo_ok he
      subst he
      exact fin hk
    · rename_i he
      have he := exNo_ok he
      subst he
      exact fin hk
    · cases hk
  · cases h
end
end Go.Proofs.YtckjagaogcbedaaGreat
namespace Go.Proofs.YtckjagaogcbedaaGreat
open Go.RowKit
set_option linter.unusedVariables false
def Wd.pin (d : Wd) (g : Nat) (l : Option Loc) (hg : 20000 <= g) : Wd := ⟨d.w, d.L, fun r => if r = g then l else d.F r, d.held, fun r hr => by
  show (if r = g then l else d.F r) = none
  rw [if_neg (by omega)]
  exact d.low r hr⟩
def resA (g : Nat) : List (Bool × List Lf) -> A
  | [(false, [x])] => .lf (x.drop g)
  | [(true, cs)] => .agg (cs.map (Lf.drop g))
  | [(false, _)] => .undef
  | ps => .tup (ps.map fun p => (p.1, p.2.map (Lf.drop g)))
def outI {X : Type} (P : Program) (g : Nat) (rv : Array ResultVar) (τ : S) (k : S -> A -> Option X) : Option X :=
  resVarK P τ rv.toList fun ps => match τ.m g with
    | some (.gh ys) => k ⟨fun j => ((ys.map (A.drop g))[j]?).getD .undef, (τ.drop g).m⟩ (resA g ps)
    | _ => none
def inlS (g N : Nat) (σ : S) (xs : List A) : S := ⟨fun j => ((xs.map (A.drop g))[j]?).getD .undef, upd (σ.drop g).m g (some (.gh ((List.range N).map fun j => (σ.t j).drop g)))⟩
def noB : Blks := fun _ => none
def inlK {X : Type} (P : Program) (M g : Nat) (Φ : Ctrs) (code : Code) (rv : Array ResultVar) (N : Nat) (σ : S) (xs : List A) (k : S -> A -> Option X) : Option X :=
  bif Nat.ble xs.length M then codeK P M Φ noB code (inlS g N σ xs) fun e τ => match exNo e with
    | some 0 => outI P g rv τ k
    | some 1 => outI P g rv τ k
    | _ => none
  else none
def ctrI (P : Program) (M g : Nat) (Φ : Ctrs) (code : Code) (rv : Array ResultVar) : CtrI := ⟨fun X N σ xs k => inlK P M g Φ code rv N σ xs k⟩
section
variable {P : Program} {w w' : World} {w0 : Wd} {B M N g : Nat} {lab lab' : Lab} {ρ ρ' : Nat -> Loc} {σ : S} {a : Act} {X : Type} {d : Nat} {r : X} {o : Oper} {Φ : Ctrs} {Λ : Blks}
theorem splitK_det {dst : Option Tmp} {gd : Bool} {k : S -> Option X} (h : splitK σ dst gd k = some r) : ∃ τ, k τ = some r /\ Det (fun X k => splitK (X := X) σ dst gd k) τ := by
  unfold splitK at h
  cases gd with
  | false => exact ⟨σ, h, fun X k => rfl⟩
  | true =>
    rw [cond_true] at h
    split at h
    · rename_i d
      split at h
      · rename_i b hb
        cases b with
        | true => exact ⟨_, h, fun X k => by simp only [splitK, cond_true, hb]⟩
        | false => exact ⟨_, h, fun X k => by simp only [splitK, cond_true, hb, cond_false]⟩
      · rename_i hb
        exact ⟨σ, h, fun X k => by
          show splitK σ (some d) true k = k σ
          unfold splitK
          simp only [cond_true]⟩
    · exact ⟨σ, h, fun X k => rfl⟩
theorem takeK_Det [Inhabited Wd] {ops : Array Oper} {L i : Nat} {k : S -> Option X} (h : takeK P N Φ ops L i σ o k = some r) : ∃ τ, k τ = some r /\ Det (fun X k => takeK (X := X) P N Φ ops L i σ o k) τ := by
  unfold takeK at h
  split at h
  · rename_i hw
    obtain ⟨v, h1, hd, _⟩ := valK_ok (w0 := default) (N := N) h
    cases hv : v.nr2 (badP Φ ops i L (waits ops i ops.size 0 0) σ) (badB σ ops i L (waits ops i ops.size 0 0)) with
    | false => rw [hv] at h1; cases h1
    | true =>
      rw [hv, cond_true] at h1
      obtain ⟨h2, h3⟩ := putK_eq h1
      exact ⟨_, h2, fun X k => by
        simp only [takeK, hw]
        refine (hd.at_ _).trans ?_
        rw [hv, cond_true]
        exact (h3 σ).at_ _⟩
  · rename_i hw
    obtain ⟨h1, h2⟩ := putK_eq h
    exact ⟨_, h1, fun X k => by simp only [takeK, hw]; exact (h2 σ).at_ _⟩
  · cases h
theorem doK_Det [Inhabited Wd] (hΦ : CtrsOK P Φ) {ops : Array Oper} {k : S -> Option X} (h : doK P N Φ ops σ o k = some r) : ∃ τ, k τ = some r /\ Det (fun X k => doK (X := X) P N Φ ops σ o k) τ := by
  unfold doK at h
  split at h
  · rename_i hw
    obtain ⟨τ, h1, h2⟩ := opK_Det hΦ h
    exact ⟨τ, h1, fun X k => by simp only [doK, hw]; exact h2 X k⟩
  · rename_i hw
    obtain ⟨h1, h2⟩ := putK_eq h
    exact ⟨_, h1, fun X k => by simp only [doK, hw]; exact (h2 σ).at_ _⟩
  · cases h
theorem drawK_Det [Inhabited Wd] (hΦ : CtrsOK P Φ) {ops : Array Oper} : ∀ (f L : Nat) (σ : S) (k : S -> Option X), drawK P N Φ ops f L σ k = some r -> ∃ τ, k τ = some r /\ Det (fun X k => drawK (X := X) P N Φ ops f L σ k) τ
  | 0, L, σ, k, h => by
    unfold drawK at h
    split at h
    · rename_i hr
      exact ⟨σ, h, fun X k => by simp only [drawK, hr]⟩
    · cases h
  | f + 1, L, σ, k, h => by
    unfold drawK at h
    split at h
    · rename_i hr
      exact ⟨σ, h, fun X k => by simp only [drawK, hr]⟩
    · rename_i i hr
      split at h
      · rename_i o ho
        obtain ⟨τ, h1, h2⟩ := doK_Det hΦ h
        obtain ⟨τ', h3, h4⟩ := splitK_det h1
        obtain ⟨τ'', h5, h6⟩ := drawK_Det hΦ f _ τ' k h3
        exact ⟨τ'', h5, fun X k => by
          simp only [drawK, hr, ho]
          exact (h2.at_ _).trans ((h4.at_ _).trans (h6.at_ _))⟩
      · cases h
    · rename_i rs hn hs
      split at h
      · rename_i i hf
        split at h
        · rename_i o ho
          obtain ⟨τ, h1, h2⟩ := takeK_Det h
          obtain ⟨τ', h3, h4⟩ := splitK_det h1
          obtain ⟨τ'', h5, h6⟩ := drawK_Det hΦ f _ τ' k h3
          refine ⟨τ'', h5, fun X k => ?_⟩
          show drawK P N Φ ops (f + 1) L σ k = k τ''
          unfold drawK
          split
          · rename_i e; exact absurd e hn
          · rename_i i e; exact absurd e (hs i)
          · simp only [hf, ho]
            exact (h2.at_ _).trans ((h4.at_ _).trans (h6.at_ _))
        · cases h
      · rename_i hf
        split at h
        · rename_i i hf2
          split at h
          · rename_i o ho
            obtain ⟨τ, h1, h2⟩ := doK_Det hΦ h
            obtain ⟨τ', h3, h4⟩ := splitK_det h1
            obtain ⟨τ'', h5, h6⟩ := drawK_Det hΦ f _ τ' k h3
            refine ⟨τ'', h5, fun X k => ?_⟩
            show drawK P N Φ ops (f + 1) L σ k = k τ''
            unfold drawK
            split
            · rename_i e; exact absurd e hn
            · rename_i i e; exact absurd e (hs i)
            · simp only [hf, hf2, ho]
              exact (h2.at_ _).trans ((h4.at_ _).trans (h6.at_ _))
          · cases h
        · cases h
theorem drawE_Det [Inhabited Wd] (hΦ : CtrsOK P Φ) {ops : Array Oper} {k : S -> Option X} (h : drawE P N Φ ops σ k = some r) : ∃ τ, k τ = some r /\ Det (fun X k => drawE (X := X) P N Φ ops σ k) τ := by
  unfold drawE at h
  split at h
  · rename_i i hi
    split at h
    · rename_i o ho
      split at h
      · rename_i e he
        obtain ⟨τ, h1, h2⟩ := doK_Det hΦ h
        obtain ⟨τ', h3, h4⟩ := drawK_Det hΦ _ _ _ _ h1
        exact ⟨τ', h3, fun X k => by
          simp only [drawE, hi, ho, he]
          exact (h2.at_ _).trans (h4.at_ _)⟩
      · cases h
    · cases h
  · rename_i hi
    obtain ⟨τ, h1, h2⟩ := drawK_Det hΦ _ _ _ _ h
    exact ⟨τ, h1, fun X k => by simp only [drawE, hi]; exact h2.at_ _⟩
theorem opFK_Det [Inhabited Wd] (hΦ : CtrsOK P Φ) {k : S -> Option X} (h : opFK P N Φ σ o k = some r) : ∃ τ, k τ = some r /\ ∀ (X' : Type) (k' : S -> Option X'), opFK P N Φ σ o k' = k' τ := by
  have same : ∀ σ2 : S, (∀ (X' : Type) (k' : S -> Option X'), opFK P N Φ σ o k' = opK P N Φ σ2 o k') -> ∃ τ, k τ = some r /\ ∀ (X' : Type) (k' : S -> Option X'), opFK P N Φ σ o k' = k' τ := by
    intro σ2 e
    rw [e] at h
    obtain ⟨τ, h1, h2⟩ := opK_Det hΦ h
    exact ⟨τ, h1, fun X k => (e X k).trans (h2 X k)⟩
  cases ho : o.op with
  | store t x y =>
    cases hd : o.dst with
    | some d => exact same σ fun X' k' => by simp only [opFK, ho, hd]
    | none =>
      have e : ∀ (X' : Type) (k' : S -> Option X'), opFK P N Φ σ o k' = (match opd σ y with
        | .view [q] s i j => storeVK P σ q s i j t (opd σ x) k'
        | _ => opK P N Φ σ o k') := fun X' k' => by simp only [opFK, ho, hd]; rfl
      rw [e] at h
      split at h
      · rename_i q s i j hy
        obtain ⟨τ, h1, h2⟩ := storeVK_det h
        exact ⟨τ, h1, fun X k => by rw [e]; simp only [hy]; exact h2.at_ _⟩
      · rename_i hn
        obtain ⟨τ, h1, h2⟩ := opK_Det hΦ h
        refine ⟨τ, h1, fun X k => ?_⟩
        rw [e]
        split
        · rename_i q s i j hy; exact (hn _ _ _ _ hy).elim
        · exact h2 X k
  | slice t x lo hi mx =>
    cases hd : o.dst with
    | none => exact same σ fun X' k' => by simp only [opFK, ho, hd]
    | some d =>
      cases mx with
      | some m => exact same σ fun X' k' => by simp only [opFK, ho, hd]
      | none => exact same (iceS σ (opd σ x)) fun X' k' => by simp only [opFK, ho, hd]
  | _ => exact same σ fun X' k' => by simp only [opFK, ho]
theorem regK_Det [Inhabited Wd] (hΦ : CtrsOK P Φ) {ops : Array Oper} : ∀ (rest : List Oper) (j : Nat) (σ : S) (k : S -> Option X), regK P N Φ ops j rest σ k = some r -> ∃ τ, k τ = some r /\ Det (fun X k => regK (X := X) P N Φ ops j rest σ k) τ
  | [], j, σ, k, h => ⟨σ, h, fun X k => rfl⟩
  | o :: rest, j, σ, k, h => by
    unfold regK at h
    split at h
    · rename_i hw
      obtain ⟨τ, h1, h2⟩ := opFK_Det hΦ h
      obtain ⟨τ', h3, h4⟩ := splitK_det h1
      obtain ⟨τ'', h5, h6⟩ := regK_Det hΦ rest _ τ' k h3
      exact ⟨τ'', h5, fun X k => by
        simp only [regK, hw]
        exact (h2 _ _).trans ((h4.at_ _).trans (h6.at_ _))⟩
    · rename_i hw
      obtain ⟨h1, h2⟩ := putK_eq h
      obtain ⟨τ'', h5, h6⟩ := regK_Det hΦ rest _ _ k h1
      exact ⟨τ'', h5, fun X k => by
        simp only [regK, hw]
        exact ((h2 σ).at_ _).trans (h6.at_ _)⟩
    · cases h
theorem codeK_Det [Inhabited Wd] (hΦ : CtrsOK P Φ) : ∀ (c : Code) (σ : S) (k : Exit -> S -> Option X), codeK P N Φ noB c σ k = some r -> ∃ e τ, k e τ = some r /\ ∀ (X' : Type) (k' : Exit -> S -> Option X'), codeK P N Φ noB c σ k' = k' e τ := by
  intro c
  induction c with
  | skip => exact fun σ k h => ⟨_, _, h, fun _ _ => rfl⟩
  | label l => exact fun σ k h => ⟨_, _, h, fun _ _ => rfl⟩
  | ret => exact fun σ k h => ⟨_, _, h, fun _ _ => rfl⟩
  | exit id => exact fun σ k h => ⟨_, _, h, fun _ _ => rfl⟩
  | region id ops draw =>
    intro σ k h
    cases draw with
    | true =>
      simp only [codeK] at h
      cases hm : P.follows .mixedOrders with
      | false => rw [hm] at h; cases h
      | true =>
        rw [hm, cond_true] at h
        obtain ⟨τ, h1, h2⟩ := drawE_Det hΦ h
        exact ⟨_, τ, h1, fun X k => by simp only [codeK, hm, cond_true]; exact h2.at_ _⟩
    | false =>
      simp only [codeK] at h
      obtain ⟨τ, h1, h2⟩ := regK_Det hΦ _ _ _ _ h
      exact ⟨_, τ, h1, fun X k => by simp only [codeK]; exact h2.at_ _⟩
  | seq x y ihx ihy =>
    intro σ k h
    simp only [codeK] at h
    obtain ⟨e, τ, h1, h2⟩ := ihx σ _ h
    cases e with
    | normal =>
      obtain ⟨e', τ', h3, h4⟩ := ihy τ k h1
      exact ⟨e', τ', h3, fun X k => by simp only [codeK]; rw [h2]; exact h4 X k⟩
    | _ => exact ⟨_, τ, h1, fun X k => by simp only [codeK]; rw [h2]⟩
  | cond c x y ihx ihy =>
    intro σ k h
    simp only [codeK] at h
    split at h
    · rename_i b hb
      cases b with
      | true =>
        obtain ⟨e, τ, h1, h2⟩ := ihx σ k h
        exact ⟨e, τ, h1, fun X k => by simp only [codeK, hb, cond_true]; exact h2 X k⟩
      | false =>
        obtain ⟨e, τ, h1, h2⟩ := ihy σ k h
        exact ⟨e, τ, h1, fun X k => by simp only [codeK, hb, cond_false]; exact h2 X k⟩
    · cases h
  | block id c ih =>
    intro σ k h
    have e0 : ∀ (X' : Type) (k' : Exit -> S -> Option X'), codeK P N Φ noB (.block id c) σ k' = codeK P N Φ noB c σ fun e σ' => match e with
      | .exit id' => if id' = id then k' .normal σ' else k' (.exit id') σ'
      | e => k' e σ' := fun X' k' => rfl
    rw [e0] at h
    obtain ⟨e, τ, h1, h2⟩ := ih σ _ h
    cases e with
    | exit id' =>
      by_cases hi : id' = id
      · simp only [hi, if_true] at h1
        exact ⟨_, τ, h1, fun X k => by rw [e0, h2]; simp only [hi, if_true]⟩
      · simp only [hi, if_false] at h1
        exact ⟨_, τ, h1, fun X k => by rw [e0, h2]; simp only [hi, if_false]⟩
    | _ => exact ⟨_, τ, h1, fun X k => by rw [e0, h2]⟩
  | _ => intro σ k h; simp [codeK] at h
theorem resVarK_Det : ∀ (l : List ResultVar) (k : List (Bool × List Lf) -> Option X), resVarK P σ l k = some r -> ∃ ps, k ps = some r /\ Det (fun X k => resVarK (X := X) P σ l k) ps
  | [], k, h => ⟨[], h, fun X k => rfl⟩
  | .tmp t :: rest, k, h => by
    simp only [resVarK] at h
    split at h
    · rename_i p hp
      obtain ⟨ps, h2, h3⟩ := resVarK_Det rest _ h
      exact ⟨_, h2, fun X k => by simp only [resVarK, hp]; exact h3.at_ _⟩
    · cases h
  | .cell c ty :: rest, k, h => by
    simp only [resVarK] at h
    obtain ⟨y, hy, hd⟩ := loadK_det h
    split at hy
    · rename_i p hp
      obtain ⟨ps, h2, h3⟩ := resVarK_Det rest _ hy
      exact ⟨_, h2, fun X k => by
        simp only [resVarK]
        refine (hd.at_ _).trans ?_
        simp only [hp]
        exact h3.at_ _⟩
    · cases hy
theorem outI_Det {rv : Array ResultVar} {k : S -> A -> Option X} (h : outI P g rv σ k = some r) : ∃ ys ps, σ.m g = some (.gh ys) /\ resVarK P σ rv.toList some = some ps /\ k ⟨fun j => ((ys.map (A.drop g))[j]?).getD .undef, (σ.drop g).m⟩ (resA g ps) = some r /\
    ∀ (X' : Type) (k' : S -> A -> Option X'), outI P g rv σ k' = k' ⟨fun j => ((ys.map (A.drop g))[j]?).getD .undef, (σ.drop g).m⟩ (resA g ps) := by
  unfold outI at h
  obtain ⟨ps, h1, h2⟩ := resVarK_Det _ _ h
  split at h1
  · rename_i ys hy
    exact ⟨ys, ps, hy, h2.at_ _, h1, fun X' k' => by
      unfold outI
      refine (h2.at_ _).trans ?_
      simp only [hy]⟩
  · cases h1
theorem List.getD_map_drop (xs : List A) (g j : Nat) : ((xs.map (A.drop g))[j]?).getD .undef = A.drop g ((xs[j]?).getD .undef) := by
  rw [List.getElem?_map]
  cases xs[j]? <;> rfl
theorem RP.resA {ps : List (Bool × List Lf)} {vs : List Value} (hρ : ∀ r, r ≠ g -> ρ' r = ρ r) (hl : vs.length = ps.length) (h : ∀ (i : Nat) p v, ps[i]? = some p -> vs[i]? = some v -> RP w B lab ρ p v) :
    RA w B lab ρ' (resA g ps) (if h : vs.toArray.size = 1 then vs.toArray[0] else .tuple vs.toArray) := by
  have tup : ps.length ≠ 1 -> RA w B lab ρ' (.tup (ps.map fun p => (p.1, p.2.map (Lf.drop g)))) (if h : vs.toArray.size = 1 then vs.toArray[0] else .tuple vs.toArray) := by
    intro hn
    rw [dif_neg (by simpa [hl] using hn)]
    refine ⟨vs.toArray, rfl, by simpa using hl, fun j p hp => ?_⟩
    rw [List.getElem?_map] at hp
    cases hq : ps[j]? with
    | none => rw [hq] at hp; cases hp
    | some q =>
      rw [hq] at hp
      injection hp with hp
      subst hp
      have hj : j < vs.length := by rw [hl]; exact (List.getElem?_eq_some_iff.1 hq).1
      exact ⟨vs[j], by simp [hj], (h j q vs[j] hq (List.getElem?_eq_getElem hj)).rho hρ⟩
  unfold Proofs.YtckjagaogcbedaaGreat.resA
  split
  · rename_i x
    match vs, hl, h with
    | [v], _, h =>
      have := h 0 _ v rfl rfl
      obtain ⟨u, hu, hr⟩ := this.2 0 x rfl
      have : v = u := by simpa using hu
      subst this
      exact hr.rho hρ
  · rename_i cs
    match vs, hl, h with
    | [v], _, h => exact RP.rho hρ (p := (true, cs)) (h 0 _ v rfl rfl)
  · trivial
  · rename_i h1 h2 h3
    refine tup fun e => ?_
    obtain ⟨⟨b, cs⟩, rfl⟩ := List.length_eq_one_iff.1 e
    cases b with
    | true => exact h2 cs rfl
    | false => exact h3 cs rfl
theorem inl_ok {f : Nat} {fn : Func} {code : Code} (hf : P.funcs[f]? = some fn) (hb : fn.body = some code) (hN : fn.ntmps = M) (hM : M <= 20000) (hname : (fn.name == "runtime.NumGoroutine") = false) (hg : 20000 <= g /\ g < 60000) (hΦ : CtrsOK P Φ) :
    enters P f /\ CtrIOK P f (ctrI P M g Φ code fn.results) := by
  refine ⟨⟨fn, hf, hname, by rw [hb]; rfl⟩, fun X N σ xs k r h => ?_⟩
  have h : inlK P M g Φ code fn.results N σ xs k = some r := h
  unfold inlK at h
  cases hl : Nat.ble xs.length M with
  | false => rw [hl] at h; cases h
  | true =>
    rw [hl, cond_true] at h
    have hl' := Nat.le_of_ble_eq_true hl
    obtain ⟨e, τ, h1, h2⟩ := codeK_Det hΦ _ _ _ h
    have h3 : (e = .normal \/ e = .ret) /\ outI P g fn.results τ k = some r := by
      split at h1
      · rename_i he; exact ⟨.inl (exNo_ok he), h1⟩
      · rename_i he; exact ⟨.inr (exNo_ok he), h1⟩
      · cases h1
    obtain ⟨hex, h3⟩ := h3
    obtain ⟨ys, ps, hy, hps, hk, hd⟩ := outI_Det h3
    refine ⟨_, _, hk, fun X' k' => ?_, fun w0 lab ρ a w vals hR hsz hv => ?_⟩
    · show inlK P M g Φ code fn.results N σ xs k' = _
      unfold inlK
      rw [hl, cond_true, h2]
      rcases hex with rfl | rfl
      · exact hd X' k'
      · exact hd X' k'
    · let us := a.tmps.toList
      let W : Wd := w0.pin g (some (.vals us)) hg.1
      let ρ1 := upd ρ g (.vals us)
      have hρ : ∀ r, r ≠ g -> ρ1 r = ρ r := fun r hr => upd_ne _ _ _ hr
      have hus : ∀ j, us.getD j undef = a.tmps.getD j undef := fun j => by
        show a.tmps.toList.getD j undef = _
        rw [List.getD_eq_getElem?_getD, Array.getElem?_toList, Array.getD_eq_getD_getElem?]
      have hle : vals.size <= M := by rw [hsz]; exact hl'
      have hR1 : Rl W M lab ρ1 (inlS g N σ xs) { tmps := vals ++ Array.replicate (fn.ntmps - vals.size) undef, defers := [] } w := by
        refine ⟨⟨hR.below.os, hR.below.tape, hR.below.output, hR.below.size, hR.below.block⟩, hR.lab_ge, fun r x hx => ?_, fun j => ?_, by simp [hN]; omega, rfl, fun r l hr => ?_, fun r hr => ?_⟩
        · have hx : upd (σ.drop g).m g (some (.gh ((List.range N).map fun j => (σ.t j).drop g))) r = some x := hx
          by_cases hrg : r = g
          · subst hrg
            rw [upd_same] at hx
            injection hx with hx
            subst hx
            refine .gh us _ (upd_same _ _ _) fun j x hj => ?_
            rw [List.getElem?_map] at hj
            cases hr : (List.range N)[j]? with
            | none => rw [hr] at hj; cases hj
            | some j' =>
              rw [hr] at hj
              injection hj with hj
              obtain ⟨hlt, hj'⟩ := List.getElem?_eq_some_iff.1 hr
              rw [List.getElem_range] at hj'
              subst hj' hj
              rw [hus]
              exact (hR.tmp j).rho hρ
          · rw [upd_ne _ _ _ hrg] at hx
            have hx : (bif Nat.beq r g then none else (σ.m r).map (Root.drop g)) = some x := hx
            cases hb : Nat.beq r g with
            | true => rw [hb] at hx; cases hx
            | false =>
              rw [hb, cond_false] at hx
              cases hm : σ.m r with
              | none => rw [hm] at hx; cases hx
              | some y =>
                rw [hm] at hx
                injection hx with hx
                subst hx
                exact (hR.root r y hm).rho hρ hrg
        · show RA w w0.heap.size lab ρ1 (((xs.map (A.drop g))[j]?).getD .undef) _
          rw [List.getD_map_drop]
          by_cases hj : j < vals.size
          · have e1 : (vals ++ Array.replicate (fn.ntmps - vals.size) undef).getD j undef = vals.getD j undef := by
              rw [Array.getD_eq_getD_getElem?, Array.getElem?_append_left hj, Array.getD_eq_getD_getElem?]
            show RA w w0.heap.size lab ρ1 _ ((vals ++ Array.replicate (fn.ntmps - vals.size) undef).getD j undef)
            rw [e1]
            exact (hv j).rho hρ
          · rw [List.getElem?_eq_none (by omega : xs.length <= j)]
            trivial
        · have hr : (if r = g then some (Loc.vals us) else w0.F r) = some l := hr
          by_cases hrg : r = g
          · rw [if_pos hrg] at hr
            injection hr with hr
            rw [hrg, <- hr]
            exact upd_same _ _ _
          · rw [if_neg hrg] at hr
            rw [hρ r hrg]
            exact hR.fix r l hr
        · show (if r = g then some (Loc.vals us) else w0.F r) = none
          rw [if_neg (by omega)]
          rcases hr with hr | hr
          · exact w0.low r (by omega)
          · exact hR.lim r (.inr hr)
      refine calls_of_wp hf hb ?_
      refine wp_mono (codeK_ok (w0 := W) hΦ code _ (fun e τ => some (e, τ)) (h2 _ _) (fun p hp b hb => by cases hb) _ w ⟨lab, ρ1, hR1⟩) fun e' a' w' he => ?_
      obtain ⟨σ', hk', lab', ρ', hR'⟩ := he
      injection hk' with hk'
      injection hk' with k1 k2
      subst k1 k2
      have hgv : ρ' g = .vals us := hR'.fix g _ (if_pos rfl)
      let ρ2 := upd ρ' g ((w0.F g).getD (.blk 0 0))
      have hρ2 : ∀ r, r ≠ g -> ρ2 r = ρ' r := fun r hr => upd_ne _ _ _ hr
      obtain ⟨ps', hps', hrv⟩ := resVarK_ok (w0 := W) (N := M) _ _ hps
      injection hps' with hps'
      subst hps'
      obtain ⟨vs, hrun, hlen, hvs⟩ := hrv lab' ρ' a' w' hR'
      have hrun' : (fn.results.mapM (resOf a'.tmps)).run P w' = .ok vs.toArray w' := by
        rw [Array.mapM_eq_mapM_toList]
        simp [hrun]
      have hres : results fn a'.tmps = (do let vs <- fn.results.mapM (resOf a'.tmps); pure (if h : vs.size = 1 then vs[0] else .tuple vs)) := by
        unfold results
        congr 1
      have hRf : Rl w0 N lab' ρ2 ⟨fun j => ((ys.map (A.drop g))[j]?).getD .undef, (σ'.drop g).m⟩ a w' := by
        refine ⟨⟨hR'.below.os, hR'.below.tape, hR'.below.output, hR'.below.size, hR'.below.block⟩, hR'.lab_ge, fun r x hx => ?_, fun j => ?_, hR.size, hR.defers, fun r l hr => ?_, hR.lim⟩
        · have hx : (bif Nat.beq r g then none else (σ'.m r).map (Root.drop g)) = some x := hx
          cases hb : Nat.beq r g with
          | true => rw [hb] at hx; cases hx
          | false =>
            have hrg : r ≠ g := by rintro rfl; simp at hb
            rw [hb, cond_false] at hx
            cases hm : σ'.m r with
            | none => rw [hm] at hx; cases hx
            | some y =>
              rw [hm] at hx
              injection hx with hx
              subst hx
              exact (hR'.root r y hm).rho hρ2 hrg
        · show RA w' w0.heap.size lab' ρ2 (((ys.map (A.drop g))[j]?).getD .undef) _
          rw [List.getD_map_drop]
          cases hyj : ys[j]? with
          | none => trivial
          | some y =>
            have hro := hR'.root g _ hy
            generalize hz : Root.gh ys = z at hro
            cases hro with
            | blk => cases hz
            | sl => cases hz
            | mp => cases hz
            | gh us' xs' hρ3 hx3 =>
              injection hz with hz
              subst hz
              rw [hgv] at hρ3
              injection hρ3 with hρ3
              subst hρ3
              have := hx3 j y hyj
              rw [hus] at this
              exact this.rho hρ2
        · by_cases hrg : r = g
          · subst hrg
            show upd ρ' r ((w0.F r).getD (.blk 0 0)) r = l
            rw [upd_same, hr]
            rfl
          · rw [hρ2 r hrg]
            exact hR'.fix r l ((if_neg hrg).trans hr)
      have fin : a'.defers = [] /\ ∃ v, (results fn a'.tmps).run P w' = .ok v w' /\ ∃ v_1 lab' ρ', Ending.returned v = Ending.returned v_1 /\ Rl w0 N lab' ρ' ⟨fun j => ((ys.map (A.drop g))[j]?).getD .undef, (σ'.drop g).m⟩ a w' /\ RA w' w0.heap.size lab' ρ' (resA g ps') v_1 :=
        ⟨hR'.defers, _, by rw [hres, Sem.run_bind, hrun', Result.andThen_ok, Sem.run_pure], _, lab', ρ2, rfl, hRf, RP.resA hρ2 hlen hvs⟩
      rcases hex with rfl | rfl
      · exact fin
      · exact fin
end
end Go.Proofs.YtckjagaogcbedaaGreat
namespace Go.Proofs.YtckjagaogcbedaaGreat
open Go.RowKit
set_option linter.unusedVariables false
def kUp : Nat := 1000000000
def stays (n : Nat) : Bool := Nat.ble 20000 (n % kUp)
theorem kUp_ge : 60000 <= kUp := Nat.le_of_ble_eq_true rfl
def upN (n : Nat) : Nat := bif stays n then n else n + kUp
def dnN (n : Nat) : Option Nat := bif stays n then some n else bif Nat.ble kUp n && !stays (n - kUp) then some (n - kUp) else none
def upK : List Nat -> List Nat
  | [] => []
  | [r] => [upN r]
  | x :: y :: k => x :: upK (y :: k)
def Lf.up : Lf -> Lf
  | .v x => .v x
  | .own k => .own (upK k)
  | .dead => .dead
def A.up : A -> A
  | .undef => .undef
  | .skip => .skip
  | .lf x => .lf x.up
  | .agg cs => .agg (cs.map Lf.up)
  | .tup xs => .tup (xs.map fun p => (p.1, p.2.map Lf.up))
  | .ptr k => .ptr (upK k)
  | .bptr r j => .bptr (upN r) j
  | .fptr cs => .fptr cs
  | .ffn f cs => .ffn f cs
  | .pk r n => .pk (upN r) n
  | .view k s i j => .view (upK k) s i j
  | .fn f cap => .fn f (cap.map fun p => (upN p.1, p.2))
def Root.up : Root -> Root
  | .blk cs => .blk (cs.map Lf.up)
  | .sl y => .sl y
  | .mp l => .mp l
  | .gh xs => .gh (xs.map A.up)
def S.up (σ : S) : S := ⟨fun k => (σ.t k).up, fun n => match dnN n with
  | some r => (σ.m r).map Root.up
  | none => none⟩
def upI (c : CtrI) : CtrI := ⟨fun X N σ xs k => c.run X N σ.up (xs.map A.up) fun σ' y => k σ'.up y.up⟩
section
variable {P : Program} {w w' : World} {w0 : Wd} {B N : Nat} {lab lab' : Lab} {ρ ρ' : Nat -> Loc} {σ : S} {a : Act} {X : Type}
theorem dn_up (r : Nat) : dnN (upN r) = some r := by
  unfold dnN upN
  cases h : stays r with
  | true => simp only [cond_true, h]
  | false =>
    have h2 : stays (r + kUp) = false := by
      unfold stays at h ⊢
      rw [Nat.add_mod_right]
      exact h
    have h3 : Nat.ble kUp (r + kUp) = true := Nat.ble_eq_true_of_le (Nat.le_add_left _ _)
    have h4 : r + kUp - kUp = r := Nat.add_sub_cancel r kUp
    rw [cond_false, h2, cond_false, h3, h4, h]
    rfl
theorem up_dn {n r : Nat} (h : dnN n = some r) : n = upN r := by
  unfold dnN at h
  cases hs : stays n with
  | true =>
    rw [hs, cond_true] at h
    injection h with h
    subst h
    simp [upN, hs]
  | false =>
    rw [hs, cond_false] at h
    cases hc : (Nat.ble kUp n && !stays (n - kUp)) with
    | false => rw [hc] at h; cases h
    | true =>
      rw [hc, cond_true] at h
      have h := Option.some.inj h
      rw [Bool.and_eq_true] at hc
      have h1 := Nat.le_of_ble_eq_true hc.1
      have h2 : stays r = false := by rw [<- h]; simpa using hc.2
      simp only [upN, h2, cond_false]
      omega
def upL (lab : Lab) : Lab := fun b => (lab b).map upK
def upR (ρ : Nat -> Loc) : Nat -> Loc := fun n => match dnN n with
  | some r => ρ r
  | none => ρ n
theorem upR_up (r : Nat) : upR ρ (upN r) = ρ r := by unfold upR; rw [dn_up]
theorem upK_ne {k : List Nat} (h : k ≠ []) : upK k ≠ [] := by
  match k with
  | [] => exact absurd rfl h
  | [r] => simp [upK]
  | x :: y :: k => simp [upK]
theorem upK_cons {x : Nat} {k : List Nat} (h : k ≠ []) : upK (x :: k) = x :: upK k := by
  match k with
  | [] => exact absurd rfl h
  | y :: k => rfl
theorem upK_cons2 (x y : Nat) (k : List Nat) : ∃ y' k', upK (x :: y :: k) = x :: y' :: k' := by
  rw [upK_cons (by simp)]
  match k with
  | [] => exact ⟨_, _, rfl⟩
  | z :: k => exact ⟨y, _, rfl⟩
theorem addrAt_up : ∀ (k : List Nat) (ad : Addr), addrAt w lab ρ k = some ad -> addrAt w (upL lab) (upR ρ) (upK k) = some ad
  | [], _, h => by simp [addrAt] at h
  | [_], _, h => by simp [addrAt] at h
  | [_, _], _, h => by simp [addrAt] at h
  | [_, _, _], _, h => by simp [addrAt] at h
  | [j, i, s, r], ad, h => by
    simp only [addrAt] at h
    simp only [upK, addrAt, upR_up]
    split at h
    · rename_i b n c hr
      split at h
      · rename_i hl
        rw [if_pos (by simp [upL, hl, upK])]
        exact h
      · cases h
    · cases h
  | j :: i :: s :: x :: y :: q, ad, h => by
    simp only [addrAt] at h
    split at h
    · rename_i b n c hr
      split at h
      · rename_i hl
        cases ha : addrAt w lab ρ (x :: y :: q) with
        | none => rw [ha] at hr; cases hr
        | some ad' =>
          have ih := addrAt_up (x :: y :: q) ad' ha
          have e : upL lab b = some (upK (x :: y :: q)) := by simp [upL, hl]
          rw [upK_cons (by simp), upK_cons (by simp), upK_cons (by simp)]
          rw [ha] at hr
          obtain ⟨y', q', hk⟩ := upK_cons2 x y q
          rw [hk] at ih e ⊢
          simp only [addrAt, ih, hr, e, if_true]
          exact h
      · cases h
    · cases h
theorem valAt_up {k : List Nat} {u : Value} (h : valAt w lab ρ k = some u) : valAt w (upL lab) (upR ρ) (upK k) = some u := by
  match k with
  | [] => simp [valAt, addrAt] at h
  | [r] =>
    simp only [valAt] at h
    simp only [upK, valAt, upR_up]
    exact h
  | x :: y :: k =>
    simp only [valAt] at h
    cases ha : addrAt w lab ρ (x :: y :: k) with
    | none => rw [ha] at h; cases h
    | some ad =>
      have := addrAt_up _ _ ha
      obtain ⟨y', q', hk⟩ := upK_cons2 x y k
      rw [hk] at this ⊢
      simp only [valAt, this]
      rw [ha] at h
      exact h
theorem upL_none {b : Nat} (h : lab b = none) : upL lab b = none := by simp [upL, h]
theorem RV.up (hne : ∀ b k, lab b = some k -> k ≠ []) {k : List Nat} {x : V} {v : Value} (h : RV w B lab k x v) : RV w B (upL lab) (upK k) x v := by
  induction h with
  | int => exact .int _ _ _
  | bool => exact .bool _ _
  | str => exact .str _ _
  | nil => exact .nil _
  | slNil => exact .slNil _ _ _
  | slEmp q t o A c ho => exact .slEmp _ _ _ _ _ ho
  | slNon q t o A c ho => exact .slNon _ _ _ _ _ ho
  | fro q t o qn l b off cap u ho hl hb h1 hcap hc hr ih =>
    exact .fro _ _ _ _ _ _ _ _ u ho (upL_none hl) hb h1 hcap hc ih
  | own q t o qn l b cap cs u hl hh hs hn hm hc hr ih =>
    have hq := hne b q hl
    refine .own _ _ _ _ _ _ _ cs u (by simp [upL, hl]) hh hs hn hm hc fun i h j x hx => ?_
    have := ih i h j x hx
    rw [upK_cons (by simp), upK_cons (by simp), upK_cons hq] at this
    exact this
theorem RLf.up (hne : ∀ b k, lab b = some k -> k ≠ []) {x : Lf} {u : Value} (h : RLf w B lab ρ x u) : RLf w B (upL lab) (upR ρ) x.up u := by
  cases x with
  | v x => exact ⟨h.1, RV.up hne h.2⟩
  | own k => exact ⟨h.1, valAt_up h.2⟩
  | dead => trivial
theorem RLs.up (hne : ∀ b k, lab b = some k -> k ≠ []) {cs : List Lf} {us : Array Value} (h : RLs w B lab ρ cs us) : RLs w B (upL lab) (upR ρ) (cs.map Lf.up) us := by
  refine ⟨by rw [List.length_map]; exact h.1, fun j x hx => ?_⟩
  rw [List.getElem?_map] at hx
  cases hz : cs[j]? with
  | none => rw [hz] at hx; cases hx
  | some z =>
    rw [hz] at hx
    injection hx with hx
    subst hx
    obtain ⟨u, h1, h2⟩ := h.2 j z hz
    exact ⟨u, h1, h2.up hne⟩
theorem RP.up (hne : ∀ b k, lab b = some k -> k ≠ []) {p : Bool × List Lf} {u : Value} (h : RP w B lab ρ p u) : RP w B (upL lab) (upR ρ) (p.1, p.2.map Lf.up) u := by
  obtain ⟨b, cs⟩ := p
  cases b with
  | true =>
    obtain ⟨us, rfl, h⟩ := h
    exact ⟨us, rfl, RLs.up hne h⟩
  | false => exact RLs.up hne h
theorem RA.up (hne : ∀ b k, lab b = some k -> k ≠ []) {x : A} {u : Value} (h : RA w B lab ρ x u) : RA w B (upL lab) (upR ρ) x.up u := by
  cases x with
  | undef => trivial
  | skip => exact h
  | lf x => exact RLf.up hne h
  | agg cs => exact RP.up hne (p := (true, cs)) h
  | tup xs =>
    obtain ⟨us, rfl, h1, h2⟩ := h
    refine ⟨us, rfl, by rw [List.length_map]; exact h1, fun j p hp => ?_⟩
    rw [List.getElem?_map] at hp
    cases hz : xs[j]? with
    | none => rw [hz] at hp; cases hp
    | some z =>
      rw [hz] at hp
      injection hp with hp
      subst hp
      obtain ⟨v, h3, h4⟩ := h2 j z hz
      exact ⟨v, h3, h4.up hne⟩
  | ptr k =>
    obtain ⟨ad, rfl, h⟩ := h
    exact ⟨ad, rfl, addrAt_up _ _ h⟩
  | bptr r j =>
    obtain ⟨b, off, h1, h2⟩ := h
    exact ⟨b, off, (upR_up r).trans h1, h2⟩
  | fptr cs =>
    obtain ⟨b, off, g1, g2, g3, g4⟩ := h
    refine ⟨b, off, g1, g2, upL_none g3, fun j x hx => ?_⟩
    obtain ⟨f1, v, f2, f3⟩ := g4 j x hx
    exact ⟨f1, v, f2, RV.up hne f3⟩
  | ffn f cs =>
    obtain ⟨pv, e0, h⟩ := h
    refine ⟨pv, e0, ?_⟩
    obtain ⟨b, off, g1, g2, g3, g4⟩ := h
    refine ⟨b, off, g1, g2, upL_none g3, fun j x hx => ?_⟩
    obtain ⟨f1, v, f2, f3⟩ := g4 j x hx
    exact ⟨f1, v, f2, RV.up hne f3⟩
  | pk r n =>
    obtain ⟨b, h1, h2⟩ := h
    exact ⟨b, (upR_up r).trans h1, h2⟩
  | view k s i j =>
    obtain ⟨A, n, c, h1, h2⟩ := h
    exact ⟨A, n, c, valAt_up h1, h2⟩
  | fn f cap =>
    obtain ⟨vs, rfl, h1, h2⟩ := h
    refine ⟨vs, rfl, by rw [List.length_map]; exact h1, fun j p hp => ?_⟩
    rw [List.getElem?_map] at hp
    cases hz : cap[j]? with
    | none => rw [hz] at hp; cases hp
    | some z =>
      rw [hz] at hp
      injection hp with hp
      subst hp
      obtain ⟨b, off, h3, h4⟩ := h2 j z hz
      exact ⟨b, off, (upR_up _).trans h3, h4⟩
theorem RootOK.up (hne : ∀ b k, lab b = some k -> k ≠ []) {r : Nat} {x : Root} (h : RootOK w B lab ρ r x) : RootOK w B (upL lab) (upR ρ) (upN r) x.up := by
  have hρ := upR_up (ρ := ρ) r
  have hl : ∀ {b}, lab b = some [r] -> upL lab b = some [upN r] := fun h => by simp [upL, h, upK]
  cases h with
  | blk b off cells e cs us h1 h2 hh hs hc =>
    refine .blk b off cells e _ us (hρ.trans h1) (hl h2) hh (by rw [List.length_map]; exact hs) fun j x hx => ?_
    rw [List.getElem?_map] at hx
    cases hz : cs[j]? with
    | none => rw [hz] at hx; cases hx
    | some z =>
      rw [hz] at hx
      injection hx with hx
      subst hx
      exact ⟨(hc j z hz).1, (hc j z hz).2.up hne⟩
  | sl v y h1 h2 => exact .sl v y (hρ.trans h1) (RV.up hne h2)
  | mp b c es l h1 h2 hh he => exact .mp b c es l (hρ.trans h1) (hl h2) hh he
  | gh us xs h1 hx =>
    refine .gh us _ (hρ.trans h1) fun j x hj => ?_
    rw [List.getElem?_map] at hj
    cases hz : xs[j]? with
    | none => rw [hz] at hj; cases hj
    | some z =>
      rw [hz] at hj
      injection hj with hj
      subst hj
      exact RA.up hne (hx j z hz)
theorem Rl.up (h : Rl w0 N lab ρ σ a w) : Rl w0 N (upL lab) (upR ρ) σ.up a w := by
  have hne : ∀ b k, lab b = some k -> k ≠ [] := fun b k hk => (h.lab_ge b k hk).2.2
  refine ⟨h.below, fun b k hk => ?_, fun n x hx => ?_, fun k => RA.up hne (h.tmp k), h.size, h.defers, fun r l hr => ?_, h.lim⟩
  · unfold upL at hk
    cases hl : lab b with
    | none => rw [hl] at hk; cases hk
    | some q =>
      rw [hl] at hk
      injection hk with hk
      obtain ⟨h1, h2, h3⟩ := h.lab_ge b q hl
      exact ⟨h1, h2, by rw [<- hk]; exact upK_ne h3⟩
  · have hx : (match dnN n with | some r => (σ.m r).map Root.up | none => none) = some x := hx
    cases hd : dnN n with
    | none => rw [hd] at hx; cases hx
    | some r =>
      rw [hd] at hx
      have hx : (σ.m r).map Root.up = some x := hx
      cases hm : σ.m r with
      | none => rw [hm] at hx; cases hx
      | some y =>
        rw [hm] at hx
        injection hx with hx
        subst hx
        rw [up_dn hd]
        exact (h.root r y hm).up hne
  · have hs : stays r = true := by
      have h1 : 20000 <= r := Nat.le_of_not_lt fun hlt => by rw [w0.low r hlt] at hr; cases hr
      have h2 : r < 60000 := Nat.lt_of_not_le fun hle => by rw [h.lim r (.inr hle)] at hr; cases hr
      unfold stays
      rw [Nat.mod_eq_of_lt (Nat.lt_of_lt_of_le h2 kUp_ge)]
      exact Nat.ble_eq_true_of_le h1
    have hu : upN r = r := by simp [upN, hs]
    have := upR_up (ρ := ρ) r
    rw [hu] at this
    rw [this]
    exact h.fix r l hr
theorem upI_ok {f : Nat} {c : CtrI} (h : CtrIOK P f c) : CtrIOK P f (upI c) := by
  intro hi X N σ xs k r hr
  obtain ⟨σ', y, h1, h2, h3⟩ := h X N σ.up (xs.map A.up) _ r hr
  refine ⟨σ'.up, y.up, h1, fun X' k' => h2 X' _, fun w0 lab ρ a w vals hR hs hv => ?_⟩
  have hne : ∀ b k, lab b = some k -> k ≠ [] := fun b k hk => (hR.lab_ge b k hk).2.2
  refine (h3 w0 _ _ a w vals hR.up (by rw [List.length_map]; exact hs) fun i => ?_).mono fun e w' hp => ?_
  · rw [List.getElem?_map]
    have := hv i
    cases hx : xs[i]? with
    | none => trivial
    | some x =>
      rw [hx] at this
      exact RA.up hne this
  · obtain ⟨v, lab', ρ', he, hR', hy⟩ := hp
    exact ⟨v, _, _, he, hR'.up, RA.up (fun b k hk => (hR'.lab_ge b k hk).2.2) hy⟩
end
end Go.Proofs.YtckjagaogcbedaaGreat
namespace Go.Proofs.YtckjagaogcbedaaGreat
open Go.RowKit
set_option linter.unusedVariables false
def big : Nat := 4611686018427387904
def bodyOf (c : Code) (id : Nat) : Code := match (occs c).lookup id with
  | some (.loop b) => b
  | _ => .skip
def codeOf (fn : Func) : Code := fn.body.getD .skip
def ctrs (l : List (Nat × CtrX)) : Ctrs := fun f => l.lookup f
def CtrL (P : Program) : List (Nat × CtrX) -> Prop
  | [] => True
  | (f, c) :: l => (enters P f /\ CtrXOK P f c) /\ CtrL P l
theorem ctrs_ok {P : Program} : ∀ (l : List (Nat × CtrX)), CtrL P l -> CtrsOK P (ctrs l)
  | [], _ => fun f c h => by cases h
  | (f', c') :: l, ⟨h1, h2⟩ => fun f c h => by
    have h' : List.lookup f ((f', c') :: l) = some c := h
    clear h
    rw [List.lookup_cons] at h'
    split at h'
    · rename_i he
      have he : f = f' := by simpa using he
      subst he
      injection h' with h'
      subst h'
      exact h1
    · exact ctrs_ok l h2 f c h'
def blks (l : List (Nat × Blk')) : Blks := fun id => l.lookup id
def BlkL (P : Program) (N : Nat) (code : Code) : List (Nat × Blk') -> Prop
  | [] => True
  | (id, b) :: l => (∃ c, (occs code).lookup id = some c /\ BlkOK P N (.block id c) b) /\ BlkL P N code l
def ids (l : List (Nat × Code)) : Bool := (l.map (·.1)).all fun i => Nat.beq ((l.filter fun p => Nat.beq p.1 i).length) 1
theorem lookup_of_ids : ∀ (l : List (Nat × Code)) (p : Nat × Code), (∀ q ∈ l, q.1 = p.1 -> q = p) -> p ∈ l -> l.lookup p.1 = some p.2
  | [], p, _, h => by cases h
  | q :: l, p, hu, h => by
    rw [List.lookup_cons]
    by_cases he : p.1 = q.1
    · have : q = p := hu q (.head _) he.symm
      subst this
      simp
    · have hb : (p.1 == q.1) = false := by simpa using he
      rw [hb]
      rcases List.mem_cons.1 h with rfl | h
      · exact absurd rfl he
      · exact lookup_of_ids l p (fun q hq => hu q (.tail _ hq)) h
theorem ids_ok {l : List (Nat × Code)} (h : ids l = true) {p q : Nat × Code} (hp : p ∈ l) (hq : q ∈ l) (he : q.1 = p.1) : q = p := by
  have h1 := List.all_eq_true.1 h p.1 (List.mem_map_of_mem hp)
  have h1 := Nat.eq_of_beq_eq_true h1
  have hp' : p ∈ l.filter fun r => Nat.beq r.1 p.1 := List.mem_filter.2 ⟨hp, by simp⟩
  have hq' : q ∈ l.filter fun r => Nat.beq r.1 p.1 := List.mem_filter.2 ⟨hq, by simp [he]⟩
  obtain ⟨z, hz⟩ := List.length_eq_one_iff.1 h1
  rw [hz] at hp' hq'
  rw [List.mem_singleton.1 hp', List.mem_singleton.1 hq']
theorem blks_ok {P : Program} {N : Nat} {code : Code} (hi : ids (occs code) = true) : ∀ (l : List (Nat × Blk')), BlkL P N code l -> BlksOK P N (blks l) (occs code)
  | [], _ => fun p hp b h => by cases h
  | (id, b') :: l, ⟨⟨c, hc, h1⟩, h2⟩ => fun p hp b h => by
    have h' : List.lookup p.1 ((id, b') :: l) = some b := h
    clear h
    rw [List.lookup_cons] at h'
    split at h'
    · rename_i he
      have he : p.1 = id := by simpa using he
      injection h' with h'
      subst h'
      have := lookup_of_ids (occs code) p (fun q hq e => ids_ok hi hp hq e) hp
      rw [he, hc] at this
      injection this with this
      rw [he, <- this]
      exact h1
    · exact blks_ok hi l h2 p hp b h'
theorem blks_none {P : Program} {N : Nat} {l : List (Nat × Code)} : BlksOK P N (blks []) l := fun p hp b h => by cases h
def ci (P : Program) (fn : Func) (lev : Nat) (l : List (Nat × CtrX)) : CtrI := ctrI P fn.ntmps (59000 + lev) (ctrs l) (codeOf fn) fn.results
theorem inlP {P : Program} {f : Nat} {fn : Func} (lev : Nat) (l : List (Nat × CtrX)) (hf : P.funcs[f]? = some fn) (hl : CtrL P l) (hb : fn.body = some (codeOf fn) := by kernel_rfl) (hN : Nat.ble fn.ntmps 20000 = true := by kernel_rfl) (hv : Nat.ble lev 900 = true := by kernel_rfl) (hname : (fn.name == "runtime.NumGoroutine") = false := by kernel_rfl) : enters P f /\ CtrIOK P f (ci P fn lev l) :=
  inl_ok hf hb rfl (Nat.le_of_ble_eq_true hN) hname ⟨by omega, by have := Nat.le_of_ble_eq_true hv; omega⟩ (ctrs_ok l hl)
def cj (P : Program) (fn : Func) (lev : Nat) (l : List (Nat × CtrX)) : CtrI := upI (ci P fn lev l)
theorem inlJ {P : Program} {f : Nat} {fn : Func} {lev : Nat} {l : List (Nat × CtrX)} (h : enters P f /\ CtrIOK P f (ci P fn lev l)) : enters P f /\ CtrIOK P f (cj P fn lev l) := ⟨h.1, upI_ok h.2⟩
theorem fnP {P : Program} {f : Nat} {fn : Func} {ai : List (Bool × TC)} {ro : List (Bool × TC × Nat)} {F : InT ai -> Option (OutT ro)} (N : Nat) (l : List (Nat × CtrX)) (b : List (Nat × Blk')) (hf : P.funcs[f]? = some fn) (hl : CtrL P l) (hΛ : BlksOK P N (blks b) (occs (codeOf fn))) (hF : ∀ x, fnK P N (ctrs l) (blks b) (codeOf fn) fn.results (inMk ai x) (resRd ro) = F x) (hb : fn.body = some (codeOf fn) := by kernel_rfl) (hN : fn.ntmps = N := by kernel_rfl) (hname : (fn.name == "runtime.NumGoroutine") = false := by kernel_rfl) (hai : Nat.ble ai.length N = true := by kernel_rfl) (hro : okOut ro = true := by kernel_rfl) : enters P f /\ CtrOK P f (ctrT ai ro F) := fn_ok hf hb hN hname hai hro (ctrs_ok l hl) hΛ hF
theorem fnE {P : Program} {f : Nat} {fn : Func} {t : TC} {g : Nat} {F : List (T t) -> Option (List (T t))} (N : Nat) (l : List (Nat × CtrX)) (b : List (Nat × Blk')) (hf : P.funcs[f]? = some fn) (hl : CtrL P l) (hΛ : BlksOK P N (blks b) (occs (codeOf fn))) (hF : ∀ x : List (T t), fnK P N (ctrs l) (blks b) (codeOf fn) fn.results [(false, [.sl t 0 false x])] (resRd [(false, .sl t, g)]) = F x)
    (h0 : fnK P N (ctrs l) (blks b) (codeOf fn) fn.results [(false, [.nil])] (resRd [(false, .sl t, g)]) = some ([] : List (T t)) := by kernel_rfl) (h1 : fnK P N (ctrs l) (blks b) (codeOf fn) fn.results [(false, [.sl t 0 true []])] (resRd [(false, .sl t, g)]) = some ([] : List (T t)) := by kernel_rfl)
    (hb : fn.body = some (codeOf fn) := by kernel_rfl) (hN : fn.ntmps = N := by kernel_rfl) (hname : (fn.name == "runtime.NumGoroutine") = false := by kernel_rfl) (hai : Nat.ble 1 N = true := by kernel_rfl) (hro : okOut [(false, .sl t, g)] = true := by kernel_rfl) : enters P f /\ CtrOK P f (ctrT [(false, .sl t)] [(false, .sl t, g)] fun x => bif isEmp x.1 then some ([] : List (T t)) else F x.1) := fnE_ok hf hb hN hname hai hro (ctrs_ok l hl) hΛ hF h0 h1
theorem loopP {P : Program} {id : Nat} {body : Code} {τ : Tpl} {exs : List (Nat × Tpl)} {F : τ.St -> Option (τ.St ⊕ SumT exs)} {fuel : τ.St -> Nat} (N : Nat) (l : List (Nat × CtrX)) (b : List (Nat × Blk')) (hl : CtrL P l) (hΛ : BlksOK P N (blks b) (occs body)) (hF : ∀ x, stepK P N (ctrs l) (blks b) body τ exs x = F x) : BlkOK P N (.block id (.loop body)) (loopB id τ exs F fuel) := loopB_ok (ctrs_ok l hl) hΛ hF
end Go.Proofs.YtckjagaogcbedaaGreat
