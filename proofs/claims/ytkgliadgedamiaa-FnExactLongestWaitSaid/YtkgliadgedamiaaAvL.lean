/-
  Operations by contents: slices written out, parts of struct values, min and max, strings, conversions. Nothing here is a claim.
-/
import Derived.Test.YtkgliadgedamiaaAvK
namespace Go.Proofs.Ytkgliadgedamiaa
open Go.RowKit
set_option linter.unusedVariables false

/-- A choice by a bool that is known. -/
def pickK {X : Type} (N : Nat) (σ : S) (dst : Option Tmp) (c x y : A) (k : S → Option X) : Option X :=
  match c with
  | .lf (.v (.bool b)) => bif b then putK N σ dst x k else putK N σ dst y k
  | _ => none
/-- A field of a struct value. -/
def partK {X : Type} (P : Program) (s : TypeId) (x : A) (f : Nat) (k : A → Option X) : Option X :=
  match fieldT P s f, x with
  | some fd, .agg cs => (match szOf P fd.type, rowT P fd.type with
    | some n, some true => if fd.offset + n ≤ cs.length then k (.agg ((cs.drop fd.offset).take n)) else none
    | some _, some false => (match cs[fd.offset]? with
      | some y => k (.lf y)
      | none => none)
    | _, _ => none)
  | _, _ => none
def mmK {X : Type} (mx : Bool) (x y : A) (k : A → Option X) : Option X :=
  match x, y with
  | .lf (.v (.int kx a)), .lf (.v (.int _ b)) => k (.lf (.v (.int kx (bif mx then (if b > a then b else a) else (if b < a then b else a)))))
  | _, _ => none
def strIdxK {X : Type} (P : Program) (t : TypeId) (x i : A) (k : A → Option X) : Option X :=
  match x, i with
  | .lf (.v (.str s)), .lf (.v (.int _ iv)) => (match P.underlying t with
    | some .string => if h : 0 ≤ iv ∧ iv.toNat < s.size then k (.lf (.v (.int .u8 ((s[iv.toNat]'h.2).toNat : Int)))) else none
    | _ => none)
  | _, _ => none
def bndK {X : Type} (x : Option A) (d : Int) (k : Int → Option X) : Option X :=
  match x with
  | none => k d
  | some (.lf (.v (.int _ n))) => k n
  | _ => none
/-- A part of a string, or of a slice that nobody writes. -/
def sliceK {X : Type} (P : Program) (t : TypeId) (x : A) (lo hi : Option A) (k : A → Option X) : Option X :=
  match x with
  | .lf (.v (.str s)) => (match P.underlying t with
    | some .string => bndK lo 0 fun l => bndK hi (s.size : Int) fun h => if 0 ≤ l ∧ l ≤ h ∧ h ≤ (s.size : Int) then k (.lf (.v (.str (s.extract l.toNat h.toNat)))) else none
    | _ => none)
  | .lf (.v (.sl t' g qn l)) => (match elemT P t with
    | some e => (match szOf P e with
      | some n => if n = csz t' then (bif Nat.blt g 2 then bndK lo 0 fun a => bndK hi (l.length : Int) fun b => if 0 ≤ a ∧ a ≤ b ∧ b ≤ (l.length : Int) then k (.lf (.v (.sl t' g qn ((l.take b.toNat).drop a.toNat)))) else none else none) else none
      | none => none)
    | none => none)
  | _ => none
def convK {X : Type} (P : Program) (src dst : TypeId) (x : A) (k : A → Option X) : Option X :=
  match x with
  | .lf (.v (.int _ n)) => (match P.underlying src, P.underlying dst with
    | some _, some (.int kd) => k (.lf (.v (.int kd (kd.wrap n))))
    | _, _ => none)
  | _ => none

section
variable {P : Program} {w w' w0 : World} {B N : Nat} {lab lab' : Lab} {ρ ρ' : Nat → Loc} {σ : S} {a : Act} {X : Type} {d : Nat} {r : X} {o : Oper}

theorem fl_len {α : Type} (f : α → List Value) (s : Nat) (hf : ∀ x, (f x).length = s) (l : List α) : (l.flatMap f).length = l.length * s := by
  induction l with
  | nil => simp
  | cons a l ih => rw [List.flatMap_cons, List.length_append, hf, ih, List.length_cons, Nat.succ_mul]; omega
theorem fl_get {α : Type} (f : α → List Value) (s : Nat) (hf : ∀ x, (f x).length = s) : ∀ (l : List α) (k : Nat) (hk : k < l.length) (j : Nat), j < s → (l.flatMap f)[k * s + j]? = (f l[k])[j]? := by
  intro l
  induction l with
  | nil => intro k hk; simp at hk
  | cons a l ih =>
    intro k hk j hj
    rw [List.flatMap_cons]
    cases k with
    | zero => rw [Nat.zero_mul, Nat.zero_add, List.getElem?_append_left (by rw [hf]; exact hj)]; rfl
    | succ k =>
      have e : (k + 1) * s + j = s + (k * s + j) := by rw [Nat.succ_mul]; omega
      rw [e, List.getElem?_append_right (by rw [hf]; omega), hf, Nat.add_sub_cancel_left]
      exact ih k (by simpa using hk) j hj
theorem made_fl (z : Array Value) (s n : Nat) (hs : z.size = s) (h0 : 0 < s) : (madeCells z (n * s)).toList = (List.replicate n z.toList).flatten := by
  have e : (List.replicate n z.toList).flatten = (List.replicate n ()).flatMap (fun _ => z.toList) := by
    rw [List.flatMap_def, List.map_replicate]
  rw [e]
  have hl : ((List.replicate n ()).flatMap (fun _ => z.toList)).length = n * s := by
    rw [fl_len (fun _ => z.toList) s (fun _ => by simpa using hs)]
    simp
  apply List.ext_getElem?
  intro i
  rcases Nat.lt_or_ge i (n * s) with hi | hi
  · have hk : i / s < n := Nat.div_lt_of_lt_mul (by rw [Nat.mul_comm]; exact hi)
    have hj : i % s < s := Nat.mod_lt _ h0
    have ei : i = i / s * s + i % s := by rw [Nat.mul_comm]; exact (Nat.div_add_mod i s).symm
    have h2 := fl_get (fun _ => z.toList) s (fun _ => by simpa using hs) (List.replicate n ()) (i / s) (by simpa using hk) (i % s) hj
    rw [← ei] at h2
    rw [h2]
    have hz : i % s < z.size := by omega
    simp only [madeCells, Array.toList_map, Array.toList_range, List.getElem?_map, List.getElem?_range hi, Option.map_some, hs]
    simp [hz]
  · rw [List.getElem?_eq_none (by rw [Array.length_toList, size_madeCells]; exact hi), List.getElem?_eq_none (by rw [hl]; exact hi)]
theorem buildSK_ok {t : TypeId} {len : Nat} {parts : Array (Nat × Operand)} {k : S → Option X} (h : buildSK P N σ d t len parts.toList k = some r) : ∃ σ', k σ' = some r ∧ ∀ lab ρ a w, Rl w0 N lab ρ σ a w →
    ∃ w' lab' ρ' v, (Instr.buildSlice t len (parts.map fun (i, x) => (i, a.eval x))).run P w = .ok v w' ∧ Rl w0 N lab' ρ' σ' (a.put (some d) v) w' := by
  unfold buildSK at h
  split at h
  · rename_i e tc hei
    obtain ⟨hut, ht, i, hi, hsz, hby⟩ := elemInfo_ok hei
    split at h
    · rename_i z hz
      cases hc : (Nat.beq (full tc) 0 && Nat.beq z.cells.size (csz tc) && Nat.blt (len * csz tc) 16777217) with
      | false => rw [hc] at h; cases h
      | true =>
        rw [hc, cond_true] at h
        simp only [Bool.and_eq_true] at hc
        have hf := Nat.eq_of_beq_eq_true hc.1.1
        have hzs := Nat.eq_of_beq_eq_true hc.1.2
        have hsm : len * csz tc < 16777217 := by have := Nat.le_of_ble_eq_true hc.2; omega
        have hzi : i.zero = some z := by unfold zeroOf at hz; simpa [hi] using hz
        split at h
        · rename_i cs hcs
          split at h
          · rename_i vs hvs
            split at h
            · rename_i l hl
              obtain ⟨hd, h⟩ := newK_ok h
              refine ⟨_, h, fun lab ρ a w hR => ?_⟩
              obtain ⟨hll, hvl, hel⟩ := cutE_ok tc 0 len vs l hl
              have hinit : RLs w w0.heap.size lab ρ (List.replicate len (z.cells.toList.map zeroLf)).flatten (madeCells z.cells (len * csz tc)) := by
                have e1 : (List.replicate len (z.cells.toList.map zeroLf)).flatten = ((List.replicate len z.cells.toList).flatten).map zeroLf := by
                  rw [List.map_flatten, List.map_replicate]
                rw [e1, ← made_fl z.cells (csz tc) len hzs (csz_pos tc)]
                refine ⟨by simp, fun j x hx => ?_⟩
                rw [List.getElem?_map] at hx
                cases hv : (madeCells z.cells (len * csz tc)).toList[j]? with
                | none => rw [hv] at hx; cases hx
                | some v =>
                  rw [hv] at hx
                  injection hx with hx
                  subst hx
                  exact ⟨v, by simpa using hv, zeroLf_ok v⟩
              obtain ⟨cv', hfill, hR'⟩ := fillA_ok (w := w) (B := w0.heap.size) (lab := lab) (ρ := ρ) _ _ _ (parts.toList.map fun p => (p.1, a.eval p.2)) cs hcs hinit (by simp) (fun j p q hp hq => by
                rw [List.getElem?_map] at hp hq
                cases hx : parts.toList[j]? with
                | none => rw [hx] at hp; cases hp
                | some x =>
                  rw [hx] at hp hq
                  injection hp with hp
                  injection hq with hq
                  subst hp hq
                  exact ⟨rfl, hR.opd x.2⟩)
              have hcsv := lfVs_ok cs vs hvs
              have hcvs : cv'.size = len * csz tc := by rw [hR'.1, hcsv, List.length_map, hvl]
              have hrun : (Instr.buildSlice t len (parts.map fun (i, x) => (i, a.eval x))).run P w = .ok (.slice (some ⟨w.heap.size, 0, none⟩) len len) (w.alloc (.cells cv' e)) := by
                have hparts : (parts.map fun (i, x) => (i, a.eval x)).toList = parts.toList.map fun p => (p.1, a.eval p.2) := by simp
                by_cases h0 : len * csz tc = 0
                · have hm : madeCells z.cells (len * csz tc) = #[] := by rw [h0]; simp [madeCells]
                  rw [hm] at hfill
                  have h00 : len * i.size = 0 := by rw [hsz]; exact h0
                  rw [← hsz] at hfill
                  have e0 : ∀ f : Nat → Value, Array.map f (Array.range 0) = #[] := fun f => by simp
                  simp only [Instr.buildSlice, Sem.run_bind, run_underlying hut, Result.andThen_ok, sizeOf, typeInfo]
                  simp [hi, h00]
                  rw [e0, hfill]
                  simp [newRow]
                · exact run_buildSlice (P := P) w t e len _ cv' i z hut hi hzi (by rw [hsz]; omega) (by rw [hsz]; exact h0) (by rw [hsz, hparts]; exact hfill)
              refine ⟨_, upd lab w.heap.size (some [d]), upd ρ d (.hdr (.slice (some ⟨w.heap.size, 0, none⟩) len len)), _, hrun, (hR.newBlk (fun r hr => upd_ne _ _ _ hr) (.sl _ _ (upd_same _ _ _) ?_)).set ⟨rfl, by simp [valAt, upd_same]⟩ hd⟩
              have hget : ∀ i' (h' : i' < l.length) j x, (enc tc 0 l[i'])[j]? = some x → ∃ v, cv'[i' * csz tc + j]? = some v ∧ ∀ (w' : World) (B' : Nat) (lab' : Lab) (q' : List Nat), RV w' B' lab' q' x v := by
                intro i' h' j x hx
                obtain ⟨y, hy, hw⟩ := hel i' h' j x hx
                obtain ⟨v, hv, hr⟩ := hR'.2 (i' * csz tc + j) (.v y) (by rw [hcsv, List.getElem?_map, hy]; rfl)
                exact ⟨v, hv, fun w' B' lab' q' => (hr.2.wk hw).plain_any (enc_plain tc 0 l[i'] hf x (List.mem_of_getElem? hx))⟩
              have := RV.own (w := w.alloc (.cells cv' e)) (B := w0.heap.size) (lab := upd lab w.heap.size (some [d])) [d] tc 0 true l w.heap.size len cv' (fun i j => (cv'[i * csz tc + j]?).getD undef)
                (upd_same _ _ _) (by rw [ht]; exact heap_alloc_new w _) hcvs (by omega) (by have := Nat.le_mul_of_pos_right len (csz_pos tc); unfold maxLen; omega) (fun i' h' j x hx => ?_) (fun i' h' j x hx => ?_)
              · rw [hll] at this
                exact this
              · obtain ⟨v, hv, _⟩ := hget i' h' j x hx
                rw [hv]; rfl
              · obtain ⟨v, hv, hr⟩ := hget i' h' j x hx
                rw [hv]; exact hr _ _ _ _
            · cases h
          · cases h
        · cases h
    · cases h
  · cases h
theorem mmK_ok {mx : Bool} {x y : A} {k : A → Option X} (h : mmK mx x y k = some r) : ∃ z, k z = some r ∧ ∀ (w : World) (B : Nat) (lab : Lab) (ρ : Nat → Loc) (t ty : TypeId) (u v : Value), RA w B lab ρ x u → RA w B lab ρ y v →
    ∃ t', ((bif mx then Builtin.max_ #[t, t] ty #[u, v] else Builtin.min_ #[t, t] ty #[u, v]) : Sem Value).run P w = .ok t' w ∧ RA w B lab ρ z t' := by
  unfold mmK at h
  split at h
  · refine ⟨_, h, fun w B lab ρ t ty u v hu hv => ?_⟩
    obtain rfl := hu.2.int_inv
    obtain rfl := hv.2.int_inv
    cases mx with
    | true => exact ⟨_, by simp [Builtin.max_, Builtin.max2], rfl, .int _ _ _⟩
    | false => exact ⟨_, by simp [Builtin.min_, Builtin.min2], rfl, .int _ _ _⟩
  · cases h
theorem strIdxK_ok {t : TypeId} {x i : A} {k : A → Option X} (h : strIdxK P t x i k = some r) : ∃ z, k z = some r ∧ ∀ (w : World) (B : Nat) (lab : Lab) (ρ : Nat → Loc) (u v : Value), RA w B lab ρ x u → RA w B lab ρ i v →
    ∃ t', (Instr.index t u v).run P w = .ok t' w ∧ RA w B lab ρ z t' := by
  unfold strIdxK at h
  split at h
  · rename_i s kk iv
    split at h
    · rename_i hu
      split at h
      · rename_i hb
        refine ⟨_, h, fun w B lab ρ u v hu' hv => ?_⟩
        obtain rfl := hu'.2.str_inv
        obtain rfl := hv.2.int_inv
        exact ⟨_, by simp [Instr.index, asIntOf, run_underlying hu, hb.1, hb.2], rfl, .int _ _ _⟩
      · cases h
    · cases h
  · cases h
theorem convK_ok {src dst : TypeId} {x : A} {k : A → Option X} (h : convK P src dst x k = some r) : ∃ z, k z = some r ∧ ∀ (w : World) (B : Nat) (lab : Lab) (ρ : Nat → Loc) (u : Value), RA w B lab ρ x u →
    ∃ t', (convert src dst u).run P w = .ok t' w ∧ RA w B lab ρ z t' := by
  unfold convK at h
  split at h
  · rename_i kk n
    split at h
    · rename_i d1 kd hs hd
      refine ⟨_, h, fun w B lab ρ u hu => ?_⟩
      obtain rfl := hu.2.int_inv
      exact ⟨_, by simp [convert, run_underlying hs, run_underlying hd, Conv.intToInt], rfl, .int _ _ _⟩
    · cases h
  · cases h
theorem partK_ok {s : TypeId} {x : A} {f : Nat} {k : A → Option X} (h : partK P s x f k = some r) : ∃ z, k z = some r ∧ ∀ (w : World) (B : Nat) (lab : Lab) (ρ : Nat → Loc) (u : Value), RA w B lab ρ x u →
    ∃ t', (Instr.field s u f).run P w = .ok t' w ∧ RA w B lab ρ z t' := by
  unfold partK at h
  split at h
  · rename_i fd cs hfd
    have hst : ∃ fs, P.underlying s = some (.struct fs) ∧ fs[f]? = some fd := by
      unfold fieldT at hfd
      split at hfd
      · rename_i fs hu; exact ⟨fs, hu, hfd⟩
      · cases hfd
    obtain ⟨fs, hus, hfs⟩ := hst
    split at h
    · rename_i n hn hrow
      split at h
      · rename_i hle
        refine ⟨_, h, fun w B lab ρ u hu => ?_⟩
        obtain ⟨us, rfl, hR⟩ := hu
        have hagg : (isAgg fd.type).run P w = .ok true w := by
          unfold rowT at hrow
          split at hrow
          · rename_i fs' hu; unfold isAgg; rw [Sem.run_bind, run_underlying hu w]; rfl
          · rename_i c e hu; unfold isAgg; rw [Sem.run_bind, run_underlying hu w]; rfl
          · cases hrow
          · cases hrow
        unfold szOf at hn
        cases hi : P.info? fd.type with
        | none => simp [hi] at hn
        | some i =>
          have hin : i.size = n := by simpa [hi] using hn
          refine ⟨.agg (us.extract fd.offset (fd.offset + n)), by simp [Instr.field, run_underlying hus, hfs, asAgg, part, Sem.run_bind, hagg, sizeOf, typeInfo, hi, hin], _, rfl, ?_, fun j y hy => ?_⟩
          · have := hR.1
            simp
            omega
          · obtain ⟨hj, hy'⟩ := take_drop_get _ _ _ _ _ hy
            obtain ⟨v, hv, hr⟩ := hR.2 _ y hy'
            refine ⟨v, ?_, hr⟩
            rw [Array.getElem?_extract]
            have := hR.1
            rw [if_pos (by omega)]
            exact hv
      · cases h
    · rename_i n hn hrow
      split at h
      · rename_i y hy
        refine ⟨_, h, fun w B lab ρ u hu => ?_⟩
        obtain ⟨us, rfl, hR⟩ := hu
        obtain ⟨v, hv, hr⟩ := hR.2 _ y hy
        have hagg : (isAgg fd.type).run P w = .ok false w := by
          unfold rowT at hrow
          split at hrow
          · cases hrow
          · cases hrow
          · rename_i d hs ha hu
            unfold isAgg
            rw [Sem.run_bind, run_underlying hu w]
            cases d <;> first | rfl | (rename_i x; exact absurd rfl (hs x)) | (rename_i x y; exact absurd rfl (ha x y)) | simp_all
          · cases hrow
        exact ⟨v, by simp [Instr.field, run_underlying hus, hfs, asAgg, part, Sem.run_bind, hagg, hv], hr⟩
      · cases h
    · cases h
  · cases h
theorem pickK_ok {c x y : Operand} {k : S → Option X} (ho : o.op = .pick c x y) (h : pickK N σ o.dst (opd σ c) (opd σ x) (opd σ y) k = some r) : ∃ σ', k σ' = some r ∧ OpS P w0 N o σ σ' := by
  unfold pickK at h
  split at h
  · rename_i b hb
    cases b with
    | true =>
      refine OpS.val h fun lab ρ a w hR => ⟨a.eval x, ?_, hR.opd x⟩
      have hc := hR.opd c
      rw [hb] at hc
      have := hc.2.bool_inv
      simp [execOp, ho, this, asBool]
    | false =>
      refine OpS.val h fun lab ρ a w hR => ⟨a.eval y, ?_, hR.opd y⟩
      have hc := hR.opd c
      rw [hb] at hc
      have := hc.2.bool_inv
      simp [execOp, ho, this, asBool]
  · cases h
end
end Go.Proofs.Ytkgliadgedamiaa
