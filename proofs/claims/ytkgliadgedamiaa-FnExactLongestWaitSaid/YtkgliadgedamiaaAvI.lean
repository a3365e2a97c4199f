/-
  Operations by contents, sixth part: variables, made slices, appends. Nothing here is a claim.
-/
import Derived.Test.YtkgliadgedamiaaAvH
namespace Go.Proofs.Ytkgliadgedamiaa
open Go.RowKit
set_option linter.unusedVariables false

def zeroLf : Value → Lf
  | .int k n => .v (.int k n)
  | .bool b => .v (.bool b)
  | .string s => .v (.str s)
  | .slice none 0 0 => .v .nil
  | _ => .dead
def zeroV : Value → Option V
  | .int k n => some (.int k n)
  | .bool b => some (.bool b)
  | .string s => some (.str s)
  | .slice none 0 0 => some .nil
  | _ => none
def zerosV : List Value → Option (List V)
  | [] => some []
  | v :: vs => match zeroV v, zerosV vs with
    | some x, some xs => some (x :: xs)
    | _, _ => none
def zeroOf (P : Program) (e : TypeId) : Option Value := (P.info? e).bind (·.zero)
def bytesOf (P : Program) (e : TypeId) : Option Nat := (P.info? e).map (·.bytes)
def newK {X : Type} (N : Nat) (σ : S) (d : Nat) (x : Root) (y : A) (k : S → Option X) : Option X :=
  bif Nat.blt d N then k (((σ.drop d).root d x).set d y) else none
def allocK {X : Type} (P : Program) (N : Nat) (σ : S) (d : Nat) (e : TypeId) (k : S → Option X) : Option X :=
  match zeroOf P e with
  | some z => newK N σ d (.blk (z.cells.toList.map zeroLf)) (.bptr d 0) k
  | none => none
/-- What a slice of some type of elements is made of: its code, its elements' zero, their size and bytes. -/
def elemInfo (P : Program) (t : TypeId) : Option (TypeId × TC) :=
  match elemT P t with
  | none => none
  | some e => match tcOf e, szOf P e, bytesOf P e with
    | some tc, some n, some b => bif Nat.beq n (csz tc) && Nat.ble b 65536 then some (e, tc) else none
    | _, _, _ => none
def zeroT (P : Program) (e : TypeId) (tc : TC) : Option (T tc) :=
  match zeroOf P e with
  | none => none
  | some z => match zerosV z.cells.toList with
    | none => none
    | some vs => dec tc (full tc) vs
def makeK {X : Type} (P : Program) (N : Nat) (σ : S) (d : Nat) (t : TypeId) (l c : A) (k : S → Option X) : Option X :=
  match elemInfo P t, l, c with
  | some (e, tc), .lf (.v (.int _ n)), .lf (.v (.int _ c)) => match zeroT P e tc with
    | none => none
    | some z => if 0 ≤ n ∧ n ≤ c ∧ c < 1073741824 then newK N σ d (.sl (.sl tc (full tc + 2) true (List.replicate n.toNat z))) (.lf (.own [d])) k else none
  | _, _, _ => none
def V.els (t : TC) : V → Option (List (T t))
  | .sl t' _ _ l => if h : t' = t then some (h ▸ l) else none
  | .nil => some []
  | _ => none
def appK {X : Type} (P : Program) (N : Nat) (σ : S) (d : Nat) (t : TypeId) (x y : A) (k : S → Option X) : Option X :=
  match elemInfo P t, y with
  | some (e, tc), .lf yl => bif Nat.beq (full tc) 0 && (zeroOf P e).any (fun z => Nat.beq z.cells.size (csz tc)) then lfK σ yl fun yv => (match yv.els tc with
    | none => none
    | some l2 => match x with
      | .lf (.v .nil) => bif okLen l2.length then newK N σ d (.sl (.sl tc 2 false l2)) (.lf (.own [d])) k else none
      | .lf (.own [r]) => (match σ.m r with
        | some (.sl (.sl t' (o + 2) q l)) => if h : t' = tc then (bif Nat.blt d N && okLen (l.length + l2.length) then k (((σ.drop r).root r (.sl (.sl tc (o + 2) q ((h ▸ l) ++ l2)))).set d (.lf (.own [r]))) else none) else none
        | _ => none)
      | _ => none) else none
  | _, _ => none

section
variable {P : Program} {w w' w0 : World} {B N : Nat} {lab lab' : Lab} {ρ ρ' : Nat → Loc} {σ : S} {a : Act} {X : Type} {d : Nat} {r : X}

theorem zeroLf_ok (v : Value) : RLf w B lab ρ (zeroLf v) v := by
  unfold zeroLf
  split
  · exact ⟨rfl, .int _ _ _⟩
  · exact ⟨rfl, .bool _ _⟩
  · exact ⟨rfl, .str _ _⟩
  · exact ⟨rfl, .nil _⟩
  · trivial
theorem zeroV_ok {v : Value} {x : V} (h : zeroV v = some x) (q : List Nat) : RV w B lab q x v := by
  unfold zeroV at h
  split at h <;> first | (injection h with h; subst h; first | exact .int _ _ _ | exact .bool _ _ | exact .str _ _ | exact .nil _) | cases h
theorem zerosV_ok : ∀ (vs : List Value) (xs : List V), zerosV vs = some xs → xs.length = vs.length ∧ ∀ (j : Nat) x, xs[j]? = some x → ∃ v, vs[j]? = some v ∧ zeroV v = some x
  | [], xs, h => by
    simp [zerosV] at h
    subst h
    simp
  | v :: vs, xs, h => by
    unfold zerosV at h
    split at h
    · rename_i y ys hy hys
      injection h with h
      subst h
      obtain ⟨h1, h2⟩ := zerosV_ok vs ys hys
      refine ⟨by simp [h1], fun j x hx => ?_⟩
      cases j with
      | zero => simp at hx; subst hx; exact ⟨v, rfl, hy⟩
      | succ j => simp at hx; simpa using h2 j x hx
    · cases h
theorem Below.allocd (w0 w : World) (o : Obj) (h : w0.heap.size ≤ w.heap.size) : Below w0.heap.size w (w.alloc o) := (Below.refl _ w).alloc h o
/-- A new block, and a root of it. -/
theorem Rl.newBlk {c : Array Value} {e : TypeId} {x : Root} {ρ' : Nat → Loc} (h : Rl w0 N lab ρ σ a w) (hρ : ∀ r, r ≠ d → ρ' r = ρ r)
    (hx : RootOK (w.alloc (.cells c e)) w0.heap.size (upd lab w.heap.size (some [d])) ρ' d x) : Rl w0 N (upd lab w.heap.size (some [d])) ρ' ((σ.drop d).root d x) a (w.alloc (.cells c e)) := by
  refine h.remake (Below.allocd w0 w _ h.below.size) ⟨by simp, fun b hb _ => Below.heap_alloc w _ b hb, fun b hb => upd_ne _ _ _ (by omega), fun b hb => (h.lab_ge b [] hb).2.2 rfl⟩ (fun b k hb hk => ?_) hρ hx
  by_cases e : b = w.heap.size
  · subst e
    rw [upd_same] at hk
    injection hk with hk
    subst hk
    exact ⟨by simp, by simp⟩
  · rw [upd_ne _ _ _ e] at hk
    have := (h.lab_ge b k hk).2.1
    omega
theorem newK_ok {x : Root} {y : A} {k : S → Option X} (h : newK N σ d x y k = some r) : d < N ∧ k (((σ.drop d).root d x).set d y) = some r := by
  unfold newK at h
  cases hN : Nat.blt d N with
  | false => rw [hN] at h; cases h
  | true => rw [hN] at h; exact ⟨by have := Nat.le_of_ble_eq_true hN; omega, h⟩
theorem allocK_ok {e : TypeId} {k : S → Option X} (h : allocK P N σ d e k = some r) : ∃ σ', k σ' = some r ∧ ∀ lab ρ a w, Rl w0 N lab ρ σ a w → ∃ w' lab' ρ' v, (Instr.alloc e true (.tuple #[])).run P w = .ok v w' ∧ Rl w0 N lab' ρ' σ' (a.put (some d) v) w' := by
  unfold allocK at h
  split at h
  · rename_i z hz
    obtain ⟨hd, h⟩ := newK_ok h
    refine ⟨_, h, fun lab ρ a w hR => ?_⟩
    have hrun : (Instr.alloc e true (.tuple #[])).run P w = .ok (.pointer (some ⟨w.heap.size, 0, none⟩)) (w.alloc (.cells z.cells e)) := by
      unfold zeroOf at hz
      cases hi : P.info? e with
      | none => simp [hi] at hz
      | some i =>
        have hz : i.zero = some z := by simpa [hi] using hz
        simp [Instr.alloc, zeroValue, typeInfo, hi, hz, newVar, newRow]
    refine ⟨_, upd lab w.heap.size (some [d]), upd ρ d (.blk w.heap.size 0), _, hrun, (hR.newBlk (fun r hr => upd_ne _ _ _ hr) ?_).set ⟨w.heap.size, 0, upd_same _ _ _, rfl⟩ hd⟩
    refine .blk w.heap.size 0 z.cells e _ (fun j => z.cells.getD j undef) (upd_same _ _ _) (upd_same _ _ _) (heap_alloc_new w _) (by simp) fun j x hx => ?_
    rw [List.getElem?_map] at hx
    cases hv : z.cells.toList[j]? with
    | none => rw [hv] at hx; cases hx
    | some v =>
      rw [hv] at hx
      injection hx with hx
      subst hx
      have hv' : z.cells[j]? = some v := by simpa using hv
      have hg : z.cells.getD j undef = v := by rw [Array.getD_eq_getD_getElem?, hv']; rfl
      rw [hg, Nat.zero_add]
      exact ⟨hv', zeroLf_ok v⟩
  · cases h
theorem elemInfo_ok {t e : TypeId} {tc : TC} (h : elemInfo P t = some (e, tc)) : P.underlying t = some (.slice e) ∧ tid tc = e ∧ ∃ i, P.info? e = some i ∧ i.size = csz tc ∧ i.bytes ≤ 65536 := by
  unfold elemInfo at h
  split at h
  · cases h
  · rename_i e' he
    split at h
    · rename_i tc' n b htc hn hb
      cases hc : (Nat.beq n (csz tc') && Nat.ble b 65536) with
      | false => rw [hc] at h; cases h
      | true =>
        rw [hc, cond_true] at h
        injection h with h
        injection h with h1 h2
        subst h1 h2
        rw [Bool.and_eq_true] at hc
        refine ⟨?_, tcOf_ok htc, ?_⟩
        · unfold elemT at he
          split at he
          · rename_i e'' hu; injection he with he; subst he; exact hu
          · cases he
        · unfold szOf at hn
          unfold bytesOf at hb
          cases hi : P.info? e' with
          | none => simp [hi] at hn
          | some i =>
            simp only [hi, Option.map_some, Option.some.injEq] at hn hb
            refine ⟨i, rfl, hn.trans (Nat.eq_of_beq_eq_true hc.1), by rw [hb]; exact Nat.le_of_ble_eq_true hc.2⟩
    · cases h
theorem get_madeCells (z : Array Value) (n i j : Nat) (hz : j < z.size) (h : i * z.size + j < n) : (madeCells z n)[i * z.size + j]? = some z[j] := by
  have hm : (i * z.size + j) % z.size = j := by rw [Nat.add_comm, Nat.add_mul_mod_self_right, Nat.mod_eq_of_lt hz]
  simp only [madeCells, Array.getElem?_map, Array.getElem?_range, h, if_true, Option.map_some, hm]
  simp [hz]
theorem makeK_ok {t : TypeId} {l c : A} {k : S → Option X} (h : makeK P N σ d t l c k = some r) : ∃ σ', k σ' = some r ∧ ∀ lab ρ a w, Rl w0 N lab ρ σ a w → ∀ u v, RA w w0.heap.size lab ρ l u → RA w w0.heap.size lab ρ c v →
    ∃ w' lab' ρ' x, (Instr.makeSlice t u v).run P w = .ok x w' ∧ Rl w0 N lab' ρ' σ' (a.put (some d) x) w' := by
  unfold makeK at h
  split at h
  · rename_i e tc kl n kc c hei
    split at h
    · cases h
    · rename_i z hz
      split at h
      · rename_i hb
        obtain ⟨hd, h⟩ := newK_ok h
        refine ⟨_, h, fun lab ρ a w hR u v hu hv => ?_⟩
        obtain rfl := hu.2.int_inv
        obtain rfl := hv.2.int_inv
        obtain ⟨hut, ht, i, hi, hsz, hby⟩ := elemInfo_ok hei
        unfold zeroT at hz
        split at hz
        · cases hz
        · rename_i zv hzv
          split at hz
          · cases hz
          · rename_i vs hvs
            have hzi : i.zero = some zv := by unfold zeroOf at hzv; simpa [hi] using hzv
            obtain ⟨hl1, hl2⟩ := zerosV_ok _ _ hvs
            have hk := dec_ok tc (full tc) vs z hz
            have hzs : zv.cells.size = csz tc := by rw [← enc_length tc (full tc) z, ← hk.1, hl1]; simp
            have hbytes : (i.bytes : Int) * c ≤ 281474976710656 := by
              have h1 : (i.bytes : Int) ≤ 65536 := by omega
              have h2 : (i.bytes : Int) * c ≤ 65536 * c := Int.mul_le_mul_of_nonneg_right h1 (by omega)
              omega
            have hrun := run_make (P := P) w t e i zv hut hi hzi kl kc n c hb.1 hb.2.1 hbytes (by omega)
            rw [hsz, ← hzs] at hrun
            refine ⟨_, upd lab w.heap.size (some [d]), upd ρ d (.hdr (.slice (some ⟨w.heap.size, 0, none⟩) n.toNat c.toNat)), _, hrun, (hR.newBlk (fun r hr => upd_ne _ _ _ hr) ?_).set ⟨rfl, ?_⟩ hd⟩
            · refine .sl _ _ (upd_same _ _ _) ?_
              have hlen : (List.replicate n.toNat z).length = n.toNat := by simp
              have := RV.own (w := w.alloc (.cells (madeCells zv.cells (c.toNat * zv.cells.size)) e)) (B := w0.heap.size) (lab := upd lab w.heap.size (some [d])) [d] tc (full tc) true (List.replicate n.toNat z) w.heap.size c.toNat (madeCells zv.cells (c.toNat * zv.cells.size)) (fun _ j => zv.cells.getD j undef)
                (upd_same _ _ _) (by rw [ht]; exact heap_alloc_new w _) (by rw [size_madeCells, hzs]) (by rw [hlen]; omega) (by unfold maxLen; omega) (fun i' h' j x hx => ?_) (fun i' h' j x hx => ?_)
              · rw [hlen] at this
                exact this
              · rw [List.getElem_replicate] at hx
                have hj : j < csz tc := by have := (List.getElem?_eq_some_iff.1 hx).1; rwa [enc_length] at this
                rw [hlen] at h'
                rw [← hzs] at hj
                rw [← hzs, get_madeCells zv.cells _ i' j hj (by
                  have : (i' + 1) * zv.cells.size ≤ c.toNat * zv.cells.size := Nat.mul_le_mul_right _ (by omega)
                  rw [Nat.succ_mul] at this
                  omega)]
                simp [Array.getD_eq_getD_getElem?, hj]
              · rw [List.getElem_replicate] at hx
                have hj : j < (enc tc (full tc) z).length := (List.getElem?_eq_some_iff.1 hx).1
                rw [← hk.1] at hj
                have hy := List.getElem?_eq_getElem hj
                generalize vs[j] = y at hy
                obtain ⟨v, hv, hzv2⟩ := hl2 j y hy
                have hv' : zv.cells[j]? = some v := by simpa using hv
                have hg : zv.cells.getD j undef = v := by rw [Array.getD_eq_getD_getElem?, hv']; rfl
                rw [hg]
                exact (zeroV_ok hzv2 _).wk (hk.2 j y x hy hx)
            · simp [valAt, upd_same]
      · cases h
  · cases h
end
end Go.Proofs.Ytkgliadgedamiaa
