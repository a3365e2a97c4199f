/- Laws for a struct that lies in a block which is known whole: loads and stores of many cells in one step, the world behind a store a letter. Nothing here is a claim. -/
import Derived.Test.YtckjagaogcbedaaGreatState
import Derived.Deep.MidRow
namespace Go.Proofs.YtckjagaogcbedaaGreat
open Go.RowKit

section
variable {P : Program}
theorem range_of_blk {w : World} {b o : Nat} {t : TypeId} {cs sub : Array Value} (h : Blk w b t cs) (hs : (cs.toList.drop o).take sub.size = sub.toList) : w.rangeAt b o sub.toList := by
  intro j v hv
  rw [h.cell (o + j)]
  rw [<- hs, List.getElem?_take] at hv
  split at hv
  · rw [List.getElem?_drop] at hv
    simpa using hv
  · cases hv

/-- A load of a struct out of a block that is known whole, from offset o on. -/
theorem wpList_load_blk {ops : Array Oper} {rest : List Oper} {op : Oper} {a : Act} {w : World} {Q : Exit -> Act -> World -> Prop} (hgd : op.guard = none) (ty : TypeId) (x : Operand) (ho : op.op = .load ty x)
    (b o : Nat) (hx : a.eval x = .pointer (some ⟨b, o, none⟩)) (t : TypeId) (cs sub : Array Value) (hb : Blk w b t cs) (hs : (cs.toList.drop o).take sub.size = sub.toList) (d : TypeDesc)
    (hu : P.underlying ty = some d) (hd : d.isRow = true) (hi : (P.info? ty).map (·.size) = some sub.size)
    (h : wpList P ops Q rest (a.put op.dst (.agg sub)) w) : wpList P ops Q (op :: rest) a w := by
  refine wpList_load_mid hgd ty x ho b o hx sub.toList d (range_of_blk hb hs) hu hd (by rw [hi]; simp) ?_
  simpa using h

theorem heap_setCells (b : Nat) (t : TypeId) : ∀ (l : List Value) (o : Nat) (w : World) (cs : Array Value), Blk w b t cs -> o + l.length <= cs.size ->
    ∃ cs', Blk (w.setCells b o l) b t cs' /\ cs'.toList = cs.toList.take o ++ l ++ cs.toList.drop (o + l.length)
  | [], o, w, cs, h, _ => ⟨cs, h, by simp⟩
  | v :: r, o, w, cs, h, hl => by
    have hl' : o + 1 + r.length <= cs.size := by simp at hl; omega
    obtain ⟨cs', h1, h2⟩ := heap_setCells b t r (o + 1) (w.setCell ⟨b, o, none⟩ v) (cs.setIfInBounds o v) (h.set_ o v) (by simpa using hl')
    refine ⟨cs', h1, ?_⟩
    rw [h2]
    have ho : o < cs.toList.length := by simp; omega
    simp only [Array.toList_setIfInBounds]
    have e1 : (cs.toList.set o v).take (o + 1) = cs.toList.take o ++ [v] := by
      rw [List.take_succ_eq_append_getElem (by simpa using ho), List.getElem_set_self, List.take_set_of_le (Nat.le_refl o)]
    have e2 : (cs.toList.set o v).drop (o + 1 + r.length) = cs.toList.drop (o + 1 + r.length) := by
      rw [List.drop_set_of_lt (by omega)]
    rw [e1, e2]
    simp [Nat.add_assoc, Nat.add_comm 1]
theorem size_setCells (b : Nat) : ∀ (l : List Value) (o : Nat) (w : World), (w.setCells b o l).heap.size = w.heap.size
  | [], _, _ => rfl
  | v :: r, o, w => by
    show ((w.setCell ⟨b, o, none⟩ v).setCells b (o + 1) r).heap.size = _
    rw [size_setCells b r]
    simp [World.setCell]
theorem grownBy_setCells (b : Nat) : ∀ (l : List Value) (o : Nat) (w : World), w.grownBy (w.setCells b o l) (some b)
  | [], _, w => World.grownBy.refl w _
  | v :: r, o, w => grownBy_trans (grownBy_set (World.grownBy.refl w _) (p := ⟨b, o, none⟩) (.inr rfl) v) (grownBy_setCells b r (o + 1) _)

/-- A store of a struct into a block that is known whole, from offset o on: the world behind it is a letter. -/
theorem wpList_store_blk {ops : Array Oper} {rest : List Oper} {op : Oper} {a : Act} {w : World} {Q : Exit -> Act -> World -> Prop} (hgd : op.guard = none) (ty : TypeId) (x y : Operand) (ho : op.op = .store ty x y)
    (b o : Nat) (cells : Array Value) (hx : a.eval x = .pointer (some ⟨b, o, none⟩)) (hy : a.eval y = .agg cells) (t : TypeId) (cs cs' : Array Value) (hb : Blk w b t cs) (hf : o + cells.size <= cs.size)
    (hc : cs.toList.take o ++ cells.toList ++ cs.toList.drop (o + cells.size) = cs'.toList) (hi : (P.info? ty).map (·.size) = some cells.size) (h1 : cells.toList.all (·.oneCell') = true)
    (h : ∀ W', Blk W' b t cs' -> w.grownBy W' (some b) -> W'.heap.size = w.heap.size -> wpList P ops Q rest (a.put op.dst undef) W') : wpList P ops Q (op :: rest) a w := by
  have ht : w.there b o cells.size := fun j hj => ⟨by rw [hb.cell]; simp; omega, hb.frozen _⟩
  refine wpList_store_mid hgd ty x y ho b o cells hx hy ht hi (Array.all_eq_true_iff_forall_mem.2 fun v hv => List.all_eq_true.1 h1 v (by simpa using hv)) ?_
  obtain ⟨c2, h2, h3⟩ := heap_setCells b t cells.toList o w cs hb (by simpa using hf)
  have e : c2 = cs' := by
    apply Array.ext'
    rw [h3, <- hc]
    simp
  subst e
  exact h _ h2 (grownBy_setCells b _ _ _) (size_setCells b _ _ _)

theorem results_cell_tmp {fn : Func} {p q : Tmp} {ty : TypeId} (h : fn.results = #[.cell p ty, .tmp q]) (tmps : Array Value) (w : World) (g : Nat) (t : TypeId) (cs : Array Value) (d : TypeDesc)
    (hp : tmps.getD p undef = .pointer (some ⟨g, 0, none⟩)) (hg : Blk w g t cs) (hu : P.underlying ty = some d) (hd : d.isRow = true) (hi : (P.info? ty).map (·.size) = some cs.size) :
    (results fn tmps).run P w = .ok (.tuple #[.agg cs, tmps.getD q undef]) w := by
  have hp' : tmps[p]?.getD undef = .pointer (some ⟨g, 0, none⟩) := by simpa using hp
  have hl := run_loadVar_row (P := P) w g t ty cs (0, 0) d hg hu (by cases d <;> simp_all) hi
  simp [results, h, hp', asAddr, hl]
theorem results_cell1 {fn : Func} {p : Tmp} {ty : TypeId} (h : fn.results = #[.cell p ty]) (tmps : Array Value) (w : World) (g : Nat) (t : TypeId) (cs : Array Value) (d : TypeDesc)
    (hp : tmps.getD p undef = .pointer (some ⟨g, 0, none⟩)) (hg : Blk w g t cs) (hu : P.underlying ty = some d) (hd : d.isRow = true) (hi : (P.info? ty).map (·.size) = some cs.size) :
    (results fn tmps).run P w = .ok (.agg cs) w :=
  results_cell_row h tmps w g t cs (0, 0) d hp hg hu (by cases d <;> simp_all) hi
end

section
variable {w0 W W1 : World} {bs : List (Nat × TypeId × Array Value)} {rs : List (Option Addr × Nat × List Int)} {b : Nat} {t : TypeId} {cs cs' : Array Value}
/-- A state behind a store into its head block. -/
theorem StI.upd (h : StI w0 ((b, t, cs) :: bs) rs W) (hd : ∀ x ∈ bs, x.1 ≠ b) (ht : 3 ≠ t) (hB : Blk W1 b t cs') (hg : W.grownBy W1 (some b)) : StI w0 ((b, t, cs') :: bs) rs W1 := by
  have hb := h.st.blk _ _ _ (.head _)
  have ho := h.st.own _ _ _ (.head _)
  refine ⟨⟨?_, fun b' t' c' hm => ?_, fun b' t' c' hm => ?_⟩, fun A c l hm => ?_⟩
  · exact h.st.bel.grown hg h.st.bel.size (fun k hk => by injection hk; omega)
  · rcases List.mem_cons.1 hm with e | hm
    · injection e with e1 e2; injection e2 with e2 e3; subst e1 e2 e3; exact hB
    · exact (h.st.blk _ _ _ (.tail _ hm)).grown hg (by intro e; injection e with e; exact hd _ hm e)
  · rcases List.mem_cons.1 hm with e | hm
    · injection e with e1 e2; subst e1; exact ho
    · exact h.st.own _ _ _ (.tail _ hm)
  · have hr := h.row A c l hm
    have hne := own_blk_ne hr hb ht
    exact World.ownsRow.kept hr hg (.inr hne)
end
end Go.Proofs.YtckjagaogcbedaaGreat
