/- What is known of a slice of bytes that can be read as data. -/
import Derived.Test.YtnmllpfchcfonaaOpen
import Derived.Test.YtnmllpfchcfonaaDraw
namespace Go.Proofs.Ytnmllpfchcfonaa
open Go.ChangeShapes Go.WideShapes Go.ChangeAt Go.RowKit
set_option maxRecDepth 100000

def RdBytes (w : World) (v : Value) : Prop := ∃ A n c, v = .slice A n c ∧ Bytes w w.heap.size A n

theorem bytes_of_row {w : World} {a : Addr} {len : Nat} {zs : List Int} (hl : len ≤ zs.length) (hcell : ∀ i, i < zs.length → w.cell? (a.add i) = some (.int .u8 (zs.getD i 0)))
    (hwz : ∀ n ∈ zs, (Lit.int .u8 n).wf = true) : Bytes w w.heap.size (some a) len := by
  refine ⟨(zs.take len).map (Value.int .u8), ⟨by simp; omega, fun hn => ?_⟩, fun u hu => ?_⟩
  · obtain ⟨b, off, rfl, hc⟩ := ints_at hcell (by omega)
    refine ⟨b, off, rfl, World.block_lt_of_cell? w _ (hc 0 (by omega)), fun j u hj => ?_⟩
    have hjl : j < len := by
      rcases Nat.lt_or_ge j len with h | h
      · exact h
      · rw [List.getElem?_eq_none (by simp; omega)] at hj
        cases hj
    rw [hc j (by omega)]
    have e : (zs.take len)[j]? = some (zs.getD j 0) := by
      rw [List.getElem?_take, if_pos hjl]
      simp [show j < zs.length by omega]
    rw [List.getElem?_map, e] at hj
    exact hj
  · obtain ⟨z, hz, rfl⟩ := List.mem_map.1 hu
    have := bounds_u8 (hwz z (List.mem_of_mem_take hz))
    exact ⟨z, rfl, by omega, by omega⟩

section
variable {H : Type} {enc : TypeId × Value → H} {W : World} {base : Nat} {v : Value} {d : DataW H} {p : List MemPlace}
theorem open_rdBytes (hv : Value.okWide Try.prog W .any base 22 v) (h : DataW.Trod enc Try.prog W 0 (fun _ => true) true 22 v d p) : RdBytes W v := by
  obtain ⟨a0, len0, cap0, rfl⟩ := okWide_slice Try.underlying22 hv
  refine ⟨a0, len0, cap0, rfl, ?_⟩
  obtain ⟨fuel, hf⟩ := h
  rcases open_ints Try.underlying22 Try.underlying5 (by kernel_rfl) hf with ⟨hcs, _⟩ | ⟨x, l, c, zs, hcs, _, hl, hm, hz, _, hcell, hwz⟩
  · simp [Value.cells] at hcs
    obtain ⟨rfl, rfl, rfl⟩ := hcs
    exact ⟨[], Reads.none_, fun u hu => by cases hu⟩
  · simp [Value.cells] at hcs
    obtain ⟨rfl, rfl, rfl⟩ := hcs
    exact bytes_of_row (by have : zs.length = cap0 := by simpa using hz
                           omega) hcell hwz
end
end Go.Proofs.Ytnmllpfchcfonaa
