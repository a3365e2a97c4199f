/-
  Running the program over pure contents, and that it follows (part Z). Nothing here is a claim.
-/
import Derived.Test.YtkgliadgedamiaaV3
namespace Go.Proofs.Ytkgliadgedamiaa
open Go.RowKit
set_option linter.unusedVariables false

def big : Nat := 4611686018427387904
def bodyOf (c : Code) (id : Nat) : Code := match (occs c).lookup id with
  | some (.loop b) => b
  | _ => .skip
def codeOf (fn : Func) : Code := fn.body.getD .skip
def ctrs (l : List (Nat × CtrX)) : Ctrs := fun f => l.lookup f
def CtrL (P : Program) : List (Nat × CtrX) → Prop
  | [] => True
  | (f, c) :: l => (enters P f ∧ CtrXOK P f c) ∧ CtrL P l
theorem ctrs_ok {P : Program} : ∀ (l : List (Nat × CtrX)), CtrL P l → CtrsOK P (ctrs l)
  | [], _ => fun f c h => by cases h
  | (f', c') :: l, ⟨h1, h2⟩ => fun f c h => by
    have h' : List.lookup f ((f', c') :: l) = some c := h
    clear h
    rw [List.lookup_cons] at h'
    split at h'
    · rename_i he
      have he : f = f' := by simpa using he
      subst he
      injection h' with h'
      subst h'
      exact h1
    · exact ctrs_ok l h2 f c h'
def blks (l : List (Nat × Blk')) : Blks := fun id => l.lookup id
def BlkL (P : Program) (N : Nat) (code : Code) : List (Nat × Blk') → Prop
  | [] => True
  | (id, b) :: l => (∃ c, (occs code).lookup id = some c ∧ BlkOK P N (.block id c) b) ∧ BlkL P N code l
def ids (l : List (Nat × Code)) : Bool := (l.map (·.1)).all fun i => Nat.beq ((l.filter fun p => Nat.beq p.1 i).length) 1
theorem lookup_of_ids : ∀ (l : List (Nat × Code)) (p : Nat × Code), (∀ q ∈ l, q.1 = p.1 → q = p) → p ∈ l → l.lookup p.1 = some p.2
  | [], p, _, h => by cases h
  | q :: l, p, hu, h => by
    rw [List.lookup_cons]
    by_cases he : p.1 = q.1
    · have : q = p := hu q (.head _) he.symm
      subst this
      simp
    · have hb : (p.1 == q.1) = false := by simpa using he
      rw [hb]
      rcases List.mem_cons.1 h with rfl | h
      · exact absurd rfl he
      · exact lookup_of_ids l p (fun q hq => hu q (.tail _ hq)) h
theorem ids_ok {l : List (Nat × Code)} (h : ids l = true) {p q : Nat × Code} (hp : p ∈ l) (hq : q ∈ l) (he : q.1 = p.1) : q = p := by
  have h1 := List.all_eq_true.1 h p.1 (List.mem_map_of_mem hp)
  have h1 := Nat.eq_of_beq_eq_true h1
  have hp' : p ∈ l.filter fun r => Nat.beq r.1 p.1 := List.mem_filter.2 ⟨hp, by simp⟩
  have hq' : q ∈ l.filter fun r => Nat.beq r.1 p.1 := List.mem_filter.2 ⟨hq, by simp [he]⟩
  obtain ⟨z, hz⟩ := List.length_eq_one_iff.1 h1
  rw [hz] at hp' hq'
  rw [List.mem_singleton.1 hp', List.mem_singleton.1 hq']
theorem blks_ok {P : Program} {N : Nat} {code : Code} (hi : ids (occs code) = true) : ∀ (l : List (Nat × Blk')), BlkL P N code l → BlksOK P N (blks l) (occs code)
  | [], _ => fun p hp b h => by cases h
  | (id, b') :: l, ⟨⟨c, hc, h1⟩, h2⟩ => fun p hp b h => by
    have h' : List.lookup p.1 ((id, b') :: l) = some b := h
    clear h
    rw [List.lookup_cons] at h'
    split at h'
    · rename_i he
      have he : p.1 = id := by simpa using he
      injection h' with h'
      subst h'
      have := lookup_of_ids (occs code) p (fun q hq e => ids_ok hi hp hq e) hp
      rw [he, hc] at this
      injection this with this
      rw [he, ← this]
      exact h1
    · exact blks_ok hi l h2 p hp b h'
theorem blks_none {P : Program} {N : Nat} {l : List (Nat × Code)} : BlksOK P N (blks []) l := fun p hp b h => by cases h
end Go.Proofs.Ytkgliadgedamiaa
