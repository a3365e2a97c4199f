/-
  Regions whose order is open: they follow. Nothing here is a claim.
-/
import Derived.Test.YtkgliadgedamiaaAvPE
namespace Go.Proofs.Ytkgliadgedamiaa
open Go.RowKit
set_option linter.unusedVariables false

section
variable {P : Program} {w w' w0 : World} {B N : Nat} {lab lab' : Lab} {ρ ρ' : Nat → Loc} {σ : S} {a : Act} {X : Type} {d : Nat} {r : X} {o : Oper} {Φ : Ctrs} {p : Nat → Bool} {ops : Array Oper}

theorem waitsOn_spec {i W j : Nat} {oj : Oper} (hoj : ops[j]? = some oj) (h : waitsOn ops i W j = true) : ∃ e ∈ oj.after, Region.binds .any e = true ∧ (e.on = i ∨ W.testBit e.on = true) := by
  unfold waitsOn at h
  rw [hoj] at h
  obtain ⟨e, he, hb⟩ := List.any_eq_true.1 h
  rw [Bool.and_eq_true, Bool.or_eq_true] at hb
  refine ⟨e, by simpa using he, hb.1, hb.2.imp (fun h => Nat.eq_of_beq_eq_true h) id⟩
theorem freeB_spec {oi : Oper} {i L W : Nat} : ∀ (n j : Nat), freeB ops oi i L W n j = true → ∀ k, j ≤ k → k < j + n → k = i ∨ L.testBit k = true ∨ (W.testBit k = true ∧ waitsOn ops i W k = true) ∨ (W.testBit k = false ∧ ∀ ok, ops[k]? = some ok → tame ok.op = true ∧ oi.apart ops ok = true)
  | 0, j, _, k, h1, h2 => by omega
  | n + 1, j, h, k, h1, h2 => by
    unfold freeB at h
    rw [Bool.and_eq_true, Bool.or_eq_true, Bool.or_eq_true] at h
    by_cases hk : k = j
    · subst hk
      rcases h.1 with (h | h) | h
      · exact .inl (Nat.eq_of_beq_eq_true h)
      · exact .inr (.inl h)
      · cases hw : W.testBit k with
        | true => rw [hw, cond_true] at h; exact .inr (.inr (.inl ⟨rfl, h⟩))
        | false =>
          rw [hw, cond_false] at h
          refine .inr (.inr (.inr ⟨rfl, fun ok hok => ?_⟩))
          rw [hok, Bool.and_eq_true] at h
          exact h
    · exact freeB_spec n (j + 1) h.2 k (by omega) (by omega)
theorem badNm_spec {i L W m : Nat} : ∀ (n j : Nat) (k : Nat), j ≤ k → k < j + n → k ≠ i → L.testBit k = false → W.testBit k = false → ∀ ok, ops[k]? = some ok → nmOf ok m = true → badNm ops i L W m n j = true
  | 0, j, k, h1, h2, _, _, _, _, _, _ => by omega
  | n + 1, j, k, h1, h2, hi, hL, hW, ok, hok, hm => by
    unfold badNm
    rw [Bool.or_eq_true]
    by_cases hk : k = j
    · subst hk
      refine .inl ?_
      have hb : Nat.beq k i = false := by
        cases hb : Nat.beq k i with
        | false => rfl
        | true => exact absurd (Nat.eq_of_beq_eq_true hb) hi
      rw [hok, hb, hL, hW]
      simpa using hm
    · exact .inr (badNm_spec n (j + 1) k (by omega) (by omega) hi hL hW ok hok hm)
theorem takeK_ok {L i : Nat} {k : S → Option X} (hv : isV o.op = true) (h : takeK P N ops L i σ o k = some r) : ∃ v, k (putS σ o.dst v) = some r ∧ Fst P ops o (fun n => badNm ops i L (waits ops i ops.size 0 0) n ops.size 0) v σ ∧ ∀ σ : S, putK N σ o.dst v some = some (putS σ o.dst v) := by
  unfold takeK at h
  split at h
  · rename_i hw
    obtain ⟨v, h1, hd, _⟩ := valK_ok (w0 := default) (N := N) h
    cases hc : (v.nr (fun n => badNm ops i L (waits ops i ops.size 0 0) n ops.size 0) && o.op.operands.toList.all (fun x => (opd σ x).nr (fun n => badNm ops i L (waits ops i ops.size 0 0) n ops.size 0))) with
    | false => rw [hc] at h1; cases h1
    | true =>
      rw [hc, cond_true] at h1
      obtain ⟨h2, h3⟩ := putK_eq h1
      rw [Bool.and_eq_true] at hc
      exact ⟨v, h2, .inl ⟨hw, hv, hd, fun y hy => List.all_eq_true.1 hc.2 y (by simpa using hy), hc.1⟩, fun σ => (h3 σ).at_ _⟩
  · rename_i hw
    obtain ⟨h2, h3⟩ := putK_eq h
    exact ⟨.skip, h2, .inr ⟨hw, rfl⟩, fun σ => (h3 σ).at_ _⟩
  · cases h
theorem splitK_eq {dst : Option Tmp} {g : Bool} {k : S → Option X} (h : splitK σ dst g k = some r) : k σ = some r := by
  unfold splitK at h
  cases g with
  | false => exact h
  | true =>
    rw [cond_true] at h
    split at h
    · rename_i d
      split at h
      · rename_i b hb
        have : ∀ c, b = c → σ.set d (.lf (.v (.bool c))) = σ := by
          rintro c rfl
          refine S.ext' (fun k => ?_) fun _ => rfl
          show upd _ _ _ _ = _
          by_cases hk : k = d
          · subst hk; rw [upd_same, hb]
          · rw [upd_ne _ _ _ hk]
        cases b with
        | true => rw [cond_true, this true rfl] at h; exact h
        | false => rw [cond_false, this false rfl] at h; exact h
      · exact h
    · exact h
theorem rdB_lt {L j : Nat} (h : rdB ops L j = true) : j < ops.size := by
  obtain ⟨_, o, ho, _⟩ := rdB_iff.1 h
  exact (Array.getElem?_eq_some_iff.1 ho).1
theorem mem_rds {L j : Nat} : j ∈ (List.range ops.size).filter (rdB ops L) ↔ rdB ops L j = true := by
  rw [List.mem_filter, List.mem_range]
  exact ⟨fun h => h.2, fun h => ⟨rdB_lt h, h⟩⟩
theorem drawK_any (hΦ : CtrsOK P Φ) : ∀ (f L : Nat) (σ : S) (k : S → Option X), drawK P N Φ ops f L σ k = some r → Any P N Φ ops (fun τ => k τ = some r) f L σ
  | 0, L, σ, k, h => by
    unfold drawK at h
    split at h
    · rename_i hr
      refine ⟨fun j => ?_, h⟩
      cases hj : rdB ops L j with
      | false => rfl
      | true => have := mem_rds.2 hj; rw [hr] at this; cases this
    · cases h
  | f + 1, L, σ, k, h => by
    unfold drawK at h
    split at h
    · rename_i hr
      refine ⟨fun _ => h, fun j hj => ?_⟩
      have := mem_rds.2 hj; rw [hr] at this; cases this
    · rename_i i hr
      have hi : rdB ops L i = true := mem_rds.1 (by rw [hr]; exact .head _)
      refine ⟨fun h => absurd (h i) (by rw [hi]; simp), fun j hj => ?_⟩
      have hj := mem_rds.2 hj
      rw [hr] at hj
      obtain rfl := List.mem_singleton.1 hj
      split at h
      · rename_i o ho
        obtain ⟨τ, h1, h2⟩ := doK_det hΦ h
        exact ⟨o, τ, ho, h2, drawK_any hΦ f _ τ k (splitK_eq h1)⟩
      · cases h
    · rename_i rs hn hs
      split at h
      · rename_i i hf
        have hc := List.find?_some hf
        have hm := List.mem_of_find?_eq_some hf
        have hi := mem_rds.1 hm
        split at h
        · rename_i o ho
          unfold canTake at hc
          rw [ho, Bool.and_eq_true, Bool.and_eq_true] at hc
          obtain ⟨⟨c1, c2⟩, c3⟩ := hc
          obtain ⟨v, h1, hF, hN⟩ := takeK_ok c1 h
          have hfr := freeB_spec _ _ c3
          have c2 := Nat.eq_of_beq_eq_true c2
          have hWL' : ∀ j, (waits ops i ops.size 0 0).testBit j = true → (L ||| 2 ^ i).testBit j = false := by
            intro j hj
            have : ((L ||| 2 ^ i) &&& waits ops i ops.size 0 0).testBit j = false := by rw [c2]; exact Nat.zero_testBit j
            rw [Nat.testBit_and, hj, Bool.and_true] at this
            exact this
          have hWL : ∀ j, (waits ops i ops.size 0 0).testBit j = true → L.testBit j = false := by
            intro j hj
            have := hWL' j hj
            rw [bit_or, Bool.or_eq_false_iff] at this
            exact this.1
          refine Any_first hΦ ho hN (W := waits ops i ops.size 0 0) (fun j oj hoj hj => ?_) f L σ (fun j oj hoj hji hjL hjW => ?_) hWL hi hF (drawK_any hΦ f _ _ k (splitK_eq h1))
          · have hlt := (Array.getElem?_eq_some_iff.1 hoj).1
            rcases hfr j (by omega) (by omega) with e | e | e | e
            · subst e
              have := hWL' j hj
              rw [bit_or] at this
              simp at this
            · rw [hWL j hj] at e; cases e
            · exact waitsOn_spec hoj e.2
            · rw [hj] at e; cases e.1
          · have hlt := (Array.getElem?_eq_some_iff.1 hoj).1
            rcases hfr j (by omega) (by omega) with e | e | e | e
            · exact absurd e hji
            · rw [hjL] at e; cases e
            · rw [hjW] at e; cases e.1
            · exact ⟨(e.2 oj hoj).2, (e.2 oj hoj).1, fun n hn => badNm_spec _ _ j (by omega) (by omega) hji hjL hjW oj hoj hn⟩
        · cases h
      · cases h
theorem wantK_ok {b : Bool} (h : wantK σ ops o = some b) (hR : Rl w0 N lab ρ σ a w) : Region.wanted o (yielded ops a.tmps) = b := by
  unfold wantK at h
  split at h
  · rename_i hg
    injection h with h
    subst h
    simp [Region.wanted, hg]
  · rename_i j want hg
    split at h
    · rename_i t ht
      have htm := hR.tmp t
      rw [Array.getD_eq_getD_getElem?] at htm
      split at h
      · rename_i c hc
        rw [hc] at htm
        have hv := htm.2.bool_inv
        injection h with h
        subst h
        cases hx : a.tmps[t]? with
        | none => rw [hx] at hv; cases hv
        | some v =>
          rw [hx] at hv
          have hv : v = .bool c := hv
          subst hv
          simp only [Region.wanted, hg, yielded, ht, Option.bind_some, hx]
          cases c <;> cases want <;> rfl
      · rename_i hc
        rw [hc] at htm
        injection h with h
        subst h
        cases hx : a.tmps[t]? with
        | none => simp [Region.wanted, hg, yielded, ht, hx]
        | some v =>
          rw [hx] at htm
          have hv : v = undef := htm
          subst hv
          simp only [Region.wanted, hg, yielded, ht, Option.bind_some, hx, undef]
          cases want <;> rfl
      · cases h
    · cases h
/-- The kit's bits are the same. -/
structure Same' (ops : Array Oper) (listed : Array Bool) (L : Nat) : Prop where
  size : listed.size = ops.size
  bit : ∀ j, j < ops.size → listed[j]? = some (L.testBit j)
  out : ∀ j, ops.size ≤ j → L.testBit j = false
theorem Same'.getF {listed : Array Bool} {L : Nat} (h : Same' ops listed L) (j : Nat) : listed.getD j false = L.testBit j := by
  rw [Array.getD_eq_getD_getElem?]
  by_cases hj : j < ops.size
  · rw [h.bit j hj]; rfl
  · rw [h.out j (by omega), Array.getElem?_eq_none (by rw [h.size]; omega)]; rfl
theorem Same'.ready {listed : Array Bool} {L : Nat} (h : Same' ops listed L) (j : Nat) : j ∈ Region.ready .any ops listed ↔ rdB ops L j = true := by
  rw [mem_ready, rdB_iff]
  constructor
  · rintro ⟨h0, o, ho, hall⟩
    have hj := (Array.getElem?_eq_some_iff.1 ho).1
    rw [Array.getD_eq_getD_getElem?, h.bit j hj] at h0
    exact ⟨h0, o, ho, fun e he hb => by rw [← h.getF]; exact hall e he hb⟩
  · rintro ⟨h0, o, ho, hall⟩
    have hj := (Array.getElem?_eq_some_iff.1 ho).1
    exact ⟨by rw [Array.getD_eq_getD_getElem?, h.bit j hj]; exact h0, o, ho, fun e he hb => by rw [h.getF]; exact hall e he hb⟩
theorem Same'.set {listed : Array Bool} {L i : Nat} (h : Same' ops listed L) (hi : i < ops.size) : Same' ops (listed.setIfInBounds i true) (L ||| 2 ^ i) := by
  refine ⟨by simp [h.size], fun j hj => ?_, fun j hj => ?_⟩
  · rw [bit_or]
    by_cases hij : i = j
    · subst hij
      rw [Array.getElem?_setIfInBounds_self_of_lt (by rw [h.size]; exact hi)]
      simp
    · rw [Array.getElem?_setIfInBounds_ne hij, h.bit j hj]
      simp [hij]
  · rw [bit_or, h.out j hj]
    have : i ≠ j := by omega
    simpa using this
theorem Same'.start : Same' ops (Array.replicate ops.size false) 0 :=
  ⟨by simp, fun j hj => by simp [hj], fun j _ => Nat.zero_testBit j⟩
theorem doK_ok (hΦ : CtrsOK P Φ) {k : S → Option X} {i : Nat} (hi : ops[i]? = some o) (h : doK P N Φ ops σ o k = some r) : ∃ τ, k τ = some r ∧ ∀ a w (K : Act → World → Prop) (Q : Exit → Act → World → Prop), R w0 N σ a w → (∀ a' w', R w0 N τ a' w' → K a' w') → wpOp P ops Q i K a w := by
  unfold doK at h
  split at h
  · rename_i hw
    obtain ⟨τ, h1, hop⟩ := opK_ok (w0 := w0) hΦ h
    refine ⟨τ, h1, fun a w K Q hR hK => ?_⟩
    obtain ⟨lab, ρ, hR'⟩ := hR
    unfold wpOp
    rw [hi]
    simp only [wantK_ok hw hR', if_true]
    exact .inl (hop a w K Q ⟨lab, ρ, hR'⟩ hK)
  · rename_i hw
    unfold putK at h
    split at h
    · rename_i hd
      refine ⟨σ, h, fun a w K Q hR hK => ?_⟩
      obtain ⟨lab, ρ, hR'⟩ := hR
      unfold wpOp
      rw [hi]
      simp only [wantK_ok hw hR', hd]
      exact hK _ _ ⟨lab, ρ, hR'⟩
    · rename_i d hd
      cases hN : Nat.blt d N with
      | false => rw [hN] at h; cases h
      | true =>
        rw [hN, cond_true] at h
        refine ⟨_, h, fun a w K Q hR hK => ?_⟩
        obtain ⟨lab, ρ, hR'⟩ := hR
        unfold wpOp
        rw [hi]
        simp only [wantK_ok hw hR', hd]
        exact hK _ _ ⟨lab, ρ, hR'.set rfl (by have := Nat.le_of_ble_eq_true hN; omega)⟩
  · cases h
theorem Any_ok (hΦ : CtrsOK P Φ) {K : S → Prop} {Q : Exit → Act → World → Prop} (hQ : ∀ τ, K τ → ∀ a w, R w0 N τ a w → Q .normal a w) :
    ∀ (f L : Nat) (σ : S) (listed : Array Bool), Any P N Φ ops K f L σ → Same' ops listed L → ∀ a w, R w0 N σ a w → wpAny P .any ops Q f listed a w
  | 0, L, σ, listed, h, hs, a, w, hR => by
    refine ⟨List.eq_nil_iff_forall_not_mem.2 fun j hj => ?_, hQ σ h.2 a w hR⟩
    rw [hs.ready, h.1 j] at hj
    cases hj
  | f + 1, L, σ, listed, h, hs, a, w, hR => by
    refine ⟨fun hr => hQ σ (h.1 fun j => ?_) a w hR, fun j hj => ?_⟩
    · cases hj : rdB ops L j with
      | false => rfl
      | true =>
        have := (hs.ready j).2 hj
        rw [hr] at this
        cases this
    · have hj' := (hs.ready j).1 hj
      obtain ⟨o, τ, ho, hd, hA⟩ := h.2 j hj'
      obtain ⟨τ', h1, hw⟩ := doK_ok (w0 := w0) hΦ ho hd
      injection h1 with h1
      subst h1
      exact hw a w _ Q hR fun a' w' hR' => Any_ok hΦ hQ f (L ||| 2 ^ j) _ _ hA (hs.set (rdB_lt hj')) a' w' hR'
theorem R.drawn (hR : R w0 N σ a w) : R w0 N σ a { w with drawn := w.drawn + 1 } := by
  obtain ⟨lab, ρ, h⟩ := hR
  exact ⟨lab, ρ, h.grow ⟨rfl, rfl, rfl, Nat.le_refl _, fun _ _ => rfl⟩ (fun _ _ => rfl) (fun b k hb hl => absurd (h.lab_ge b k hl).2.1 (Nat.not_lt.2 hb))⟩
theorem region_ok (hΦ : CtrsOK P Φ) {id : Nat} {k : S → Option X} (hm : P.follows .mixedOrders = true) (h : drawK P N Φ ops ops.size 0 σ k = some r) {Q : Exit → Act → World → Prop} (hQ : ∀ τ, k τ = some r → ∀ a w, R w0 N τ a w → Q .normal a w) (hR : R w0 N σ a w) :
    (Code.region id ops true).wp P Q a w :=
  wp_region_any hm (Any_ok hΦ hQ _ _ _ _ (drawK_any hΦ _ _ _ _ h) Same'.start a _ hR.drawn)
end
end Go.Proofs.Ytkgliadgedamiaa
