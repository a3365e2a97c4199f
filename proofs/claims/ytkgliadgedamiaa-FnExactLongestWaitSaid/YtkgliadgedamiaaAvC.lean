/-
  Stores, by contents: into a block of the call's own, into an element of a slice of its own. Nothing here is a claim.
-/
import Derived.Test.YtkgliadgedamiaaAvB
namespace Go.Proofs.Ytkgliadgedamiaa
open Go.RowKit
set_option linter.unusedVariables false

def splice {α : Type} (l : List α) (j : Nat) (xs : List α) : List α := l.take j ++ xs ++ l.drop (j + xs.length)
theorem splice_length {α : Type} (l : List α) (j : Nat) (xs : List α) (h : j + xs.length ≤ l.length) : (splice l j xs).length = l.length := by
  simp [splice]; omega
theorem splice_get {α : Type} (l : List α) (j : Nat) (xs : List α) (h : j + xs.length ≤ l.length) (n : Nat) :
    (splice l j xs)[n]? = if n < j then l[n]? else if n < j + xs.length then xs[n - j]? else l[n]? := by
  unfold splice
  have ht : (l.take j).length = j := by simp; omega
  split
  · rename_i hn
    rw [List.append_assoc, List.getElem?_append_left (by rw [ht]; exact hn), List.getElem?_take, if_pos hn]
  · split
    · rename_i h1 h2
      rw [List.append_assoc, List.getElem?_append_right (by rw [ht]; omega), ht, List.getElem?_append_left (by omega)]
    · rename_i h1 h2
      rw [List.getElem?_append_right (by simp; omega), List.getElem?_drop]
      congr 1
      simp
      omega

structure Wrote (w w' : World) (bt : Nat) : Prop where
  size : w'.heap.size = w.heap.size
  os : w'.os = w.os
  tape : w'.tape = w.tape
  output : w'.output = w.output
  block : ∀ k, k ≠ bt → w'.heap[k]? = w.heap[k]?
theorem wrote_setCells (w : World) (b o : Nat) (l : List Value) : Wrote w (w.setCells b o l) b := by
  have g := grownBy_setCells b l o w
  have s := size_setCells b l o w
  refine ⟨s, g.os, g.tape, g.output, fun k hk => ?_⟩
  rcases Nat.lt_or_ge k w.heap.size with hlt | hge
  · exact g.block k hlt (by intro e; injection e with e; exact hk e)
  · rw [Array.getElem?_eq_none hge, Array.getElem?_eq_none (by rw [s]; exact hge)]

section
variable {w w' w0 : World} {B N : Nat} {lab : Lab} {ρ : Nat → Loc} {m m' : Nat → Option Root} {σ : S} {a : Act} {bt : Nat} {kt : List Nat}

/-- No header that a key leads to is turned. -/
def Still (w w' : World) (lab : Lab) (ρ : Nat → Loc) : Prop := ∀ k ad v, addrAt w lab ρ k = some ad → w.cell? ad = some v → isSl v = true → w'.cell? ad = some v
theorem addrAt_still (hC : Still w w' lab ρ) : ∀ (k : List Nat) (ad : Addr), addrAt w lab ρ k = some ad → addrAt w' lab ρ k = some ad
  | [], _, h => h
  | [_], _, h => h
  | [_, _], _, h => h
  | [_, _, _], _, h => by simp only [addrAt] at h ⊢; exact h
  | [j, i, s, r], _, h => by simp only [addrAt] at h ⊢; exact h
  | j :: i :: s :: x :: y :: q, ad, h => by
    simp only [addrAt] at h ⊢
    cases ha : addrAt w lab ρ (x :: y :: q) with
    | none => rw [ha] at h; cases h
    | some ad' =>
      rw [addrAt_still hC _ _ ha]
      rw [ha] at h
      cases hc : w.cell? ad' with
      | none => simp [hc] at h
      | some v =>
        simp only [Option.bind_some, hc] at h
        have hv : isSl v = true := by
          split at h
          · rename_i e; injection e with e; subst e; rfl
          · cases h
        simp only [Option.bind_some, hC _ _ _ ha hc hv]
        exact h
theorem valAt_still (hC : Still w w' lab ρ) (k : List Nat) (u : Value) (hu : isSl u = true) (h : valAt w lab ρ k = some u) : valAt w' lab ρ k = some u := by
  match k, h with
  | [], h => simp [valAt, addrAt] at h
  | [r], h => exact h
  | x :: y :: q, h =>
    simp only [valAt] at h ⊢
    cases ha : addrAt w lab ρ (x :: y :: q) with
    | none => rw [ha] at h; cases h
    | some ad =>
      rw [addrAt_still hC _ _ ha]
      rw [ha] at h
      have h : w.cell? ad = some u := h
      exact hC _ _ _ ha h hu

theorem RLf.wrote {x : Lf} {u : Value} (h : RLf w B lab ρ x u) (hw : Wrote w w' bt) (hl : lab bt = some kt) (hC : Still w w' lab ρ) : RLf w' B lab ρ x u := by
  cases x with
  | v x => exact ⟨h.1, h.2.apart hl (.inr h.1) (Nat.le_of_eq hw.size.symm) hw.block⟩
  | own k => exact ⟨h.1, valAt_still hC k u h.1 h.2⟩
  | dead => trivial
theorem RLs.wrote {cs : List Lf} {us : Array Value} (h : RLs w B lab ρ cs us) (hw : Wrote w w' bt) (hl : lab bt = some kt) (hC : Still w w' lab ρ) : RLs w' B lab ρ cs us :=
  ⟨h.1, fun j x hx => let ⟨u, hu, r⟩ := h.2 j x hx; ⟨u, hu, r.wrote hw hl hC⟩⟩
theorem RP.wrote {p : Bool × List Lf} {u : Value} (h : RP w B lab ρ p u) (hw : Wrote w w' bt) (hl : lab bt = some kt) (hC : Still w w' lab ρ) : RP w' B lab ρ p u := by
  obtain ⟨b, cs⟩ := p
  cases b with
  | true => obtain ⟨us, e, h⟩ := h; exact ⟨us, e, h.wrote hw hl hC⟩
  | false => exact RLs.wrote h hw hl hC
theorem RA.wrote {x : A} {u : Value} (h : RA w B lab ρ x u) (hw : Wrote w w' bt) (hl : lab bt = some kt) (hC : Still w w' lab ρ) : RA w' B lab ρ x u := by
  cases x with
  | undef => trivial
  | skip => exact h
  | lf x => exact RLf.wrote h hw hl hC
  | agg cs => exact RP.wrote (p := (true, cs)) h hw hl hC
  | tup xs => obtain ⟨us, e, hs, h⟩ := h; exact ⟨us, e, hs, fun j p hp => let ⟨v, hv, r⟩ := h j p hp; ⟨v, hv, r.wrote hw hl hC⟩⟩
  | ptr k => obtain ⟨ad, e, h⟩ := h; exact ⟨ad, e, addrAt_still hC _ _ h⟩
  | bptr r j => exact h
  | fptr cs =>
    obtain ⟨b, off, e, hb, hl', h⟩ := h
    have hne : b ≠ bt := by rintro rfl; rw [hl] at hl'; cases hl'
    refine ⟨b, off, e, by rw [hw.size]; exact hb, hl', fun j x hx => ?_⟩
    obtain ⟨hf, v, hv, hr⟩ := h j x hx
    exact ⟨hf, v, (World.cell?_of_block (a := ⟨b, _, none⟩) (hw.block b hne)).trans hv, hr.apart hl (.inr hf) (Nat.le_of_eq hw.size.symm) hw.block⟩
  | fn f cap => exact h
theorem RootOK.wrote {r : Nat} {x : Root} (h : RootOK w B lab ρ r x) (hw : Wrote w w' bt) (hl : lab bt = some kt) (hC : Still w w' lab ρ) (hr : ¬ [r] <:+ kt) : RootOK w' B lab ρ r x := by
  cases h with
  | blk b off cells e cs us hρ hl' hh hs hc =>
    have hne : b ≠ bt := by rintro rfl; rw [hl] at hl'; injection hl' with hl'; subst hl'; exact hr (List.suffix_refl _)
    exact .blk b off cells e cs us hρ hl' ((hw.block b hne).trans hh) hs (fun j x hx => ⟨(hc j x hx).1, (hc j x hx).2.wrote hw hl hC⟩)
  | sl v y hρ hr' => exact .sl v y hρ (hr'.apart hl (.inl hr) (Nat.le_of_eq hw.size.symm) hw.block)
theorem Rl.wrote (h : Rl w0 N lab ρ σ a w) (hw : Wrote w w' bt) (hl : lab bt = some kt) (hC : Still w w' lab ρ) (hm : ∀ r x, m' r = some x → RootOK w' w0.heap.size lab ρ r x) : Rl w0 N lab ρ ⟨σ.t, m'⟩ a w' := by
  have hb := (h.lab_ge bt kt hl).1
  refine ⟨⟨hw.os.trans h.below.os, hw.tape.trans h.below.tape, hw.output.trans h.below.output, by rw [hw.size]; exact h.below.size, fun k hk => (hw.block k (by omega)).trans (h.below.block k hk)⟩, fun b k hbk => ?_, hm, fun k => (h.tmp k).wrote hw hl hC, h.size, h.defers⟩
  rw [hw.size]
  exact h.lab_ge b k hbk

theorem not_suffix_one {r r' : Nat} (h : r' ≠ r) : ¬ [r'] <:+ [r] := by
  intro hs
  have := hs.eq_of_length rfl
  injection this with this
  exact h this

/-- A store into a block of the call's own. -/
theorem Rl.storeB {r j : Nat} {cs xs : List Lf} {us : Array Value} (h : Rl w0 N lab ρ σ a w) (hm : σ.m r = some (.blk cs)) (hx : RLs w w0.heap.size lab ρ xs us) (hj : j + xs.length ≤ cs.length) :
    ∃ b off, ρ r = .blk b off ∧ w.there b (off + j) us.size ∧ Rl w0 N lab ρ ⟨σ.t, upd σ.m r (some (.blk (splice cs j xs)))⟩ a (w.setCells b (off + j) us.toList) := by
  have hr := h.root r _ hm
  generalize he : Root.blk cs = x at hr
  cases hr with
  | sl => cases he
  | blk b off cells e cs' u hρ hl hh hs hc =>
    injection he with he
    subst he
    have hlen : us.size = xs.length := hx.1
    have hfit : off + j + us.toList.length ≤ cells.size := by rw [Array.length_toList, hlen]; omega
    have hW := wrote_setCells w b (off + j) us.toList
    obtain ⟨c2, hb2, hc2⟩ := heap_setCells b e us.toList (off + j) w cells hh hfit
    have hC : Still w (w.setCells b (off + j) us.toList) lab ρ := by
      intro k ad v ha hv hsl
      obtain ⟨j', i', s', q, rfl, hq, _, _, hh'⟩ := addrAt_lab k ad ha
      have hne : ad.block ≠ b := by
        intro e
        rw [e, hl] at hq
        injection hq with hq
        obtain ⟨v', hv'⟩ := hh' r hq.symm
        rw [hρ] at hv'
        cases hv'
      exact (World.cell?_of_block (hW.block _ hne)).trans hv
    refine ⟨b, off, hρ, fun n hn => ⟨?_, frozen_of_row w b _ cells e hh⟩, h.wrote hW hl hC fun r' y hy => ?_⟩
    · rw [cell_of_row w b _ cells e _ hh]
      simp
      omega
    · by_cases hrr : r' = r
      · subst hrr
        rw [upd_same] at hy
        injection hy with hy
        subst hy
        refine .blk b off c2 e _ (fun n => if n < j then u n else if n < j + xs.length then us.getD (n - j) undef else u n) hρ hl hb2 ?_ fun n x hnx => ?_
        · rw [splice_length _ _ _ hj, ← Array.length_toList, hc2]
          have := splice_length cells.toList (off + j) us.toList (by simpa using hfit)
          simp only [splice] at this
          rw [this]
          simpa using hs
        · have e2 : c2[off + n]? = (splice cells.toList (off + j) us.toList)[off + n]? := by
            rw [show c2[off + n]? = c2.toList[off + n]? by simp, hc2]
            rfl
          rw [e2, splice_get _ _ _ (by simpa using hfit)]
          rw [splice_get _ _ _ hj] at hnx
          by_cases h1 : n < j
          · rw [if_pos (by omega)]
            simp only [h1, if_true] at hnx ⊢
            refine ⟨?_, (hc n x hnx).2.wrote hW hl hC⟩
            rw [Array.getElem?_toList]
            exact (hc n x hnx).1
          · by_cases h2 : n < j + xs.length
            · rw [if_neg (by omega), if_pos (by rw [Array.length_toList, hlen]; omega)]
              simp only [h1, h2, if_true, if_false] at hnx ⊢
              obtain ⟨v, hv, hr⟩ := hx.2 (n - j) x hnx
              have hg : us.getD (n - j) undef = v := by rw [Array.getD_eq_getD_getElem?, hv]; rfl
              rw [hg]
              refine ⟨?_, hr.wrote hW hl hC⟩
              rw [show off + n - (off + j) = n - j by omega, Array.getElem?_toList]
              exact hv
            · rw [if_neg (by omega), if_neg (by rw [Array.length_toList, hlen]; omega)]
              simp only [h1, h2, if_false] at hnx ⊢
              refine ⟨?_, (hc n x hnx).2.wrote hW hl hC⟩
              rw [Array.getElem?_toList]
              exact (hc n x hnx).1
      · rw [upd_ne _ _ _ hrr] at hy
        exact (h.root r' y hy).wrote hW hl hC (not_suffix_one hrr)

/-- The contents of a header are given anew, its value stays. -/
inductive Put (m : Nat → Option Root) : List Nat → V → (Nat → Option Root) → Prop
  | root (r : Nat) (y0 y : V) (h : m r = some (.sl y0)) : Put m [r] y (upd m r (some (.sl y)))
  | elem (j i : Nat) (q : List Nat) (t : TC) (o : Nat) (qn : Bool) (l : List (T t)) (y : V) (e : T t) (m' : Nat → Option Root) (h : Get m q (.sl t (o + 2) qn l)) (hi : i < l.length) (hj : j < csz t)
      (hd : dec t o (splice (enc t o l[i]) j [y]) = some e) (hp : Put m q (.sl t (o + 2) qn (l.set i e)) m') : Put m (j :: i :: csz t :: q) y m'
theorem suffix_len_eq {α : Type} {a b c : List α} (ha : a <:+ c) (hb : b <:+ c) (h : a.length = b.length) : a = b := by
  obtain ⟨x, hx⟩ := ha
  obtain ⟨y, hy⟩ := hb
  rw [← hx] at hy
  exact ((List.append_inj' hy h.symm).2).symm
/-- The elements of an owned slice behind a store. -/
theorem RV.setElem {q : List Nat} {t : TC} {o : Nat} {qn : Bool} {l : List (T t)} {i j : Nat} {xs : List V} {e : T t} {b cap : Nat} {cs cs' : Array Value} {u us : Nat → Nat → Value}
    (hl : lab b = some q) (hh : w'.heap[b]? = some (.cells cs' (tid t) (0, 0))) (hs : cs'.size = cap * csz t) (hn : l.length ≤ cap) (hm : cap ≤ maxLen) (hi : i < l.length) (hj : j + xs.length ≤ csz t)
    (hd : dec t o (splice (enc t o l[i]) j xs) = some e)
    (hc : ∀ i' (h : i' < l.length) (j' : Nat) x, (enc t o l[i'])[j']? = some x → ¬ (i' = i ∧ j ≤ j' ∧ j' < j + xs.length) → cs'[i' * csz t + j']? = some (u i' j') ∧ RV w' B lab (j' :: i' :: csz t :: q) x (u i' j'))
    (hx : ∀ (n : Nat) x, xs[n]? = some x → cs'[i * csz t + (j + n)]? = some (us i (j + n)) ∧ RV w' B lab ((j + n) :: i :: csz t :: q) x (us i (j + n))) :
    RV w' B lab q (.sl t (o + 2) qn (l.set i e)) (.slice (some ⟨b, 0, none⟩) l.length cap) := by
  have hlen : (l.set i e).length = l.length := List.length_set
  have key : ∀ i' (h : i' < (l.set i e).length) (j' : Nat) x, (enc t o (l.set i e)[i'])[j']? = some x →
      ∃ v, cs'[i' * csz t + j']? = some v ∧ RV w' B lab (j' :: i' :: csz t :: q) x v := by
    intro i' h j' x hx'
    rw [List.getElem_set] at hx'
    by_cases hii : i = i'
    · subst hii
      rw [if_pos rfl] at hx'
      have hk := dec_ok t o _ e hd
      have hj' : j' < (enc t o e).length := (List.getElem?_eq_some_iff.1 hx').1
      rw [← hk.1] at hj'
      have hy := List.getElem?_eq_getElem hj'
      generalize (splice (enc t o l[i]) j xs)[j'] = y at hy
      have hw := hk.2 j' y x hy hx'
      rw [splice_get _ _ _ (by rw [enc_length]; exact hj)] at hy
      by_cases h1 : j' < j
      · rw [if_pos h1] at hy
        obtain ⟨h3, h4⟩ := hc i hi j' y hy (by omega)
        exact ⟨_, h3, h4.wk hw⟩
      · by_cases h2 : j' < j + xs.length
        · rw [if_neg h1, if_pos h2] at hy
          obtain ⟨h3, h4⟩ := hx (j' - j) y hy
          rw [show j + (j' - j) = j' by omega] at h3 h4
          exact ⟨_, h3, h4.wk hw⟩
        · rw [if_neg h1, if_neg h2] at hy
          obtain ⟨h3, h4⟩ := hc i hi j' y hy (by omega)
          exact ⟨_, h3, h4.wk hw⟩
    · rw [if_neg hii] at hx'
      obtain ⟨h3, h4⟩ := hc i' (by rw [← hlen]; exact h) j' x hx' (by omega)
      exact ⟨_, h3, h4⟩
  rw [← hlen]
  refine .own q t o qn (l.set i e) b cap cs' (fun i' j' => (cs'[i' * csz t + j']?).getD undef) hl hh hs (by rw [hlen]; exact hn) hm (fun i' h j' x hx' => ?_) (fun i' h j' x hx' => ?_)
  · obtain ⟨v, hv, _⟩ := key i' h j' x hx'
    rw [hv]
    rfl
  · obtain ⟨v, hv, hr⟩ := key i' h j' x hx'
    rw [hv]
    exact hr
theorem last_suffix {r : Nat} {q : List Nat} (h : [r] <:+ q) {r' : Nat} (h' : [r'] <:+ q) : r' = r := by
  have := suffix_len_eq h' h rfl
  injection this
theorem Put.ok {q : List Nat} {y : V} (h : Put m q y m') (hm : ∀ r x, m r = some x → RootOK w B lab ρ r x) (hw : Wrote w w' bt) (hl : lab bt = some kt) (hq : q <:+ kt) (hC : Still w w' lab ρ) {hv : Value} (hval : valAt w lab ρ q = some hv) (hy : RV w' B lab q y hv) :
    ∀ r x, m' r = some x → RootOK w' B lab ρ r x := by
  induction h generalizing hv with
  | root r y0 y h =>
    intro r' x hx
    by_cases hr : r' = r
    · subst hr
      rw [upd_same] at hx
      injection hx with hx
      subst hx
      simp only [valAt] at hval
      cases hρ : ρ r' with
      | blk b off => rw [hρ] at hval; cases hval
      | hdr v =>
        rw [hρ] at hval
        injection hval with hval
        subst hval
        exact .sl v y hρ hy
    · rw [upd_ne _ _ _ hr] at hx
      exact (hm r' x hx).wrote hw hl hC (fun hs => hr (last_suffix hq hs))
  | elem j i q t o qn l y e m' h hi hj hd hp ih =>
    obtain ⟨hv', hval', hr'⟩ := h.ok hm
    have hqk : q <:+ kt := List.IsSuffix.trans ⟨[j, i, csz t], rfl⟩ hq
    cases hr' with
    | slNil => simp at hi
    | slEmp => simp at hi
    | fro _ _ _ _ _ _ _ _ _ ho => omega
    | own _ _ _ _ _ b cap cs us hlb hh hs hn hmx hc hr =>
      have hne : b ≠ bt := by
        rintro rfl
        rw [hl] at hlb
        injection hlb with hlb
        subst hlb
        have := hq.length_le
        simp at this
        omega
      have hz := Nat.le_of_eq hw.size.symm
      refine ih hqk hval' (RV.setElem (us := fun _ _ => hv) (u := us) (cs := cs) (xs := [y]) hlb ((hw.block b hne).trans hh) hs hn hmx hi (show j + 1 ≤ csz t from hj) hd (fun i' h' j' x hx hni => ⟨hc i' h' j' x hx, (hr i' h' j' x hx).apart hl (.inl fun hs' => hni ?_) hz hw.block⟩) (fun n x hx => ?_))
      · have := suffix_len_eq hs' hq rfl
        injection this with e1 e2
        injection e2 with e2 _
        subst e1 e2
        exact ⟨rfl, Nat.le_refl _, by simp⟩
      · cases n with
        | succ n => simp at hx
        | zero =>
          simp at hx
          subst hx
          refine ⟨?_, hy⟩
          rw [valAt_long, addrAt_step j i (csz t) hval' hlb] at hval
          have hval : w.cell? ⟨b, i * csz t + j, none⟩ = some hv := hval
          rw [cell_of_row w b _ cs _ _ hh] at hval
          exact hval

/-- A store of plain numbers into an element of a slice that is owned. -/
theorem RV.plain_not {q : List Nat} {x : V} {v : Value} (h : RV w B lab q x v) (hx : x.plain = true) : isSl v = false := by
  cases h <;> first | rfl | cases hx
theorem RV.plain_any {q q' : List Nat} {x : V} {v : Value} {B' : Nat} {lab' : Lab} (h : RV w B lab q x v) (hx : x.plain = true) : RV w' B' lab' q' x v := by
  cases h <;> first | exact .int _ _ _ | exact .bool _ _ | exact .str _ _ | cases hx
theorem Rl.storeE {j i : Nat} {q : List Nat} {t : TC} {o : Nat} {qn : Bool} {l : List (T t)} {xs : List V} {us : Array Value} {e : T t} (h : Rl w0 N lab ρ σ a w) (hg : Get σ.m q (.sl t (o + 2) qn l)) (hi : i < l.length) (hj : j + xs.length ≤ csz t)
    (hd : dec t o (splice (enc t o l[i]) j xs) = some e) (hold : ∀ (n : Nat) x, n < xs.length → (enc t o l[i])[j + n]? = some x → x.plain = true) (hxp : ∀ x ∈ xs, x.plain = true) (hus : us.size = xs.length) (hx : ∀ (n : Nat) x, xs[n]? = some x → ∃ u, us[n]? = some u ∧ RV w w0.heap.size lab [] x u)
    (hp : Put σ.m q (.sl t (o + 2) qn (l.set i e)) m') :
    ∃ b, addrAt w lab ρ (j :: i :: csz t :: q) = some ⟨b, i * csz t + j, none⟩ ∧ w.there b (i * csz t + j) us.size ∧ Rl w0 N lab ρ ⟨σ.t, m'⟩ a (w.setCells b (i * csz t + j) us.toList) := by
  obtain ⟨hv', hval', hr'⟩ := hg.ok h.root
  cases hr' with
  | slNil => simp at hi
  | slEmp => simp at hi
  | fro _ _ _ _ _ _ _ _ _ ho => omega
  | own _ _ _ _ _ b cap cs u hlb hh hs hn hmx hc hr =>
    have hin : i * csz t + csz t ≤ cap * csz t := by
      have : (i + 1) * csz t ≤ cap * csz t := Nat.mul_le_mul_right _ (by omega)
      rw [Nat.succ_mul] at this
      exact this
    have hfit : i * csz t + j + us.toList.length ≤ cs.size := by rw [Array.length_toList, hus, hs]; omega
    have hW := wrote_setCells w b (i * csz t + j) us.toList
    obtain ⟨c2, hb2, hc2⟩ := heap_setCells b (tid t) us.toList (i * csz t + j) w cs hh hfit
    have c2get : ∀ n, c2[n]? = if n < i * csz t + j then cs[n]? else if n < i * csz t + j + xs.length then us[n - (i * csz t + j)]? else cs[n]? := by
      intro n
      have e2 : c2[n]? = (splice cs.toList (i * csz t + j) us.toList)[n]? := by
        rw [show c2[n]? = c2.toList[n]? by simp, hc2]
        rfl
      rw [e2, splice_get _ _ _ (by simpa using hfit), Array.length_toList, hus]
      simp
    have c2size : c2.size = cs.size := by
      rw [← Array.length_toList, hc2]
      have := splice_length cs.toList (i * csz t + j) us.toList (by simpa using hfit)
      simp only [splice] at this
      rw [this]
      simp
    have hC : Still w (w.setCells b (i * csz t + j) us.toList) lab ρ := by
      intro k ad v ha hv hsl
      by_cases hne : ad.block = b
      · obtain ⟨j', i', s', q', rfl, hq', hoff, hsp, _⟩ := addrAt_lab k ad ha
        have had : ad = ⟨b, ad.off, none⟩ := by cases ad; simp_all
        rw [had, cell_of_row w b _ cs _ _ hh] at hv
        rw [had, cell_of_row _ b _ c2 _ _ hb2, c2get]
        by_cases h1 : ad.off < i * csz t + j
        · rw [if_pos h1]; exact hv
        · by_cases h2 : ad.off < i * csz t + j + xs.length
          · exfalso
            have hjs : ad.off - (i * csz t + j) < xs.length := by omega
            have hjl : j + (ad.off - (i * csz t + j)) < (enc t o l[i]).length := by rw [enc_length]; omega
            have hy := List.getElem?_eq_getElem hjl
            generalize (enc t o l[i])[j + (ad.off - (i * csz t + j))] = y at hy
            have hpl := hold _ y hjs hy
            have h3 := hc i hi _ y hy
            rw [show i * csz t + (j + (ad.off - (i * csz t + j))) = ad.off by omega] at h3
            rw [hv] at h3
            injection h3 with h3
            have := (hr i hi _ y hy).plain_not hpl
            rw [← h3, hsl] at this
            cases this
          · rw [if_neg h1, if_neg h2]; exact hv
      · exact (World.cell?_of_block (hW.block _ hne)).trans hv
    refine ⟨b, addrAt_step j i (csz t) hval' hlb, fun n hn' => ⟨?_, frozen_of_row w b _ cs _ hh⟩, h.wrote hW hlb hC (hp.ok h.root hW hlb (List.suffix_refl _) hC hval' ?_)⟩
    · rw [cell_of_row w b _ cs _ _ hh]
      simp
      omega
    · refine RV.setElem (u := u) (us := fun _ n => us.getD (n - j) undef) (cs := cs) (xs := xs) hlb hb2 (c2size.trans hs) hn hmx hi hj hd (fun i' h' j' x hx' hni => ?_) (fun n x hx' => ?_)
      · have hj' : j' < csz t := by have := (List.getElem?_eq_some_iff.1 hx').1; rwa [enc_length] at this
        refine ⟨?_, (hr i' h' j' x hx').apart hlb (.inl fun hs' => ?_) (Nat.le_of_eq hW.size.symm) hW.block⟩
        · rw [c2get]
          have hns : ¬ (¬ i' * csz t + j' < i * csz t + j ∧ i' * csz t + j' < i * csz t + j + xs.length) := by
            rintro ⟨h1, h2⟩
            rcases Nat.lt_trichotomy i' i with hlt | heq | hgt
            · have : (i' + 1) * csz t ≤ i * csz t := Nat.mul_le_mul_right _ hlt
              rw [Nat.succ_mul] at this
              omega
            · subst heq
              exact hni ⟨rfl, by omega, by omega⟩
            · have : (i + 1) * csz t ≤ i' * csz t := Nat.mul_le_mul_right _ hgt
              rw [Nat.succ_mul] at this
              omega
          split
          · exact hc i' h' j' x hx'
          · rw [if_neg (by omega)]
            exact hc i' h' j' x hx'
        · have := hs'.length_le
          simp at this
          omega
      · obtain ⟨v, hv, hr2⟩ := hx n x hx'
        have hn' : n < xs.length := (List.getElem?_eq_some_iff.1 hx').1
        have hg' : us.getD (j + n - j) undef = v := by rw [show j + n - j = n by omega, Array.getD_eq_getD_getElem?, hv]; rfl
        show c2[_]? = some (us.getD (j + n - j) undef) ∧ RV _ _ _ _ _ (us.getD (j + n - j) undef)
        rw [hg', c2get, if_neg (by omega), if_pos (by omega)]
        refine ⟨?_, hr2.plain_any (hxp x (List.mem_of_getElem? hx'))⟩
        rw [show i * csz t + (j + n) - (i * csz t + j) = n by omega]
        exact hv
end
end Go.Proofs.Ytkgliadgedamiaa
