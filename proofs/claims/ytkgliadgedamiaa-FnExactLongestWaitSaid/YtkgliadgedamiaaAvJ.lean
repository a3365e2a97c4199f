/-
  Operations by contents: append. Nothing here is a claim.
-/
import Derived.Test.YtkgliadgedamiaaAvI
namespace Go.Proofs.Ytkgliadgedamiaa
open Go.RowKit
set_option linter.unusedVariables false

section
variable {P : Program} {w w' w0 : World} {B N : Nat} {lab lab' : Lab} {ρ ρ' : Nat → Loc} {σ : S} {a : Act} {X : Type} {d : Nat} {r : X}

theorem enc_flat (t : TC) (h : full t = 0) (o o' : Nat) (x : T t) : enc t o x = enc t o' x := by
  have key : ∀ o, enc t o x = enc t 0 x := by
    intro o
    rw [enc_frz_eq t o x]
    have := enc_plain t o x h
    conv => lhs; rw [← List.map_id (enc t o x)]
    apply List.map_congr_left
    intro y hy
    have hp := this y hy
    cases y <;> first | rfl | cases hp
  rw [key o, key o']
def flatU (u : Nat → Nat → Value) (n s : Nat) : List Value := (List.range (n * s)).map fun k => u (k / s) (k % s)
theorem flatU_get (u : Nat → Nat → Value) (n s i j : Nat) (hi : i < n) (hj : j < s) : (flatU u n s)[i * s + j]? = some (u i j) := by
  have hlt : i * s + j < n * s := by
    have : (i + 1) * s ≤ n * s := Nat.mul_le_mul_right _ hi
    rw [Nat.succ_mul] at this
    omega
  have hd : (i * s + j) / s = i := by rw [Nat.add_comm, Nat.add_mul_div_right _ _ (by omega), Nat.div_eq_of_lt hj, Nat.zero_add]
  have hm : (i * s + j) % s = j := by rw [Nat.add_comm, Nat.add_mul_mod_self_right, Nat.mod_eq_of_lt hj]
  simp [flatU, hlt, hd, hm]
theorem flatU_inv (u : Nat → Nat → Value) (n s k : Nat) (v : Value) (hs : 0 < s) (h : (flatU u n s)[k]? = some v) : ∃ i j, k = i * s + j ∧ i < n ∧ j < s ∧ v = u i j := by
  have hk : k < n * s := by
    have := (List.getElem?_eq_some_iff.1 h).1
    simpa [flatU] using this
  refine ⟨k / s, k % s, by rw [Nat.mul_comm]; exact (Nat.div_add_mod k s).symm, Nat.div_lt_of_lt_mul (by rw [Nat.mul_comm]; exact hk), Nat.mod_lt _ hs, ?_⟩
  simp only [flatU, List.getElem?_map, List.getElem?_range hk, Option.map_some, Option.some.injEq] at h
  exact h.symm
theorem enc_some (t : TC) (o : Nat) (x : T t) (j : Nat) (hj : j < csz t) : ∃ y, (enc t o x)[j]? = some y := ⟨_, List.getElem?_eq_getElem (by rw [enc_length]; exact hj)⟩
/-- Each element's cells, in a list of values. -/
def Elems (t : TC) (l : List (T t)) (vs : List Value) : Prop :=
  ∀ i (hi : i < l.length) (o j : Nat) x, (enc t o l[i])[j]? = some x → ∃ v, vs[i * csz t + j]? = some v ∧ v.oneCell' = true ∧ ∀ (w' : World) (B' : Nat) (lab' : Lab) (q' : List Nat), RV w' B' lab' q' x v
theorem RV.reads {q : List Nat} {t : TC} {g : Nat} {qn : Bool} {l : List (T t)} {u : Value} (h : RV w B lab q (.sl t g qn l) u) (hf : full t = 0) :
    ∃ A c news, u = .slice A l.length c ∧ Reads w w.heap.size (csz t) A l.length news ∧ (∀ v ∈ news, v.oneCell' = true) ∧ Elems t l news := by
  cases h with
  | slNil => exact ⟨none, 0, [], rfl, Reads.none_, by simp, fun i hi => by simp at hi⟩
  | slEmp => exact ⟨_, _, [], rfl, ⟨by simp, fun h => by simp at h⟩, by simp, fun i hi => by simp at hi⟩
  | fro _ _ _ _ _ b off cap us ho hl hb h1 hcap hc hr =>
    have hone : ∀ i (hi : i < l.length) j, j < csz t → (us i j).oneCell' = true := by
      intro i hi j hj
      obtain ⟨y, hy⟩ := enc_some t g l[i] j hj
      exact (hr i hi j y hy).one
    refine ⟨_, cap, flatU us l.length (csz t), rfl, ⟨by simp [flatU], fun hn => ⟨b, off, rfl, hb, fun k v hv => ?_⟩⟩, fun v hv => ?_, fun i hi o j x hx => ?_⟩
    · obtain ⟨i, j, rfl, hi, hj, rfl⟩ := flatU_inv us _ _ k v (csz_pos t) hv
      obtain ⟨y, hy⟩ := enc_some t g l[i] j hj
      exact hc i hi j y hy
    · obtain ⟨k, hk⟩ := List.mem_iff_getElem?.1 hv
      obtain ⟨i, j, rfl, hi, hj, rfl⟩ := flatU_inv us _ _ k v (csz_pos t) hk
      exact hone i hi j hj
    · have hj : j < csz t := by have := (List.getElem?_eq_some_iff.1 hx).1; rwa [enc_length] at this
      rw [enc_flat t hf o g] at hx
      refine ⟨us i j, flatU_get us _ _ i j hi hj, hone i hi j hj, fun w' B' lab' q' => (hr i hi j x hx).plain_any (enc_plain t g l[i] hf x (List.mem_of_getElem? hx))⟩
  | own _ _ o _ _ b cap cs us hl hh hs hn hm hc hr =>
    have hone : ∀ i (hi : i < l.length) j, j < csz t → (us i j).oneCell' = true := by
      intro i hi j hj
      obtain ⟨y, hy⟩ := enc_some t o l[i] j hj
      exact (hr i hi j y hy).one
    refine ⟨_, cap, flatU us l.length (csz t), rfl, ⟨by simp [flatU], fun hn => ⟨b, 0, rfl, (Array.getElem?_eq_some_iff.1 hh).1, fun k v hv => ?_⟩⟩, fun v hv => ?_, fun i hi o' j x hx => ?_⟩
    · obtain ⟨i, j, rfl, hi, hj, rfl⟩ := flatU_inv us _ _ k v (csz_pos t) hv
      obtain ⟨y, hy⟩ := enc_some t o l[i] j hj
      rw [Nat.zero_add, cell_of_row w b _ cs _ _ hh]
      exact hc i hi j y hy
    · obtain ⟨k, hk⟩ := List.mem_iff_getElem?.1 hv
      obtain ⟨i, j, rfl, hi, hj, rfl⟩ := flatU_inv us _ _ k v (csz_pos t) hk
      exact hone i hi j hj
    · have hj : j < csz t := by have := (List.getElem?_eq_some_iff.1 hx).1; rwa [enc_length] at this
      rw [enc_flat t hf o' o] at hx
      refine ⟨us i j, flatU_get us _ _ i j hi hj, hone i hi j hj, fun w' B' lab' q' => (hr i hi j x hx).plain_any (enc_plain t o l[i] hf x (List.mem_of_getElem? hx))⟩
theorem RV.owns {q : List Nat} {t : TC} {o : Nat} {qn : Bool} {l : List (T t)} {u : Value} (h : RV w B lab q (.sl t (o + 2) qn l) u) (hf : full t = 0) (hB : ∀ b, lab b = some q → B ≤ b) :
    ∃ xs, w.ownsRow B (tid t) (csz t) u l.length xs ∧ (∀ b, u.ownBlock = some b → lab b = some q) ∧ (qn = true → u.ownBlock ≠ none) ∧ Elems t l xs := by
  cases h with
  | slEmp => omega
  | slNil => exact ⟨[], ⟨by simp, .inl ⟨rfl, rfl⟩⟩, by simp [Value.ownBlock], by simp, fun i hi => by simp at hi⟩
  | fro _ _ _ _ _ _ _ _ _ ho => omega
  | own _ _ _ _ _ b cap cs us hl hh hs hn hm hc hr =>
    refine ⟨cs.toList.take (l.length * csz t), ⟨?_, .inr ⟨b, cap, cs, rfl, hB b hl, hh, hn, hm, hs, rfl⟩⟩, fun b' hb' => ?_, fun _ => by simp [Value.ownBlock], fun i hi o' j x hx => ?_⟩
    · have hcl : cs.toList.length = cap * csz t := by rw [← hs]; simp
      rw [List.length_take, hcl]
      have := Nat.mul_le_mul_right (csz t) hn
      omega
    · have : b = b' := by simpa [Value.ownBlock] using hb'
      subst this
      exact hl
    · have hj : j < csz t := by have := (List.getElem?_eq_some_iff.1 hx).1; rwa [enc_length] at this
      have hlt : i * csz t + j < l.length * csz t := by
        have : (i + 1) * csz t ≤ l.length * csz t := Nat.mul_le_mul_right _ hi
        rw [Nat.succ_mul] at this
        omega
      rw [enc_flat t hf o' o] at hx
      refine ⟨us i j, ?_, (hr i hi j x hx).one, fun w' B' lab' q' => (hr i hi j x hx).plain_any (enc_plain t o l[i] hf x (List.mem_of_getElem? hx))⟩
      rw [List.getElem?_take, if_pos hlt, Array.getElem?_toList]
      exact hc i hi j x hx
theorem Elems.append {t : TC} {l l2 : List (T t)} {xs ys : List Value} (h : Elems t l xs) (h2 : Elems t l2 ys) (hl : xs.length = l.length * csz t) : Elems t (l ++ l2) (xs ++ ys) := by
  intro i hi o j x hx
  have hj : j < csz t := by have := (List.getElem?_eq_some_iff.1 hx).1; rwa [enc_length] at this
  by_cases hlt : i < l.length
  · rw [List.getElem_append_left hlt] at hx
    obtain ⟨v, hv, r⟩ := h i hlt o j x hx
    refine ⟨v, ?_, r⟩
    rw [List.getElem?_append_left (List.getElem?_eq_some_iff.1 hv).1]
    exact hv
  · rw [List.getElem_append_right (by omega)] at hx
    have hi2 : i - l.length < l2.length := by rw [List.length_append] at hi; omega
    obtain ⟨v, hv, r⟩ := h2 (i - l.length) hi2 o j x hx
    refine ⟨v, ?_, r⟩
    have e : i * csz t + j = xs.length + ((i - l.length) * csz t + j) := by
      rw [hl, Nat.sub_mul]
      have : l.length * csz t ≤ i * csz t := Nat.mul_le_mul_right _ (by omega)
      omega
    rw [e, List.getElem?_append_right (by omega), Nat.add_sub_cancel_left]
    exact hv
/-- What is owned, as a header's contents. -/
theorem owns_RV {q : List Nat} {t : TC} {o : Nat} {qn : Bool} {l : List (T t)} {u : Value} {xs : List Value} (h : w.ownsRow B (tid t) (csz t) u l.length xs) (he : Elems t l xs) (hl : ∀ b, u.ownBlock = some b → lab b = some q) (hq : qn = true → u.ownBlock ≠ none) :
    RV w B lab q (.sl t (o + 2) qn l) u := by
  rcases h.2 with ⟨rfl, h0⟩ | ⟨b, cap, cs, rfl, hB, hh, hn, hm, hs, ht⟩
  · have : l = [] := List.eq_nil_of_length_eq_zero h0
    subst this
    cases qn with
    | true => exact absurd rfl (hq rfl)
    | false => exact .slNil _ _ _
  · have hget : ∀ i (hi : i < l.length) j x, (enc t o l[i])[j]? = some x → ∃ v, cs[i * csz t + j]? = some v ∧ ∀ (w' : World) (B' : Nat) (lab' : Lab) (q' : List Nat), RV w' B' lab' q' x v := by
      intro i hi j x hx
      obtain ⟨v, hv, _, r⟩ := he i hi o j x hx
      refine ⟨v, ?_, r⟩
      rw [← ht, List.getElem?_take] at hv
      split at hv
      · rw [Array.getElem?_toList] at hv; exact hv
      · cases hv
    refine .own q t o qn l b cap cs (fun i j => (cs[i * csz t + j]?).getD undef) (hl b rfl) hh hs hn hm (fun i hi j x hx => ?_) (fun i hi j x hx => ?_)
    · obtain ⟨v, hv, _⟩ := hget i hi j x hx
      rw [hv]; rfl
    · obtain ⟨v, hv, r⟩ := hget i hi j x hx
      rw [hv]; exact r _ _ _ _
theorem Rl.append {t e ty : TypeId} {tc : TC} {i : TypeInfo} {z : Value} {rr o g : Nat} {q qn : Bool} {l l2 : List (T tc)} {u v : Value} {q' : List Nat} (h : Rl w0 N lab ρ σ a w) (hut : P.underlying t = some (.slice e)) (ht : tid tc = e) (hi : P.info? e = some i) (hz : i.zero = some z)
    (hsz : i.size = csz tc) (hby : i.bytes ≤ 65536) (hzs : z.cells.size = csz tc) (hf : full tc = 0) (hd : RV w w0.heap.size lab [rr] (.sl tc (o + 2) q l) u) (hs : RV w w0.heap.size lab q' (.sl tc g qn l2) v) (hlen : l.length + l2.length < 1073741824) :
    ∃ v' w' lab', (Builtin.append_ #[t, t] ty #[u, v]).run P w = .ok v' w' ∧ Rl w0 N lab' (upd ρ rr (.hdr v')) ((σ.drop rr).root rr (.sl (.sl tc (o + 2) q (l ++ l2)))) a w' ∧ isSl v' = true := by
  subst ht
  obtain ⟨xs, hown, hblk, hqn, hel⟩ := hd.owns hf (fun b hb => (h.lab_ge b _ hb).1)
  obtain ⟨A, c, news, rfl, hrd, hone, hel2⟩ := hs.reads hf
  have hb2 : (l.length + l2.length) * i.bytes ≤ 140737488355328 := by
    have h1 : (l.length + l2.length) * i.bytes ≤ 1073741824 * 65536 := Nat.mul_le_mul (by omega) hby
    omega
  obtain ⟨v', w', hrun, hown', hgr, hbl⟩ := run_append_any (P := P) w w0.heap.size t ty (tid tc) i z (csz tc) i.bytes hut hi hz hsz rfl hzs (csz_pos tc) u l.length xs hown _ A l2.length c news hrd hone (by unfold maxLen; omega) hb2 h.below.size
  have hlen' : (l ++ l2).length = l.length + l2.length := List.length_append
  rw [← hlen'] at hown'
  have hel' := hel.append hel2 hown.1
  have hsl : isSl v' = true := by rcases hown'.2 with ⟨rfl, _⟩ | ⟨_, _, _, rfl, _⟩ <;> rfl
  have hB : ∀ k, u.ownBlock = some k → w0.heap.size ≤ k := fun k hk => (h.lab_ge k _ (hblk k hk)).1
  have hbel : Below w0.heap.size w w' := (Below.refl _ w).grown hgr h.below.size hB
  by_cases hnew : v'.ownBlock = some w.heap.size
  · have hlt : w.heap.size < w'.heap.size := by
      rcases hown'.2 with ⟨rfl, _⟩ | ⟨b, cap, cs, rfl, _, hh, _⟩
      · cases hnew
      · have : b = w.heap.size := by simpa [Value.ownBlock] using hnew
        subst this
        exact (Array.getElem?_eq_some_iff.1 hh).1
    refine ⟨v', w', upd lab w.heap.size (some [rr]), hrun, h.remake hbel ⟨hgr.size, fun b hb hne => hgr.block b hb (fun e' => hne (hblk b e'.symm)), fun b hb => upd_ne _ _ _ (by omega), fun b hb => (h.lab_ge b [] hb).2.2 rfl⟩ (fun b k hb hk => ?_) (fun r hr => upd_ne _ _ _ hr) (.sl v' _ (upd_same _ _ _) (owns_RV hown' hel' (fun b hb => ?_) (fun _ => by rw [hnew]; simp))), hsl⟩
    · by_cases e : b = w.heap.size
      · subst e
        rw [upd_same] at hk
        injection hk with hk
        subst hk
        exact ⟨hlt, by simp⟩
      · rw [upd_ne _ _ _ e] at hk
        have := (h.lab_ge b k hk).2.1
        omega
    · rw [hnew] at hb
      injection hb with hb
      subst hb
      exact upd_same _ _ _
  · have hsame : v'.ownBlock = u.ownBlock := by
      rcases hbl with hbl | hbl
      · exact hbl
      · exact absurd hbl hnew
    refine ⟨v', w', lab, hrun, h.remake hbel ⟨hgr.size, fun b hb hne => hgr.block b hb (fun e' => hne (hblk b e'.symm)), fun _ _ => rfl, fun b hb => (h.lab_ge b [] hb).2.2 rfl⟩ (fun b k hb hk => ?_) (fun r hr => upd_ne _ _ _ hr) (.sl v' _ (upd_same _ _ _) (owns_RV hown' hel' (fun b hb => hblk b (by rw [← hsame]; exact hb)) (fun hq => by rw [hsame]; exact hqn hq))), hsl⟩
    have := (h.lab_ge b k hk).2.1
    omega
theorem els_RV {t : TC} {x : V} {l : List (T t)} (h : x.els t = some l) {q : List Nat} {u : Value} (hu : RV w B lab q x u) : ∃ g qn, RV w B lab q (.sl t g qn l) u := by
  unfold V.els at h
  split at h
  · rename_i t' g qn l'
    split at h
    · rename_i ht
      subst ht
      injection h with h
      subst h
      exact ⟨g, qn, hu⟩
    · cases h
  · injection h with h
    subst h
    cases hu
    exact ⟨0, false, .slNil _ _ _⟩
  · cases h
theorem lfK_inv {x : Lf} {k : V → Option X} (h : lfK σ x k = some r) : ∃ y, (∀ lab ρ a w, Rl w0 N lab ρ σ a w → ∀ u, RLf w w0.heap.size lab ρ x u → ∃ q, RV w w0.heap.size lab q y u) ∧ k y = some r := by
  cases x with
  | v z => exact ⟨z, fun lab ρ a w _ u hu => ⟨[], hu.2⟩, h⟩
  | dead => cases h
  | own q =>
    obtain ⟨z, hz, h⟩ := getK_ok q _ h
    refine ⟨z, fun lab ρ a w hR u hu => ?_, h⟩
    obtain ⟨v, hv, hr⟩ := hz.ok hR.root
    have h3 := hu.2
    rw [hv] at h3
    injection h3 with h3
    subst h3
    exact ⟨q, hr⟩
theorem appK_ok {t ty : TypeId} {x y : A} {k : S → Option X} (h : appK P N σ d t x y k = some r) : ∃ σ', k σ' = some r ∧ ∀ lab ρ a w, Rl w0 N lab ρ σ a w → ∀ u v, RA w w0.heap.size lab ρ x u → RA w w0.heap.size lab ρ y v →
    ∃ w' lab' ρ' z, (Builtin.append_ #[t, t] ty #[u, v]).run P w = .ok z w' ∧ Rl w0 N lab' ρ' σ' (a.put (some d) z) w' := by
  unfold appK at h
  split at h
  · rename_i e tc yl hei
    obtain ⟨hut, ht, i, hi, hsz, hby⟩ := elemInfo_ok hei
    cases hc : (Nat.beq (full tc) 0 && (zeroOf P e).any (fun z => Nat.beq z.cells.size (csz tc))) with
    | false => rw [hc] at h; cases h
    | true =>
      rw [hc, cond_true] at h
      rw [Bool.and_eq_true] at hc
      have hf := Nat.eq_of_beq_eq_true hc.1
      obtain ⟨z, hz, hzs⟩ := (Option.any_eq_true _ _).1 hc.2
      have hzs := Nat.eq_of_beq_eq_true hzs
      have hzi : i.zero = some z := by unfold zeroOf at hz; simpa [hi] using hz
      obtain ⟨yv, hyv, h2⟩ := lfK_inv (w0 := w0) (N := N) h
      clear h
      split at h2
      · cases h2
      · rename_i l2 hl2
        split at h2
        · cases hL : okLen l2.length with
          | false => rw [hL] at h2; cases h2
          | true =>
            rw [hL, cond_true] at h2
            have hL : l2.length < 1073741824 := by simpa [okLen] using hL
            obtain ⟨hd, h3⟩ := newK_ok h2
            refine ⟨_, h3, fun lab ρ a w hR u v hu hv => ?_⟩
            have hu : u = .slice none 0 0 := by cases hu.2; rfl
            subst hu
            obtain ⟨q', hv'⟩ := hyv lab ρ a w hR v hv
            obtain ⟨g, qn, hv'⟩ := els_RV hl2 hv'
            obtain ⟨v', w', lab', hrun, hR', hsl⟩ := hR.append (ty := ty) (rr := d) (o := 0) (q := false) (l := []) hut ht hi hzi hsz hby hzs hf (.slNil _ _ _) hv' (by simpa using hL)
            exact ⟨w', lab', _, v', hrun, hR'.set ⟨hsl, by simp [valAt, upd_same]⟩ hd⟩
        · rename_i rr
          split at h2
          · rename_i t' o q l hm
            split at h2
            · rename_i htt
              subst htt
              cases hL : (Nat.blt d N && okLen (l.length + l2.length)) with
              | false => rw [hL] at h2; cases h2
              | true =>
                rw [hL, cond_true] at h2
                rw [Bool.and_eq_true] at hL
                have hL1 : l.length + l2.length < 1073741824 := by simpa [okLen] using hL.2
                have hd : d < N := by have := Nat.le_of_ble_eq_true hL.1; omega
                refine ⟨_, h2, fun lab ρ a w hR u v hu hv => ?_⟩
                obtain ⟨q', hv'⟩ := hyv lab ρ a w hR v hv
                obtain ⟨g, qn, hv'⟩ := els_RV hl2 hv'
                have hro := hR.root rr _ hm
                generalize he : Root.sl (.sl t' (o + 2) q l) = x at hro
                cases hro with
                | blk => cases he
                | sl uu y hρ hr =>
                  injection he with he
                  subst he
                  have huu : uu = u := by
                    have h4 := hu.2
                    simp only [valAt, hρ] at h4
                    injection h4
                  subst huu
                  obtain ⟨v', w', lab', hrun, hR', hsl⟩ := hR.append (ty := ty) hut ht hi hzi hsz hby hzs hf hr hv' hL1
                  exact ⟨w', lab', _, v', hrun, hR'.set ⟨hsl, by simp [valAt, upd_same]⟩ hd⟩
            · cases h2
          · cases h2
        · cases h2
  · cases h
end
end Go.Proofs.Ytkgliadgedamiaa
