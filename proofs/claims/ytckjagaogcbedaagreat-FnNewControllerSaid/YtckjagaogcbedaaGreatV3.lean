/-
  Running the program over pure contents, and that it follows (part 3). Nothing here is a claim.
-/
import Derived.Lib.AppendStr
import Derived.MapKept
import Derived.Test.YtckjagaogcbedaaGreatV2
set_option linter.unusedSimpArgs false
namespace Go.Proofs.YtckjagaogcbedaaGreat
open Go.RowKit
set_option linter.unusedVariables false
def dT : Nat := 89999
def cutL (lab : Lab) (k : List Nat) : Lab := fun b => match lab b with
  | some q => bif k.isSuffixOf q then some (q.take (q.length - k.length) ++ [dT]) else bif lastIs dT q then none else some q
  | none => none
def deepOk (σ : S) (c : CtrM) (args : List Operand) (q : Nat) : Bool := match musK σ c.ps args with
  | some mus => !memB q ((renM 0 mus).map (·.1)) && mus.any fun mu => Nat.beq mu.root dT
  | none => false
def deepK {X : Type} (N : Nat) (σ : S) (dst : Option Tmp) (c : CtrM) (args : List Operand) (k : S -> Option X) : Option X :=
  match args with
  | .tmp t :: _ => (match σ.t t with
    | .lf (.own [j, i, s, q]) => (match σ.m q with
      | some (.sl (.sl tc (o + 2) qn l)) => if s = csz tc then (if hi : i < l.length then (match (enc tc o l[i])[j]? with
        | some y => bif Nat.ble N 20000 && Nat.ble 20000 q && Nat.blt q 60000 && deepOk ((σ.lose [q, dT] [dT] [(dT, .sl y)]).set t (.lf (.own [dT]))) c args q then callMK N ((σ.lose [q, dT] [dT] [(dT, .sl y)]).set t (.lf (.own [dT]))) dst c args fun τ => (match τ.m dT with
            | some (.sl y') => (match dec tc o (splice (enc tc o l[i]) j [y']) with
              | some e => k ((τ.drop dT).root q (.sl (.sl tc (o + 2) qn (l.set i e))))
              | none => none)
            | _ => none) else none
        | none => none) else none) else none
      | _ => none)
    | _ => none)
  | _ => none
section
variable {P : Program} {w w' : World} {w0 : Wd} {B N : Nat} {lab lab2 lab' : Lab} {ρ ρ2 ρ' : Nat -> Loc} {σ : S} {a : Act} {X : Type} {d : Nat} {r : X} {o : Oper} {K : List Nat}
theorem cutL_none {b : Nat} (h : lab b = none) : cutL lab K b = none := by simp [cutL, h]
theorem cutL_in {b : Nat} {p : List Nat} (h : lab b = some (p ++ K)) : cutL lab K b = some (p ++ [dT]) := by
  have h1 : K.isSuffixOf (p ++ K) = true := List.isSuffixOf_iff_suffix.2 ⟨p, rfl⟩
  simp [cutL, h, h1]
theorem cutL_out {b : Nat} {k : List Nat} (h : lab b = some k) (h1 : ¬ K <:+ k) (h2 : lastIs dT k = false) : cutL lab K b = some k := by
  have h1 : K.isSuffixOf k = false := by
    cases hk : K.isSuffixOf k with
    | false => rfl
    | true => exact absurd (List.isSuffixOf_iff_suffix.1 hk) h1
  simp [cutL, h, h1, h2]
theorem RV.cut {k : List Nat} {x : V} {v : Value} (h : RV w B lab k x v) : ∀ p, k = p ++ K \/ x.fro = true -> RV w B (cutL lab K) (p ++ [dT]) x v := by
  induction h with
  | int => exact fun _ _ => .int _ _ _
  | bool => exact fun _ _ => .bool _ _
  | str => exact fun _ _ => .str _ _
  | nil => exact fun _ _ => .nil _
  | slNil => exact fun _ _ => .slNil _ _ _
  | slEmp => exact fun _ _ => .slEmp _ _ _ _ _ (by first | assumption | omega)
  | slNon => exact fun _ _ => .slNon _ _ _ _ _ (by first | assumption | omega)
  | fro k t o qn l b off cap u ho hl hb h1 hcap hc hr ih =>
    exact fun p _ => .fro _ _ _ _ _ _ _ _ u ho (cutL_none hl) hb h1 hcap hc (fun i h j x hx => (ih i h j x hx [] (.inr (enc_fro t o l[i] ho j x hx))).key (enc_fro t o l[i] ho j x hx))
  | own k t o qn l b cap cs u hl hh hs hn hm hc hr ih =>
    intro p hp
    have hp : k = p ++ K := by
      rcases hp with hp | hp
      · exact hp
      · simp [V.fro] at hp; omega
    subst hp
    exact .own _ _ _ _ _ _ _ cs u (cutL_in hl) hh hs hn hm hc (fun i h j x hx => ih i h j x hx (j :: i :: csz t :: p) (.inl rfl))
theorem RV.away {k : List Nat} {x : V} {v : Value} (h : RV w B lab k x v) (hne : ∀ b, lab b ≠ some []) (hk : ((∀ p, ¬ K <:+ p ++ k) /\ lastIs dT k = false) \/ x.fro = true) : RV w B (cutL lab K) k x v := by
  induction h with
  | int => exact .int _ _ _
  | bool => exact .bool _ _
  | str => exact .str _ _
  | nil => exact .nil _
  | slNil => exact .slNil _ _ _
  | slEmp => exact .slEmp _ _ _ _ _ (by first | assumption | omega)
  | slNon => exact .slNon _ _ _ _ _ (by first | assumption | omega)
  | fro k t o qn l b off cap u ho hl hb h1 hcap hc hr ih =>
    exact .fro _ _ _ _ _ _ _ _ u ho (cutL_none hl) hb h1 hcap hc (fun i h j x hx => ih i h j x hx (.inr (enc_fro t o l[i] ho j x hx)))
  | own k t o qn l b cap cs u hl hh hs hn hm hc hr ih =>
    have hk : (∀ p, ¬ K <:+ p ++ k) /\ lastIs dT k = false := by
      rcases hk with hk | hk
      · exact hk
      · simp [V.fro] at hk; omega
    refine .own _ _ _ _ _ _ _ cs u (cutL_out hl (hk.1 []) hk.2) hh hs hn hm hc (fun i h j x hx => ih i h j x hx (.inl ⟨fun p => ?_, ?_⟩))
    · have := hk.1 (p ++ [j, i, csz t])
      rwa [List.append_assoc] at this
    · have hk0 : k ≠ [] := by rintro rfl; exact hne b hl
      rw [lastIs_cons hk0]
      exact hk.2
theorem Rl.reslot {t : Nat} {x : A} (h : Rl w0 N lab ρ σ a w) (hx : RA w w0.heap.size lab ρ x (a.tmps.getD t undef)) : Rl w0 N lab ρ (σ.set t x) a w := by
  refine ⟨h.below, h.lab_ge, h.root, fun k => ?_, h.size, h.defers, h.fix, h.lim⟩
  show RA w w0.heap.size lab ρ (upd σ.t t x k) (a.tmps.getD k undef)
  by_cases hk : k = t
  · subst hk
    rw [upd_same]
    exact hx
  · rw [upd_ne _ _ _ hk]
    exact h.tmp k
theorem Rl.addRoot {q : Nat} {x : Root} (h : Rl w0 N lab ρ σ a w) (hx : RootOK w w0.heap.size lab ρ q x) : Rl w0 N lab ρ (σ.root q x) a w := by
  refine ⟨h.below, h.lab_ge, fun r y hy => ?_, h.tmp, h.size, h.defers, h.fix, h.lim⟩
  have hy : upd σ.m q (some x) r = some y := hy
  by_cases hr : r = q
  · subst hr
    rw [upd_same] at hy
    injection hy with hy
    subst hy
    exact hx
  · rw [upd_ne _ _ _ hr] at hy
    exact h.root r y hy
theorem BelowS.refl' (h : Rl w0 N lab ρ σ a w) : BelowS w0 w w := ⟨rfl, rfl, rfl, Nat.le_refl _, fun _ _ _ => rfl⟩
theorem deepK_ok {f : Nat} {args : Array Operand} {tys : Array TypeId} {c : CtrM} {k : S -> Option X} (ho : o.op = .call { callee := .value (.func f), args, argTypes := tys }) (he : enters P f) (hc : CtrMOK P f c) (h : deepK N σ o.dst c args.toList k = some r) : ∃ σ', k σ' = some r /\ OpS P w0 N o σ σ' := by
  unfold deepK at h
  split at h
  · rename_i t rest hargs
    split at h
    · rename_i j i s q ht
      split at h
      · rename_i tc oo qn l hm
        split at h
        · rename_i hs
          subst hs
          split at h
          · rename_i hi
            split at h
            · rename_i y hy
              generalize hσ1 : ((σ.lose [q, dT] [dT] [(dT, .sl y)]).set t (.lf (.own [dT]))) = σ1 at h
              cases hb : (Nat.ble N 20000 && Nat.ble 20000 q && Nat.blt q 60000 && deepOk σ1 c args.toList q) with
              | false => rw [hb] at h; cases h
              | true =>
                rw [hb, cond_true] at h
                simp only [Bool.and_eq_true] at hb
                obtain ⟨⟨⟨hN, hq1⟩, hq2⟩, hdk⟩ := hb
                have hN := Nat.le_of_ble_eq_true hN
                have hq1 := Nat.le_of_ble_eq_true hq1
                have hq2 : q < 60000 := Nat.le_of_ble_eq_true hq2
                obtain ⟨τ, mus, cn, hk, hmus, hcn, hroots, hcall⟩ := callMK_str (w0 := w0) ho he hc h
                clear h
                unfold deepOk at hdk
                rw [hmus] at hdk
                simp only [Bool.and_eq_true, Bool.not_eq_true'] at hdk
                obtain ⟨hqn, hdT⟩ := hdk
                obtain ⟨mu, hmu, hmur⟩ := List.any_eq_true.1 hdT
                have hmur := Nat.eq_of_beq_eq_true hmur
                have hdcn : memB dT cn = false := by rw [<- hmur]; exact hroots mu hmu
                have hqcn : memB q cn = false := by
                  cases hx : memB q cn with
                  | false => rfl
                  | true => have := hcn q hx; omega
                have hqd : q ≠ dT := by unfold dT; omega
                split at hk
                · rename_i y' hy'
                  split at hk
                  · rename_i e hdec
                    refine ⟨_, hk, fun a w KK Q hR hK => ?_⟩
                    obtain ⟨lab, ρ, hR⟩ := hR
                    have hne := hR.lab_ne
                    have hlim : w0.F dT = none := hR.lim dT (.inr (by decide))
                    have hro := hR.root q _ hm
                    generalize hx : Root.sl (.sl tc (oo + 2) qn l) = x at hro
                    cases hro with
                    | blk => cases hx
                    | mp => cases hx
                    | gh => cases hx
                    | sl v yq hρ hr =>
                      injection hx with hx
                      subst hx
                      cases hr with
                      | slNil => simp at hi
                      | slEmp => simp at hi
                      | slNon => simp at hi
                      | fro _ _ _ _ _ _ _ _ _ ho => omega
                      | own _ _ _ _ _ b cap cs u hl hh hs hn hmx hcc hrr =>
                        have hKv : Get σ.m [j, i, csz tc, q] y := .elem j i [q] tc oo qn l y (.root q _ hm) hi hy
                        obtain ⟨u0, hu0, hru0⟩ := hKv.ok hR.root
                        have hlf := hR.tmp t
                        rw [ht] at hlf
                        have hval : a.tmps.getD t undef = u0 := by
                          have h2 := hlf.2
                          rw [hu0] at h2
                          injection h2 with h2
                          exact h2.symm
                        have huij : u0 = u i j := by
                          have h3 : valAt w lab ρ [j, i, csz tc, q] = some (u i j) := by
                            rw [valAt_long, addrAt_step j i (csz tc) (q := [q]) (show valAt w lab ρ [q] = some (.slice (some ⟨b, 0, none⟩) l.length cap) by simp only [valAt, hρ]) hl]
                            show w.cell? _ = _
                            rw [cell_of_row w b _ cs _ _ hh]
                            exact hcc i hi j y hy
                          rw [hu0] at h3
                          injection h3
                        have hsl : isSl u0 = true := by rw [<- hval]; exact hlf.1
                        -- the state that the callee's caller sees
                        have hls : ∀ k : List Nat, lastB k [q, dT] = false -> lastIs q k = false /\ lastIs dT k = false := by
                          intro k hk
                          unfold lastB at hk
                          unfold lastIs
                          split at hk
                          · rename_i z hz
                            rw [hz]
                            have := memB_not hk
                            simp only [List.mem_cons, List.not_mem_nil, or_false, not_or] at this
                            exact ⟨by simpa using this.1, by simpa using this.2⟩
                          · rename_i hz
                            rw [hz]
                            exact ⟨rfl, rfl⟩
                        have hKq : ∀ k : List Nat, [j, i, csz tc, q] <:+ k -> lastIs q k = true := by
                          rintro k ⟨p, rfl⟩
                          simp [lastIs]
                        have hv1 : Hav w w lab (cutL lab [j, i, csz tc, q]) ρ (upd ρ dT (.hdr u0)) [q, dT] [dT] := by
                          refine ⟨Nat.le_refl _, fun b' hb' hk' => ⟨rfl, ?_⟩, fun n hn => ?_, fun b' k hk' => (hR.lab_ge b' k hk').2⟩
                          · cases hlb : lab b' with
                            | none => exact cutL_none hlb
                            | some k =>
                              obtain ⟨g1, g2⟩ := hls k (hk' k hlb)
                              exact cutL_out hlb (fun hs' => by rw [hKq k hs'] at g1; cases g1) g2
                          · refine upd_ne _ _ _ ?_
                            rintro rfl
                            simp [memB] at hn
                        have hcl : ∀ b' k, cutL lab [j, i, csz tc, q] b' = some k -> (∃ k', lab b' = some k') /\ k ≠ [] := by
                          intro b' k hk'
                          cases hlb : lab b' with
                          | none => rw [cutL_none hlb] at hk'; cases hk'
                          | some k' =>
                            refine ⟨⟨k', rfl⟩, ?_⟩
                            unfold cutL at hk'
                            rw [hlb] at hk'
                            simp only at hk'
                            cases h1 : List.isSuffixOf [j, i, csz tc, q] k' with
                            | true =>
                              rw [h1, cond_true] at hk'
                              injection hk' with hk'
                              rw [<- hk']
                              simp
                            | false =>
                              rw [h1, cond_false] at hk'
                              cases h2 : lastIs dT k' with
                              | true => rw [h2, cond_true] at hk'; cases hk'
                              | false =>
                                rw [h2, cond_false] at hk'
                                injection hk' with hk'
                                rw [<- hk']
                                exact (hR.lab_ge b' k' hlb).2.2
                        have hR1 : Rl w0 N (cutL lab [j, i, csz tc, q]) (upd ρ dT (.hdr u0)) (σ.lose [q, dT] [dT] [(dT, .sl y)]) a w := by
                          refine hR.hav hv1 (BelowS.refl' hR) (fun b' k hk' => ?_) (fun n hn => ?_) (fun n z hz => ?_)
                          · obtain ⟨⟨k', hlb⟩, hk0⟩ := hcl b' k hk'
                            have := hR.lab_ge b' k' hlb
                            exact ⟨this.1, this.2.1, hk0⟩
                          · have : n = dT := by simpa [memB] using hn
                            rw [this]
                            exact hlim
                          · have hn : n = dT /\ z = .sl y := by
                              rw [List.lookup_cons] at hz
                              cases hnb : (n == dT) with
                              | false => rw [hnb] at hz; cases hz
                              | true =>
                                rw [hnb] at hz
                                injection hz with hz
                                exact ⟨by simpa using hnb, hz.symm⟩
                            obtain ⟨rfl, rfl⟩ := hn
                            exact .sl u0 y (upd_same _ _ _) (hru0.cut [] (.inl rfl))
                        have hR2 : Rl w0 N (cutL lab [j, i, csz tc, q]) (upd ρ dT (.hdr u0)) σ1 a w := by
                          rw [<- hσ1]
                          refine hR1.reslot ?_
                          rw [hval]
                          exact ⟨hsl, by simp only [valAt, upd_same]⟩
                        refine hcall a w KK Q _ _ hR2 fun vv w' lab2 ρ2 ρ3 hR3 hv2 hbel hρ3 => ?_
                        -- behind the call
                        have hc0 : 90000 <= c0Of o.dst := by unfold c0Of; split <;> omega
                        have hdρ : ρ3 dT = .hdr u0 := by
                          rw [hρ3 dT (by unfold dT; omega), hv2.rho dT hdcn, upd_same]
                        have hqρ : ρ3 q = .hdr (.slice (some ⟨b, 0, none⟩) l.length cap) := by
                          rw [hρ3 q (by omega), hv2.rho q hqcn, upd_ne _ _ _ hqd, hρ]
                        have hro := hR3.root dT _ hy'
                        generalize hx : Root.sl y' = x at hro
                        cases hro with
                        | blk => cases hx
                        | mp => cases hx
                        | gh => cases hx
                        | sl v' y'' hρ' hr' =>
                          injection hx with hx
                          subst hx
                          rw [hdρ] at hρ'
                          injection hρ' with hρ'
                          subst hρ'
                          have hne2 := hR3.lab_ne
                          have hrel : Rel dT lab2 (lab2.rek dT [j, i, csz tc, q]) := rel_rek hne2
                          have hqd' : lastIs dT [q] = false := by simpa [lastIs] using fun e => hqd e
                          have hlab1 : cutL lab [j, i, csz tc, q] b = some [q] := cutL_out hl (fun hs' => by have := hs'.length_le; simp at this) hqd'
                          have hqns : lastB [q] ((renM 0 mus).map (·.1)) = false := hqn
                          obtain ⟨g1, g2⟩ := hv2.same b (hv2.lab b _ hlab1).1 (fun k hk' => by rw [hlab1] at hk'; injection hk' with hk'; subst hk'; exact hqns)
                          have hlab2 : lab2 b = some [q] := g2.trans hlab1
                          have hlab3 : lab2.rek dT [j, i, csz tc, q] b = some [q] := hrel.keep b _ hlab2 hqd'
                          have hR4 := hR3.rel hrel (fun b' k hk' => by
                            unfold Lab.rek at hk'
                            cases hlb : lab2 b' with
                            | none => rw [hlb] at hk'; cases hk'
                            | some k' =>
                              rw [hlb] at hk'
                              injection hk' with hk'
                              subst hk'
                              exact ⟨⟨k', rfl⟩, rek_ne (by simp) (fun e => hne2 b' (by rw [hlb, e]))⟩)
                          refine hK _ _ ⟨_, ρ3, hR4.addRoot (.sl _ _ hqρ ?_)⟩
                          have hj : j < csz tc := by
                            have := (List.getElem?_eq_some_iff.1 hy).1
                            rwa [enc_length] at this
                          refine RV.setElem (w' := w') (cs := cs) (xs := [y']) (u := u) (us := u) hlab3 (g1.trans hh) hs hn hmx hi (show j + 1 <= csz tc from hj) hdec (fun i' hi' j' x hx hij => ⟨hcc i' hi' j' x hx, ?_⟩) (fun n x hx => ?_)
                          · have hkey := hrr i' hi' j' x hx
                            have hij' : ¬ (i' = i /\ j' = j) := fun e => hij ⟨e.1, by simp; omega⟩
                            have hls2 : lastIs dT [j', i', csz tc, q] = false := by simpa [lastIs] using fun e => hqd e
                            have a1 := hkey.away (K := [j, i, csz tc, q]) hne (.inl ⟨fun p hs' => ?_, hls2⟩)
                            · have a2 := a1.hav hv2 (.inl (by simpa [lastB] using hqn))
                              exact a2.rel hrel (.inl hls2)
                            · have e1 : [j, i, csz tc, q] = [j', i', csz tc, q] := suffix_len_eq hs' ⟨p, rfl⟩ rfl
                              injection e1 with e1 e2
                              injection e2 with e2 e3
                              exact hij' ⟨e2.symm, e1.symm⟩
                          · cases n with
                            | zero =>
                              simp only [List.getElem?_cons_zero, Option.some.injEq] at hx
                              subst hx
                              refine ⟨hcc i hi j y hy, ?_⟩
                              have := hr'.rek (q := dT) (nk := [j, i, csz tc, q]) hne2
                              rw [rek_self, huij] at this
                              exact this
                            | succ n => simp at hx
                  · cases hk
                · cases hk
            · cases h
          · cases h
        · cases h
      · cases h
    · cases h
  · cases h
theorem deepK_det {dst : Option Tmp} {c : CtrM} {args : List Operand} {k : S -> Option X} (hcm : ∀ {X : Type} {σ : S} {k : S -> Option X} {r : X}, callMK N σ dst c args k = some r -> ∃ τ, k τ = some r /\ ∀ (X : Type) (k : S -> Option X), callMK N σ dst c args k = k τ) (h : deepK N σ dst c args k = some r) :
    ∃ τ, k τ = some r /\ ∀ (X : Type) (k : S -> Option X), deepK N σ dst c args k = k τ := by
  unfold deepK at h
  split at h
  · rename_i t rest
    split at h
    · rename_i j i s q ht
      split at h
      · rename_i tc oo qn l hm
        split at h
        · rename_i hs
          split at h
          · rename_i hi
            split at h
            · rename_i y hy
              generalize hb : (Nat.ble N 20000 && Nat.ble 20000 q && Nat.blt q 60000 && deepOk ((σ.lose [q, dT] [dT] [(dT, .sl y)]).set t (.lf (.own [dT]))) c (.tmp t :: rest) q) = b at h
              cases b with
              | false => cases h
              | true =>
                rw [cond_true] at h
                obtain ⟨τ, h1, h2⟩ := hcm h
                split at h1
                · rename_i y' hy'
                  split at h1
                  · rename_i e hdec
                    exact ⟨_, h1, fun X k => by
                      simp only [deepK, ht, hm, hs, if_true, hi, dif_pos, hy]
                      subst hs
                      rw [hb, cond_true, h2]
                      simp only [hy', hdec]⟩
                  · cases h1
                · cases h1
            · cases h
          · cases h
        · cases h
      · cases h
    · cases h
  · cases h
end
end Go.Proofs.YtckjagaogcbedaaGreat
namespace Go.Proofs.YtckjagaogcbedaaGreat
open Go.RowKit
set_option linter.unusedVariables false
def Det {α : Type} (f : (X : Type) -> (α -> Option X) -> Option X) (y : α) : Prop := ∀ (X : Type) (k : α -> Option X), f X k = k y
section
variable {P : Program} {N : Nat} {σ : S} {X : Type} {r : X} {d : Nat} {m : Nat -> Option Root}
theorem getK_det : ∀ (q : List Nat) (k : V -> Option X), getK m q k = some r -> ∃ y, k y = some r /\ Get m q y /\ Det (fun X k => getK (X := X) m q k) y
  | [], _, h => by simp [getK] at h
  | [x], k, h => by
    simp only [getK] at h
    split at h
    · rename_i y hy; exact ⟨y, h, .root x y hy, fun X k => by simp only [getK, hy]⟩
    · cases h
  | [_, _], _, h => by simp [getK] at h
  | j :: i :: s :: q, k, h => by
    simp only [getK] at h
    obtain ⟨y, h2, hg, hd⟩ := getK_det q _ h
    clear h
    split at h2
    · split at h2
      · rename_i hs
        subst hs
        split at h2
        · rename_i hi
          split at h2
          · rename_i z hz
            exact ⟨z, h2, .elem j i q _ _ _ _ z hg hi hz, fun X k => by
              simp only [getK]
              exact (hd X _).trans (by simp only [if_true, dif_pos hi, hz])⟩
          · cases h2
        · cases h2
      · cases h2
    · cases h2
theorem lfK_det {x : Lf} {k : V -> Option X} (h : lfK σ x k = some r) : ∃ y, k y = some r /\ Det (fun X k => lfK (X := X) σ x k) y := by
  cases x with
  | v z => exact ⟨z, h, fun X k => rfl⟩
  | own q => obtain ⟨y, h1, _, h2⟩ := getK_det q k h; exact ⟨y, h1, h2⟩
  | dead => cases h
theorem viewV_det {q : List Nat} {s i j : Nat} {k : V -> Option X} (h : viewV σ q s i j k = some r) : ∃ y, k y = some r /\ Det (fun X k => viewV (X := X) σ q s i j k) y := by
  obtain ⟨y, h1, _, h2⟩ := getK_det q _ h
  split at h1
  · rename_i z hz
    exact ⟨z, h1, fun X k => by
      simp only [viewV]
      exact (h2 X _).trans (by simp only [hz])⟩
  · cases h1
theorem yvK_det {x : A} {k : V -> Option X} (h : yvK σ x k = some r) : ∃ y, k y = some r /\ Det (fun X k => yvK (X := X) σ x k) y := by
  unfold yvK at h
  split at h
  · exact lfK_det h
  · exact viewV_det h
  · cases h
theorem vK_det {x : A} {k : V -> Option X} (h : vK x k = some r) : ∃ y, k y = some r /\ Det (fun X k => vK (X := X) x k) y := by
  obtain ⟨y, rfl, h⟩ := vK_ok h
  exact ⟨y, h, fun X k => rfl⟩
theorem binK_det {ty : TypeId} {op : BinOp} {x y : V} {k : V -> Option X} (h : binK P ty op x y k = some r) : ∃ z, k z = some r /\ Det (fun X k => binK (X := X) P ty op x y k) z := by
  unfold binK at h
  split at h
  · rename_i kx a ky b
    split at h
    · split at h
      · cases h
      · rename_i hb; exact ⟨_, h, fun X k => by simp only [binK, if_neg hb]⟩
    · split at h
      · cases h
      · rename_i hb; exact ⟨_, h, fun X k => by simp only [binK, if_neg hb]⟩
    · rename_i h1 h2
      split at h
      · rename_i hk
        subst hk
        cases op
        case shl => exact absurd rfl h1
        case shr => exact absurd rfl h2
        case quo =>
          by_cases hb : b = 0
          · simp only [hb, if_true] at h; cases h
          · simp only [hb, if_false] at h; exact ⟨_, h, fun X k => by simp only [binK, if_true, if_neg hb]⟩
        case rem =>
          by_cases hb : b = 0
          · simp only [hb, if_true] at h; cases h
          · simp only [hb, if_false] at h; exact ⟨_, h, fun X k => by simp only [binK, if_true, if_neg hb]⟩
        all_goals first
          | (refine ⟨_, h, fun X k => ?_⟩; simp only [binK, if_true]; done)
          | cases h
      · cases h
  · split at h
    · rename_i hty
      split at h
      · exact ⟨_, h, fun X k => by simp only [binK, hty]⟩
      · exact ⟨_, h, fun X k => by simp only [binK, hty]⟩
      · cases h
    · cases h
  · rename_i a b
    split at h
    · cases hL : okLen (a.size + b.size) with
      | false => rw [hL] at h; cases h
      | true => rw [hL] at h; exact ⟨_, h, fun X k => by simp only [binK, hL, cond_true]⟩
    · exact ⟨_, h, fun X k => by simp only [binK]⟩
    · exact ⟨_, h, fun X k => by simp only [binK]⟩
    · cases h
  · cases h
theorem binAK_det {op : BinOp} {t : TypeId} {x y : A} {k : A -> Option X} (h : binAK P σ op t x y k = some r) : ∃ z, k z = some r /\ Det (fun X k => binAK (X := X) P σ op t x y k) z := by
  unfold binAK at h
  split at h
  · rename_i ng cs ds hop
    split at h
    · rename_i xs ys hxs hys
      generalize hg : (P.eqGuardType P.depth t || !isStr P t) = g at h
      cases g with
      | true => cases h
      | false =>
        rw [cond_false] at h
        split at h
        · rename_i b hb
          exact ⟨_, h, fun X k => by simp only [binAK, hop, hxs, hys, hg, cond_false, hb]⟩
        · cases h
    · cases h
  · rename_i ng l hop
    split at h
    · rename_i e he
      obtain ⟨z, h2, hd⟩ := lfK_det h
      clear h
      split at h2
      · exact ⟨_, h2, fun X k => by
          simp only [binAK, hop, he]
          exact hd X _⟩
      · exact ⟨_, h2, fun X k => by
          simp only [binAK, hop, he]
          exact hd X _⟩
      · rename_i t' o' l'
        cases hl : isEmp l' with
        | true => rw [hl] at h2; cases h2
        | false =>
          rw [hl, cond_false] at h2
          exact ⟨_, h2, fun X k => by
            simp only [binAK, hop, he]
            exact (hd X _).trans (by simp only [hl, cond_false])⟩
      · cases h2
    · cases h
  · rename_i x' y' _ _ _ h1 h2'
    obtain ⟨u0, k1, hd1⟩ := vK_det h
    obtain ⟨v0, k2, hd2⟩ := vK_det k1
    obtain ⟨z, k3, hd3⟩ := binK_det k2
    refine ⟨_, k3, fun X k => ?_⟩
    have e1 : binAK P σ op t x' y' k = vK x' fun a => vK y' fun b => binK P t op a b fun z => k (.lf (.v z)) := by
      unfold binAK
      split
      · rename_i ng cs ds hop; exact (h1 ng cs ds hop rfl rfl).elim
      · rename_i ng l hop; exact (h2' ng l hop rfl rfl).elim
      · rfl
    exact e1.trans ((hd1 _ _).trans ((hd2 _ _).trans (hd3 _ _)))
theorem unK_det {op : UnOp} {x : V} {k : V -> Option X} (h : unK op x k = some r) : ∃ z, k z = some r /\ Det (fun X k => unK (X := X) op x k) z := by
  unfold unK at h
  split at h
  · exact ⟨_, h, fun X k => rfl⟩
  · exact ⟨_, h, fun X k => rfl⟩
  · cases h
theorem finK_det {t : TypeId} {cs : List Lf} {k : A -> Option X} (h : finK P t cs k = some r) : ∃ y, k y = some r /\ Det (fun X k => finK (X := X) P t cs k) y := by
  unfold finK at h
  split at h
  · rename_i n hn
    split at h
    · rename_i hl
      split at h
      · rename_i hr; exact ⟨_, h, fun X k => by simp only [finK, hn, if_pos hl, hr]⟩
      · rename_i hr
        split at h
        · exact ⟨_, h, fun X k => by simp only [finK, hn, if_pos hl, hr]⟩
        · cases h
      · cases h
    · cases h
  · cases h
theorem loadK_det {t : TypeId} {x : A} {k : A -> Option X} (h : loadK P σ t x k = some r) : ∃ y, k y = some r /\ Det (fun X k => loadK (X := X) P σ t x k) y := by
  unfold loadK at h
  split at h
  · cases h
  · rename_i n hn
    split at h
    · split at h
      · rename_i cs hcs
        obtain ⟨y, h1, h2⟩ := finK_det h
        exact ⟨y, h1, fun X k => by simp only [loadK, hn, hcs]; exact h2 X k⟩
      · cases h
    · obtain ⟨y, h1, h2⟩ := finK_det h
      exact ⟨y, h1, fun X k => by simp only [loadK, hn]; exact h2 X k⟩
    · rename_i j i s q
      obtain ⟨z, h2, _, hd⟩ := getK_det _ _ h
      clear h
      split at h2
      · split at h2
        · rename_i hs
          split at h2
          · rename_i hi
            obtain ⟨y, h3, h4⟩ := finK_det h2
            exact ⟨y, h3, fun X k => by
              simp only [loadK, hn]
              exact (hd X _).trans (by simp only [if_pos hs, dif_pos hi]; exact h4 X k)⟩
          · cases h2
        · cases h2
      · cases h2
    · cases h
theorem fieldK_det {s : TypeId} {x : A} {f : Nat} {k : A -> Option X} (h : fieldK P s x f k = some r) : ∃ y, k y = some r /\ Det (fun X k => fieldK (X := X) P s x f k) y := by
  unfold fieldK at h
  split at h
  · cases h
  · rename_i fd hfd
    split at h
    · rename_i n hn
      split at h
      · exact ⟨_, h, fun X k => by simp only [fieldK, hfd, hn]⟩
      · exact ⟨_, h, fun X k => by simp only [fieldK, hfd, hn]⟩
      · exact ⟨_, h, fun X k => by simp only [fieldK, hfd, hn]⟩
      · cases h
    · cases h
theorem idxK_det {t : TypeId} {x i : A} {k : A -> Option X} (h : idxK P σ t x i k = some r) : ∃ y, k y = some r /\ Det (fun X k => idxK (X := X) P σ t x i k) y := by
  unfold idxK at h
  split at h
  · cases h
  · rename_i e he
    split at h
    · rename_i n kk iv hn
      split at h
      · rename_i t' g qn l
        split at h
        · rename_i hnc
          cases hg : Nat.blt g 2 with
          | false => rw [hg] at h; cases h
          | true =>
            rw [hg, cond_true] at h
            split at h
            · rename_i hb
              exact ⟨_, h, fun X k => by simp only [idxK, he, hn, if_pos hnc, hg, cond_true, dif_pos hb]⟩
            · cases h
        · cases h
      · rename_i q
        obtain ⟨z, h2, _, hd⟩ := getK_det _ _ h
        clear h
        split at h2
        · split at h2
          · rename_i hnc
            split at h2
            · rename_i hb
              rename_i t' g qn l _
              cases hgb : Nat.blt g 2 with
              | true =>
                rw [hgb, cond_true] at h2
                exact ⟨_, h2, fun X k => by
                  simp only [idxK, he, hn]
                  exact (hd X _).trans (by simp only [if_pos hnc, dif_pos hb, hgb, cond_true])⟩
              | false =>
                rw [hgb, cond_false] at h2
                exact ⟨_, h2, fun X k => by
                  simp only [idxK, he, hn]
                  exact (hd X _).trans (by simp only [if_pos hnc, dif_pos hb, hgb, cond_false])⟩
            · cases h2
          · cases h2
        · cases h2
      · cases h
    · cases h
theorem lenK_det {t : TypeId} {x : A} {k : A -> Option X} (h : lenK P σ t x k = some r) : ∃ y, k y = some r /\ Det (fun X k => lenK (X := X) P σ t x k) y := by
  unfold lenK at h
  split at h
  · obtain ⟨z, h2, hd⟩ := lfK_det h
    clear h
    split at h2
    · split at h2
      · rename_i he
        exact ⟨_, h2, fun X k => by simp only [lenK]; exact (hd X _).trans (by simp only [he])⟩
      · cases h2
    · split at h2
      · rename_i he
        exact ⟨_, h2, fun X k => by simp only [lenK]; exact (hd X _).trans (by simp only [he])⟩
      · cases h2
    · split at h2
      · rename_i he
        exact ⟨_, h2, fun X k => by simp only [lenK]; exact (hd X _).trans (by simp only [he])⟩
      · cases h2
    · cases h2
  · cases h
theorem extK_det {x : A} {i : Nat} {k : A -> Option X} (h : extK x i k = some r) : ∃ y, k y = some r /\ Det (fun X k => extK (X := X) x i k) y := by
  unfold extK at h
  split at h
  · split at h
    · rename_i y hy; exact ⟨y, h, fun X k => by simp only [extK, hy]⟩
    · cases h
  · cases h
theorem buildK_det {t : TypeId} {parts : List (Nat × Operand)} {k : A -> Option X} (h : buildK P σ t parts k = some r) : ∃ y, k y = some r /\ Det (fun X k => buildK (X := X) P σ t parts k) y := by
  unfold buildK at h
  split at h
  · rename_i z pl hz hpl
    split at h
    · rename_i cs hcs; exact ⟨_, h, fun X k => by simp only [buildK, hz, hpl, hcs]⟩
    · cases h
  · cases h
theorem partK_det {s : TypeId} {x : A} {f : Nat} {k : A -> Option X} (h : partK P s x f k = some r) : ∃ y, k y = some r /\ Det (fun X k => partK (X := X) P s x f k) y := by
  unfold partK at h
  split at h
  · rename_i fd cs hfd
    split at h
    · rename_i n hn hr
      split at h
      · rename_i hle; exact ⟨_, h, fun X k => by simp only [partK, hfd, hn, hr, if_pos hle]⟩
      · cases h
    · rename_i n hn hr
      split at h
      · rename_i y hy; exact ⟨_, h, fun X k => by simp only [partK, hfd, hn, hr, hy]⟩
      · cases h
    · cases h
  · cases h
theorem mmK_det {mx : Bool} {x y : A} {k : A -> Option X} (h : mmK mx x y k = some r) : ∃ z, k z = some r /\ Det (fun X k => mmK (X := X) mx x y k) z := by
  unfold mmK at h
  split at h
  · exact ⟨_, h, fun X k => rfl⟩
  · cases h
theorem strIdxK_det {t : TypeId} {x i : A} {k : A -> Option X} (h : strIdxK P t x i k = some r) : ∃ z, k z = some r /\ Det (fun X k => strIdxK (X := X) P t x i k) z := by
  unfold strIdxK at h
  split at h
  · split at h
    · rename_i hu
      split at h
      · rename_i hb; exact ⟨_, h, fun X k => by simp only [strIdxK, hu, dif_pos hb]⟩
      · cases h
    · cases h
  · cases h
theorem strK_det {src dst : TypeId} {z : V} {k : A -> Option X} (h : strK P src dst z k = some r) : ∃ y, k y = some r /\ Det (fun X k => strK (X := X) P src dst z k) y := by
  unfold strK at h
  split at h
  · cases ht : strT P src dst with
    | false => rw [ht] at h; cases h
    | true => rw [ht, cond_true] at h; exact ⟨_, h, fun X k => by simp only [strK, ht, cond_true]⟩
  · cases ht : strT P src dst with
    | false => rw [ht] at h; cases h
    | true => rw [ht, cond_true] at h; exact ⟨_, h, fun X k => by simp only [strK, ht, cond_true]⟩
  · cases h
theorem convK_det {src dst : TypeId} {x : A} {k : A -> Option X} (h : convK P σ src dst x k = some r) : ∃ z, k z = some r /\ Det (fun X k => convK (X := X) P σ src dst x k) z := by
  unfold convK at h
  split at h
  · split at h
    · rename_i d1 kd h1 h2; exact ⟨_, h, fun X k => by simp only [convK, h1, h2]⟩
    · cases h
  · rename_i y hy
    obtain ⟨z, h2, hd⟩ := lfK_det h
    obtain ⟨y', h3, hd2⟩ := strK_det h2
    refine ⟨_, h3, fun X k => ?_⟩
    have : convK P σ src dst (.lf y) k = lfK σ y fun z => strK P src dst z k := by
      unfold convK
      split
      · rename_i n e; injection e with e; exact (hy _ _ e).elim
      · rename_i e; injection e with e; subst e; rfl
      · rename_i h' ; exact absurd rfl (h' _)
    show convK P σ src dst (.lf y) k = k y'
    rw [this]
    exact (hd X _).trans (hd2 X k)
  · cases h
end
end Go.Proofs.YtckjagaogcbedaaGreat
namespace Go.Proofs.YtckjagaogcbedaaGreat
open Go.RowKit
set_option linter.unusedVariables false
section
variable {P : Program} {N : Nat} {σ : S} {X : Type} {r : X} {d : Nat} {m : Nat -> Option Root} {o : Oper}
theorem Det.at_ {α : Type} {f : (X : Type) -> (α -> Option X) -> Option X} {y : α} (h : Det f y) {X : Type} (k : α -> Option X) : f X k = k y := h X k
theorem putK_det {dst : Option Tmp} {x : A} {k : S -> Option X} (h : putK N σ dst x k = some r) : ∃ τ, k τ = some r /\ Det (fun X k => putK (X := X) N σ dst x k) τ := by
  unfold putK at h
  split at h
  · exact ⟨_, h, fun X k => rfl⟩
  · rename_i d
    cases hN : Nat.blt d N with
    | false => rw [hN] at h; cases h
    | true => rw [hN] at h; exact ⟨_, h, fun X k => by simp only [putK, hN, cond_true]⟩
theorem newK_det {x : Root} {y : A} {k : S -> Option X} (h : newK N σ d x y k = some r) : k (((σ.drop d).root d x).set d y) = some r /\ Det (fun X k => newK (X := X) N σ d x y k) (((σ.drop d).root d x).set d y) := by
  unfold newK at h
  cases hN : Nat.blt d N with
  | false => rw [hN] at h; cases h
  | true => rw [hN] at h; exact ⟨h, fun X k => by simp only [newK, hN, cond_true]⟩
theorem allocK_det {e : TypeId} {k : S -> Option X} (h : allocK P N σ d e k = some r) : ∃ x y, k (((σ.drop d).root d x).set d y) = some r /\ y = .bptr d 0 /\ (∀ (σ' : S), Det (fun X k => allocK (X := X) P N σ' d e k) (((σ'.drop d).root d x).set d y)) := by
  unfold allocK at h
  split at h
  · rename_i z hz
    obtain ⟨h1, _⟩ := newK_det h
    refine ⟨_, _, h1, rfl, fun σ' X k => ?_⟩
    obtain ⟨hN, _⟩ := newK_ok h
    have hb : Nat.blt d N = true := Nat.ble_eq_true_of_le hN
    simp only [allocK, hz, newK, hb, cond_true]
  · cases h
theorem makeK_det {t : TypeId} {l c : A} {k : S -> Option X} (h : makeK P N σ d t l c k = some r) : ∃ y, k (((σ.drop d).root d (.sl y)).set d (.lf (.own [d]))) = some r /\ (∀ (σ' : S), Det (fun X k => makeK (X := X) P N σ' d t l c k) (((σ'.drop d).root d (.sl y)).set d (.lf (.own [d])))) := by
  unfold makeK at h
  split at h
  · rename_i e tc kl n kc c hei
    split at h
    · cases h
    · rename_i z hz
      split at h
      · rename_i hb
        obtain ⟨h1, _⟩ := newK_det h
        refine ⟨_, h1, fun σ' X k => ?_⟩
        obtain ⟨hN, _⟩ := newK_ok h
        have hb2 : Nat.blt d N = true := Nat.ble_eq_true_of_le hN
        simp only [makeK, hei, hz, if_pos hb, newK, hb2, cond_true]
      · cases h
  · cases h
theorem buildSK_det {t : TypeId} {len : Nat} {parts : List (Nat × Operand)} {k : S -> Option X} (h : buildSK P N σ d t len parts k = some r) : ∃ y, k (((σ.drop d).root d (.sl y)).set d (.lf (.own [d]))) = some r /\
    (∀ (σ' : S), (∀ p ∈ parts, opd σ' p.2 = opd σ p.2) -> Det (fun X k => buildSK (X := X) P N σ' d t len parts k) (((σ'.drop d).root d (.sl y)).set d (.lf (.own [d])))) := by
  unfold buildSK at h
  split at h
  · rename_i e tc hei
    split at h
    · rename_i z hz
      cases hc : (Nat.beq (full tc) 0 && Nat.beq z.cells.size (csz tc) && Nat.blt (len * csz tc) 16777217) with
      | false => rw [hc] at h; cases h
      | true =>
        rw [hc, cond_true] at h
        split at h
        · rename_i cs hcs
          split at h
          · rename_i vs hvs
            split at h
            · rename_i l hl
              obtain ⟨h1, _⟩ := newK_det h
              refine ⟨_, h1, fun σ' hσ X k => ?_⟩
              obtain ⟨hN, _⟩ := newK_ok h
              have hb2 : Nat.blt d N = true := Nat.ble_eq_true_of_le hN
              have e : (parts.map fun p => (p.1, opd σ' p.2)) = parts.map fun p => (p.1, opd σ p.2) := List.map_congr_left fun p hp => by rw [hσ p hp]
              simp only [buildSK, hei, hz, hc, cond_true, e, hcs, hvs, hl, newK, hb2]
            · cases h
          · cases h
        · cases h
    · cases h
  · cases h
theorem slcK_det {t : TypeId} {x : A} {lo hi : Option A} {k : A -> Option X} (h : slcK P σ t x lo hi k = some r) : ∃ y, k y = some r /\ Det (fun X k => slcK (X := X) P σ t x lo hi k) y := by
  unfold slcK at h
  split at h
  · rename_i q
    unfold viewK at h
    split at h
    · rename_i e he
      split at h
      · rename_i n hn
        obtain ⟨y, h1, _, hd⟩ := getK_det q _ h
        obtain ⟨tc, g, qn, xs, l, m, rfl, hnc, e1, e2, b1, b2, b3, h3, hf⟩ := viewF_inv h1
        refine ⟨_, h3, fun X k => ?_⟩
        simp only [slcK, viewK, he, hn]
        exact (hd X _).trans (hf X k)
      · cases h
    · cases h
  · rename_i hx
    obtain ⟨y, h1, hd, _⟩ := sliceK_ok h
    refine ⟨y, h1, fun X k => ?_⟩
    simp only [slcK]
    exact hd X k
theorem appK_det {t : TypeId} {x y : A} {k : S -> Option X} (h : appK P N σ d t x y k = some r) : ∃ τ, k τ = some r /\ Det (fun X k => appK (X := X) P N σ d t x y k) τ := by
  unfold appK at h
  split at h
  · rename_i e tc hei
    cases hc : (Nat.beq (full tc) 0 && (zeroOf P e).any (fun z => Nat.beq z.cells.size (csz tc))) with
    | false => rw [hc] at h; cases h
    | true =>
      rw [hc, cond_true] at h
      obtain ⟨yv, h2, hd⟩ := yvK_det h
      clear h
      split at h2
      · cases h2
      · rename_i l2 hl2
        split at h2
        · cases hL : okLen l2.length with
          | false => rw [hL] at h2; cases h2
          | true =>
            rw [hL, cond_true] at h2
            obtain ⟨h3, h4⟩ := newK_det h2
            exact ⟨_, h3, fun X k => by
              simp only [appK, hei, hc, cond_true]
              exact (hd.at_ _).trans (by simp only [hl2, hL, cond_true]; exact h4 X k)⟩
        · rename_i rr
          split at h2
          · rename_i t' o q l hm
            split at h2
            · rename_i htt
              cases hL : (Nat.blt d N && (Nat.blt rr N || Nat.ble 60000 rr) && okLen (l.length + l2.length)) with
              | false => rw [hL] at h2; cases h2
              | true =>
                rw [hL, cond_true] at h2
                exact ⟨_, h2, fun X k => by
                  simp only [appK, hei, hc, cond_true]
                  exact (hd.at_ _).trans (by simp only [hl2, hm, dif_pos htt, hL, cond_true])⟩
            · cases h2
          · cases h2
        · cases h2
  · cases h
theorem putM_det : ∀ (q : List Nat) (y : V) (k : (Nat -> Option Root) -> Option X), putM m q y k = some r -> ∃ m', k m' = some r /\ Det (fun X k => putM (X := X) m q y k) m'
  | [], _, _, h => by simp [putM] at h
  | [x], y, k, h => by
    simp only [putM] at h
    split at h
    · rename_i y0 hy; exact ⟨_, h, fun X k => by simp only [putM, hy]⟩
    · cases h
  | [_, _], _, _, h => by simp [putM] at h
  | j :: i :: s :: q, y, k, h => by
    simp only [putM] at h
    obtain ⟨z, h2, _, hd⟩ := getK_det q _ h
    clear h
    split at h2
    · split at h2
      · rename_i hs
        split at h2
        · rename_i hi
          split at h2
          · rename_i hj
            split at h2
            · rename_i e he
              obtain ⟨m', h3, h4⟩ := putM_det q _ k h2
              exact ⟨m', h3, fun X k => by
                simp only [putM]
                exact (hd.at_ _).trans (by simp only [if_pos hs, dif_pos hi, if_pos hj, he]; exact h4 X k)⟩
            · cases h2
          · cases h2
        · cases h2
      · cases h2
    · cases h2
theorem storeK_det {t : TypeId} {x y : A} {k : S -> Option X} (h : storeK P σ t x y k = some r) : ∃ τ, k τ = some r /\ Det (fun X k => storeK (X := X) P σ t x y k) τ := by
  unfold storeK at h
  split at h
  · rename_i n xs hn hxs
    split at h
    · rename_i hlen
      split at h
      · rename_i r' j
        split at h
        · rename_i cs hcs
          split at h
          · rename_i hj
            cases hl : xs.all Lf.live with
            | false => rw [hl] at h; cases h
            | true => rw [hl] at h; exact ⟨_, h, fun X k => by simp only [storeK, hn, hxs, if_pos hlen, hcs, if_pos hj, hl, cond_true]⟩
          · cases h
        · cases h
      · rename_i j i s q
        split at h
        · cases h
        · rename_i vs hvs
          obtain ⟨y0, h2, hg0, hd⟩ := getK_det _ _ h
          clear h
          split at h2
          · rename_i t' o' qn l
            split at h2
            · rename_i hs
              split at h2
              · rename_i hi
                split at h2
                · rename_i hj
                  cases hold : (((enc t' o' l[i]).drop j).take vs.length).all V.plain with
                  | false => rw [hold] at h2; cases h2
                  | true =>
                    rw [hold, cond_true] at h2
                    split at h2
                    · rename_i e he
                      obtain ⟨m', h3, h4⟩ := putM_det q _ _ h2
                      exact ⟨_, h3, fun X k => by
                        simp only [storeK, hn, hxs, if_pos hlen, hvs]
                        exact (hd.at_ _).trans (by simp only [if_pos hs, dif_pos hi, if_pos hj, hold, cond_true, he]; exact h4.at_ _)⟩
                    · cases h2
                · cases h2
              · cases h2
            · cases h2
          · cases h2
      · cases h
    · cases h
  · cases h
theorem lvK_det : ∀ (xs : List Lf) (k : List V -> Option X), lvK σ xs k = some r -> ∃ vs, k vs = some r /\ Det (fun X k => lvK (X := X) σ xs k) vs
  | [], k, h => ⟨[], h, fun X k => rfl⟩
  | x :: xs, k, h => by
    unfold lvK at h
    obtain ⟨y, h2, hd⟩ := lfK_det h
    obtain ⟨ys, h3, hd2⟩ := lvK_det xs _ h2
    exact ⟨_, h3, fun X k => by
      simp only [lvK]
      exact (hd.at_ _).trans (hd2.at_ _)⟩
theorem argK_det {x : A} {k : Pt -> Option X} (h : argK σ x k = some r) : ∃ p, k p = some r /\ Det (fun X k => argK (X := X) σ x k) p := by
  unfold argK at h
  split at h
  · obtain ⟨vs, h2, hd⟩ := lvK_det _ _ h; exact ⟨_, h2, fun X k => by simp only [argK]; exact hd.at_ _⟩
  · obtain ⟨vs, h2, hd⟩ := lvK_det _ _ h; exact ⟨_, h2, fun X k => by simp only [argK]; exact hd.at_ _⟩
  · obtain ⟨y, h2, hd⟩ := viewV_det h; exact ⟨_, h2, fun X k => by simp only [argK]; exact hd.at_ _⟩
  · cases h
theorem argsK_det : ∀ (xs : List Operand) (k : List Pt -> Option X), argsK σ xs k = some r -> ∃ ps, k ps = some r /\ Det (fun X k => argsK (X := X) σ xs k) ps
  | [], k, h => ⟨[], h, fun X k => rfl⟩
  | x :: xs, k, h => by
    unfold argsK at h
    obtain ⟨p, h2, hd⟩ := argK_det h
    obtain ⟨ps, h3, hd2⟩ := argsK_det xs _ h2
    exact ⟨_, h3, fun X k => by
      simp only [argsK]
      exact (hd.at_ _).trans (hd2.at_ _)⟩
theorem argQK_det {x : A} {k : Pt -> Option X} (h : argQK σ x k = some r) : ∃ p, k p = some r /\ Det (fun X k => argQK (X := X) σ x k) p := by
  unfold argQK at h
  split at h
  · exact ⟨_, h, fun X k => rfl⟩
  · exact ⟨_, h, fun X k => rfl⟩
  · split at h
    · rename_i cs hm
      obtain ⟨vs, h2, hd⟩ := lvK_det _ _ h
      split at h2
      · exact ⟨_, h2, fun X k => by simp only [argQK, hm]; exact hd.at_ _⟩
      · cases h2
    · cases h
  · split at h
    · rename_i cs hm
      obtain ⟨vs, h2, hd⟩ := lvK_det _ _ h
      split at h2
      · exact ⟨_, h2, fun X k => by simp only [argQK, hm]; exact hd.at_ _⟩
      · cases h2
    · cases h
  · rename_i y h1 h2 h3 h4
    obtain ⟨p, h5, hd⟩ := argK_det h
    exact ⟨p, h5, fun X k => by
      unfold argQK
      split
      · exact absurd rfl (h1 _ _)
      · exact absurd rfl (h2 _ _ _)
      · exact absurd rfl (h3 _ _)
      · exact absurd rfl (h4 _ _ _)
      · exact hd.at_ _⟩
theorem argsQK_det : ∀ (xs : List Operand) (k : List Pt -> Option X), argsQK σ xs k = some r -> ∃ ps, k ps = some r /\ Det (fun X k => argsQK (X := X) σ xs k) ps
  | [], k, h => ⟨[], h, fun X k => rfl⟩
  | x :: xs, k, h => by
    unfold argsQK at h
    obtain ⟨p, h2, hd⟩ := argQK_det h
    obtain ⟨ps, h3, hd2⟩ := argsQK_det xs _ h2
    exact ⟨_, h3, fun X k => by
      simp only [argsQK]
      exact (hd.at_ _).trans (hd2.at_ _)⟩
theorem callQK_det {f : Nat} {c : Ctr} {args : List Operand} {k : S -> Option X} (hc : CtrOK P f c) (h : callQK N σ d c args k = some r) : ∃ τ, k τ = some r /\ Det (fun X k => callQK (X := X) N σ d c args k) τ := by
  unfold callQK at h
  cases hN : Nat.blt d N with
  | false => rw [hN] at h; cases h
  | true =>
    rw [hN, cond_true] at h
    obtain ⟨ps, h2, hd⟩ := argsQK_det _ _ h
    obtain ⟨res, h3, hd2, _⟩ := hc X ps _ r h2
    cases res with
    | one p =>
      simp only at h3
      split at h3
      · rename_i y hy
        refine ⟨_, h3, fun X k => ?_⟩
        simp only [callQK, hN, cond_true]
        refine (hd.at_ _).trans ((hd2 X _).trans ?_)
        simp only [hy]
      · cases h3
    | tup ps' =>
      refine ⟨_, h3, fun X k => ?_⟩
      simp only [callQK, hN, cond_true]
      exact (hd.at_ _).trans (hd2 X _)
def callS (d : Nat) (res : Res) (σ : S) : Option S := match res with
  | .one p => match partA (p.1, resLf (1000000000100000 + 1000 * d) p.2) with
    | some y => some ((resRt (1000000000100000 + 1000 * d) σ p.2).set d y)
    | none => none
  | .tup ps => some ((resRs (1000000000100000 + 1000 * d) σ ps).set d (.tup (resLs (1000000000100000 + 1000 * d) ps)))
theorem callK_det {f : Nat} {c : Ctr} {args : List Operand} {k : S -> Option X} (hc : CtrOK P f c) (h : callK N σ d c args k = some r) : ∃ res τ, callS d res σ = some τ /\ k τ = some r /\
    (∀ σ' τ', (∀ (X : Type) (k : List Pt -> Option X), argsK σ' args k = argsK σ args k) -> callS d res σ' = some τ' -> Det (fun X k => callK (X := X) N σ' d c args k) τ') := by
  unfold callK at h
  cases hN : Nat.blt d N with
  | false => rw [hN] at h; cases h
  | true =>
    rw [hN, cond_true] at h
    obtain ⟨ps, h2, hd⟩ := argsK_det _ _ h
    obtain ⟨res, h3, hd2, _⟩ := hc X ps _ r h2
    have step : ∀ σ' τ', (∀ (X : Type) (k : List Pt -> Option X), argsK σ' args k = argsK σ args k) -> callS d res σ' = some τ' -> Det (fun X k => callK (X := X) N σ' d c args k) τ' := by
      intro σ' τ' ha hτ X k
      simp only [callK, hN, cond_true]
      rw [ha]
      refine (hd.at_ _).trans ((hd2 X _).trans ?_)
      unfold callS at hτ
      cases res with
      | one p =>
        simp only at hτ ⊢
        split at hτ
        · rename_i y hy
          injection hτ with hτ
          subst hτ
          simp only [hy]
        · cases hτ
      | tup ps' =>
        injection hτ with hτ
        subst hτ
        rfl
    cases res with
    | one p =>
      simp only at h3
      split at h3
      · rename_i y hy
        exact ⟨.one p, _, by simp only [callS, hy], h3, step⟩
      · cases h3
    | tup ps' => exact ⟨.tup ps', _, rfl, h3, step⟩
/-! Keys that do not end in certain names. -/
def keyNr (p : Nat -> Bool) (k : List Nat) : Bool := match k.getLast? with
  | some r => !p r
  | none => true
def Lf.nr (p : Nat -> Bool) : Lf -> Bool
  | .own k => keyNr p k
  | _ => true
def A.nr (p : Nat -> Bool) : A -> Bool
  | .lf x => x.nr p
  | .agg cs => cs.all (Lf.nr p)
  | .tup xs => xs.all fun q => q.2.all (Lf.nr p)
  | .ptr k => keyNr p k
  | .bptr r _ => !p r
  | .pk r _ => !p r
  | .view k _ _ _ => keyNr p k
  | .fn _ cap => cap.all fun q => !p q.1
  | _ => true
theorem keyNr_last {p : Nat -> Bool} {k : List Nat} {n : Nat} (h : keyNr p k = true) (hn : p n = true) : lastIs n k = false := by
  unfold keyNr at h
  unfold lastIs
  split at h
  · rename_i r hr
    rw [hr]
    have : r ≠ n := by rintro rfl; simp [hn] at h
    simpa using this
  · rename_i hr; rw [hr]; rfl
theorem Lf.nr_drop {p : Nat -> Bool} {x : Lf} {n : Nat} (h : x.nr p = true) (hn : p n = true) : x.drop n = x := by
  cases x with
  | own k =>
    have e : Lf.drop n (.own k) = (bif lastIs n k then .dead else .own k) := rfl
    rw [e, keyNr_last h hn]
    rfl
  | v x => rfl
  | dead => rfl
theorem Lfs.nr_drop {p : Nat -> Bool} {xs : List Lf} {n : Nat} (h : xs.all (Lf.nr p) = true) (hn : p n = true) : xs.map (Lf.drop n) = xs := by
  conv => rhs; rw [<- List.map_id xs]
  exact List.map_congr_left fun x hx => Lf.nr_drop (List.all_eq_true.1 h x hx) hn
theorem A.nr_drop {p : Nat -> Bool} {x : A} {n : Nat} (h : x.nr p = true) (hn : p n = true) : x.drop n = x := by
  cases x with
  | lf x => exact congrArg A.lf (Lf.nr_drop h hn)
  | agg cs => exact congrArg A.agg (Lfs.nr_drop h hn)
  | tup xs =>
    refine congrArg A.tup ?_
    conv => rhs; rw [<- List.map_id xs]
    refine List.map_congr_left fun q hq => ?_
    have := Lfs.nr_drop (List.all_eq_true.1 h q hq) hn
    simp only [id]
    rw [this]
  | ptr k =>
    have e : A.drop n (.ptr k) = (bif lastIs n k then .undef else .ptr k) := rfl
    rw [e, keyNr_last h hn]; rfl
  | view k s i j =>
    have e : A.drop n (.view k s i j) = (bif lastIs n k then .undef else .view k s i j) := rfl
    rw [e, keyNr_last h hn]; rfl
  | pk r j =>
    have e : A.drop n (.pk r j) = (bif Nat.beq r n then .undef else .pk r j) := rfl
    have : Nat.beq r n = false := by
      cases hb : Nat.beq r n with
      | false => rfl
      | true =>
        obtain rfl := Nat.eq_of_beq_eq_true hb
        have h : (!p r) = true := h
        rw [hn] at h; cases h
    rw [e, this]; rfl
  | bptr r j =>
    have e : A.drop n (.bptr r j) = (bif Nat.beq r n then .undef else .bptr r j) := rfl
    have : Nat.beq r n = false := by
      cases hb : Nat.beq r n with
      | false => rfl
      | true =>
        obtain rfl := Nat.eq_of_beq_eq_true hb
        have h : (!p r) = true := h
        rw [hn] at h; cases h
    rw [e, this]; rfl
  | fn f cap =>
    have e : A.drop n (.fn f cap) = (bif cap.any (fun p => Nat.beq p.1 n) then .undef else .fn f cap) := rfl
    have : cap.any (fun p => Nat.beq p.1 n) = false := by
      rw [List.any_eq_false]
      intro q hq hb
      obtain hb := Nat.eq_of_beq_eq_true hb
      have := List.all_eq_true.1 h q hq
      rw [hb, hn] at this; cases this
    rw [e, this]; rfl
  | _ => rfl
theorem S.ext' {σ τ : S} (h1 : ∀ k, σ.t k = τ.t k) (h2 : ∀ r, σ.m r = τ.m r) : σ = τ := by
  cases σ; cases τ
  simp only [S.mk.injEq]
  exact ⟨funext h1, funext h2⟩
theorem S.set_set {e d : Nat} (h : e ≠ d) (v u : A) : (σ.set d v).set e u = (σ.set e u).set d v := by
  refine S.ext' (fun k => ?_) fun _ => rfl
  show upd (upd σ.t d v) e u k = upd (upd σ.t e u) d v k
  by_cases h1 : k = e
  · subst h1; rw [upd_same, upd_ne _ _ _ h, upd_same]
  · by_cases h2 : k = d
    · subst h2; rw [upd_ne _ _ _ h1, upd_same, upd_same]
    · rw [upd_ne _ _ _ h1, upd_ne _ _ _ h2, upd_ne _ _ _ h2, upd_ne _ _ _ h1]
theorem S.drop_set (n : Nat) {v : A} (hv : v.drop n = v) : (σ.set d v).drop n = (σ.drop n).set d v := by
  refine S.ext' (fun k => ?_) fun _ => rfl
  show (upd σ.t d v k).drop n = upd (fun k => (σ.t k).drop n) d v k
  by_cases h : k = d
  · subst h; rw [upd_same, upd_same, hv]
  · rw [upd_ne _ _ _ h, upd_ne _ _ _ h]
theorem resRt_set (v : A) : ∀ (xs : List V) (c : Nat) (σ : S), (∀ n, c <= n -> v.drop n = v) -> resRt c (σ.set d v) xs = (resRt c σ xs).set d v
  | [], c, σ, h => rfl
  | x :: xs, c, σ, h => by
    simp only [resRt]
    cases hf : x.fro with
    | true =>
      simp only [cond_true]
      exact resRt_set v xs (c + 1) σ (fun n hn => h n (by omega))
    | false =>
      simp only [cond_false]
      rw [S.drop_set c (h c (Nat.le_refl _))]
      exact resRt_set v xs (c + 1) ((σ.drop c).root c (.sl x)) (fun n hn => h n (by omega))
theorem resRs_set (v : A) : ∀ (ps : List Pt) (c : Nat) (σ : S), (∀ n, c <= n -> v.drop n = v) -> resRs c (σ.set d v) ps = (resRs c σ ps).set d v
  | [], c, σ, h => rfl
  | p :: ps, c, σ, h => by
    simp only [resRs]
    rw [resRt_set v p.2 c σ h]
    exact resRs_set v ps _ _ (fun n hn => h n (by omega))
end
end Go.Proofs.YtckjagaogcbedaaGreat
namespace Go.Proofs.YtckjagaogcbedaaGreat
open Go.RowKit
set_option linter.unusedVariables false
def boxK {X : Type} (N : Nat) (σ : S) (d : Nat) (x : A) (k : S -> Option X) : Option X :=
  match x.lfs with
  | some xs => bif xs.all Lf.live then newK N σ d (.blk (xs.map (Lf.drop d))) (.bptr d 0) k else none
  | none => none
def nilK {X : Type} (x : A) (k : A -> Option X) : Option X :=
  match x with
  | .bptr r j => k (.bptr r j)
  | .ptr q => k (.ptr q)
  | _ => none
section
variable {P : Program} {w w' : World} {w0 : Wd} {B N : Nat} {lab lab' : Lab} {ρ ρ' : Nat -> Loc} {σ : S} {a : Act} {X : Type} {d : Nat} {r : X} {o : Oper}
theorem boxK_ok {e : TypeId} {x : A} {k : S -> Option X} (h : boxK N σ d x k = some r) : ∃ σ', k σ' = some r /\ ∀ lab ρ a w, Rl w0 N lab ρ σ a w -> ∀ u, RA w w0.heap.size lab ρ x u ->
    ∃ w' lab' ρ' v, (Instr.box e u).run P w = .ok v w' /\ Rl w0 N lab' ρ' σ' (a.put (some d) v) w' := by
  unfold boxK at h
  split at h
  · rename_i xs hxs
    cases hlive : xs.all Lf.live with
    | false => rw [hlive] at h; cases h
    | true =>
      rw [hlive, cond_true] at h
      obtain ⟨hd, h⟩ := newK_ok h
      refine ⟨_, h, fun lab ρ a w hR u hu => ?_⟩
      obtain ⟨hl, _⟩ := lfs_ok hxs hlive hu
      have hrun : (Instr.box e u).run P w = .ok (.pointer (some ⟨w.heap.size, 0, none⟩)) (w.alloc (.cells u.cells e)) := by
        simp [Instr.box, newVar, newRow]
      refine ⟨_, upd lab w.heap.size (some [d]), upd ρ d (.blk w.heap.size 0), _, hrun, (hR.newBlk (hR.lim d (.inl hd)) (fun r hr => upd_ne _ _ _ hr) ?_).set ⟨w.heap.size, 0, upd_same _ _ _, rfl⟩ hd⟩
      have h1 : RLs (w.alloc (.cells u.cells e)) w0.heap.size (upd lab w.heap.size (some [d])) ρ xs u.cells :=
        hl.keep (by simp) (fun b hb => ⟨Below.heap_alloc w _ b hb, upd_ne _ _ _ (by omega)⟩) (fun b k hb => (hR.lab_ge b k hb).2.1)
      have h2 := h1.rho (ρ' := upd ρ d (.blk w.heap.size 0)) (d := d) (fun r hr => upd_ne _ _ _ hr)
      refine .blk w.heap.size 0 u.cells e _ (fun j => u.cells.getD j undef) (upd_same _ _ _) (upd_same _ _ _) (heap_alloc_new w _) (by rw [h2.1]; omega) fun j y hy => ?_
      obtain ⟨v, hv, hr⟩ := h2.2 j y hy
      have hg : u.cells.getD j undef = v := by rw [Array.getD_eq_getD_getElem?, hv]; rfl
      rw [hg, Nat.zero_add]
      exact ⟨hv, hr⟩
  · cases h
theorem boxK_det {x : A} {k : S -> Option X} (h : boxK N σ d x k = some r) : ∃ y u, k (((σ.drop d).root d y).set d u) = some r /\ (∀ (σ' : S), Det (fun X k => boxK (X := X) N σ' d x k) (((σ'.drop d).root d y).set d u)) := by
  unfold boxK at h
  split at h
  · rename_i xs hxs
    cases hlive : xs.all Lf.live with
    | false => rw [hlive] at h; cases h
    | true =>
      rw [hlive, cond_true] at h
      obtain ⟨h1, _⟩ := newK_det h
      refine ⟨_, _, h1, fun σ' X k => ?_⟩
      obtain ⟨hN, _⟩ := newK_ok h
      have hb : Nat.blt d N = true := Nat.ble_eq_true_of_le hN
      simp only [boxK, hxs, hlive, newK, hb, cond_true]
  · cases h
theorem nilK_ok {x : A} {k : A -> Option X} (h : nilK x k = some r) : k x = some r /\ Det (fun X k => nilK (X := X) x k) x /\ ∀ u, RA w B lab ρ x u -> ∃ ad, u = .pointer (some ad) := by
  unfold nilK at h
  split at h
  · exact ⟨h, fun X k => rfl, fun u hu => by obtain ⟨b, off, _, rfl⟩ := hu; exact ⟨_, rfl⟩⟩
  · exact ⟨h, fun X k => rfl, fun u hu => by obtain ⟨ad, rfl, _⟩ := hu; exact ⟨_, rfl⟩⟩
  · cases h
end
end Go.Proofs.YtckjagaogcbedaaGreat
namespace Go.Proofs.YtckjagaogcbedaaGreat
open Go.RowKit
set_option linter.unusedVariables false
def nestT (t : TypeId) : Bool := [999999, 999999, 999999, 48, 999999, 55, 999999, 999999, 999999, 999999, 999999, 999999, 999999, 999999, 999999, 999999, 999999, 999999, 999999, 999999, 999999, 999999, 999999, 999999].any (Nat.beq t)
def pkK {X : Type} (P : Program) (N : Nat) (σ : S) (d : Nat) (t : TypeId) (len : Nat) (parts : List (Nat × Operand)) (k : S -> Option X) : Option X :=
  match elemInfo P t with
  | some (e, tc) => match zeroOf P e with
    | some z => bif Nat.beq z.cells.size (csz tc) && Nat.blt (len * csz tc) 16777217 then (match fillA (fun i => some (i * csz tc, csz tc)) (List.replicate len (z.cells.toList.map zeroLf)).flatten (parts.map fun p => (p.1, opd σ p.2)) with
      | some cs => bif Nat.beq len 0 then newK N σ d (.sl (.sl tc (full tc + 2) true [])) (.lf (.own [d])) k else newK N σ d (.blk (cs.map (Lf.drop d))) (.pk d len) k
      | none => none) else none
    | none => none
  | none => none
def appN2 {X : Type} (N : Nat) (σ : S) (d r ry : Nat) (tc : TC) (n : Nat) (k : S -> Option X) : Option X :=
  match σ.m ry, σ.m r with
  | some (.blk cs), some (.sl (.sl t' (o + 2) q l)) => if h : t' = tc then (match absorb r (fun j => (j % csz tc) :: (l.length + j / csz tc) :: csz tc :: [r]) cs.length 0 cs σ with
    | some (vs, τ) => (match cutE tc o n vs with
      | some l2 => bif Nat.blt d N && okLen (l.length + l2.length) then k (((τ.drop r).root r (.sl (.sl tc (o + 2) false ((h ▸ l) ++ l2)))).set d (.lf (.own [r]))) else none
      | none => none)
    | none => none) else none
  | _, _ => none
def appNK {X : Type} (P : Program) (N : Nat) (σ : S) (d : Nat) (t : TypeId) (x y : A) (k : S -> Option X) : Option X :=
  match elemInfo P t, y with
  | some (e, tc), .pk ry n => bif (zeroOf P e).any (fun z => Nat.beq z.cells.size (csz tc)) && (Nat.blt d N && Nat.blt n mapN) then (match x with
    | .lf (.v .nil) => appN2 N ((σ.drop d).root d (.sl (.sl tc (full tc + 2) false []))) d d ry tc n k
    | .lf (.own [r]) => bif Nat.blt r N || Nat.ble 60000 r then appN2 N σ d r ry tc n k else none
    | _ => none) else none
  | _, _ => none
def storeNK {X : Type} (P : Program) (σ : S) (t : TypeId) (x y : A) (k : S -> Option X) : Option X :=
  match szOf P t, y.lfs, x with
  | some n, some xs, .ptr [j, i, s, r] => if xs.length = n then (bif xs.all Lf.live then (match absorb r (fun m => (j + m) :: i :: s :: [r]) xs.length 0 xs σ with
    | some (vs, τ) => (match τ.m r with
      | some (.sl (.sl t' (o + 2) qn l)) => if s = csz t' then (if h : i < l.length then (if j + n <= csz t' then (match dec t' o (splice (enc t' o l[i]) j vs) with
        | some e => k (τ.lose [r] [] [(r, .sl (.sl t' (o + 2) qn (l.set i e)))])
        | none => none) else none) else none) else none
      | _ => none)
    | none => none) else none) else none
  | _, _, _ => none
def gives (x y : A) : Bool := match x, y.lfs with
  | .ptr _, some xs => (plains xs).isNone
  | _, _ => false
section
variable {P : Program} {w w' : World} {w0 : Wd} {B N : Nat} {lab lab' : Lab} {ρ ρ' : Nat -> Loc} {σ : S} {a : Act} {X : Type} {d : Nat} {r : X} {o : Oper}
theorem fillA_len {place : Nat -> Option (Nat × Nat)} : ∀ (parts : List (Nat × A)) (cells out : List Lf), fillA place cells parts = some out -> out.length = cells.length
  | [], cells, out, h => by injection h with h; rw [h]
  | (i, x) :: rest, cells, out, h => by
    unfold fillA at h
    split at h
    · rename_i off n xs hp hx
      split at h
      · rename_i hc
        cases hl : xs.all Lf.live with
        | true =>
          rw [hl, cond_true] at h
          rw [fillA_len rest _ _ h, splice_length _ _ _ (by omega)]
        | false => rw [hl] at h; cases h
      · cases h
    · cases h
theorem pkK_ok {t : TypeId} {len : Nat} {parts : Array (Nat × Operand)} {k : S -> Option X} (h : pkK P N σ d t len parts.toList k = some r) : ∃ σ', k σ' = some r /\ ∀ lab ρ a w, Rl w0 N lab ρ σ a w ->
    ∃ w' lab' ρ' v, (Instr.buildSlice t len (parts.map fun (i, x) => (i, a.eval x))).run P w = .ok v w' /\ Rl w0 N lab' ρ' σ' (a.put (some d) v) w' := by
  unfold pkK at h
  split at h
  · rename_i e tc hei
    obtain ⟨hut, ht, i, hi, hsz, hby⟩ := elemInfo_ok hei
    split at h
    · rename_i z hz
      cases hc : (Nat.beq z.cells.size (csz tc) && Nat.blt (len * csz tc) 16777217) with
      | false => rw [hc] at h; cases h
      | true =>
        rw [hc, cond_true] at h
        rw [Bool.and_eq_true] at hc
        have hzs := Nat.eq_of_beq_eq_true hc.1
        have hsm : len * csz tc < 16777217 := by have := Nat.le_of_ble_eq_true hc.2; omega
        have hzi : i.zero = some z := by unfold zeroOf at hz; simpa [hi] using hz
        split at h
        · rename_i cs hcs
          have key : ∀ lab ρ (a : Act) w, Rl w0 N lab ρ σ a w -> ∃ cv', (Instr.buildSlice t len (parts.map fun (i, x) => (i, a.eval x))).run P w = .ok (.slice (some ⟨w.heap.size, 0, none⟩) len len) (w.alloc (.cells cv' e)) /\ RLs w w0.heap.size lab ρ cs cv' /\ cv'.size = cs.length := fun lab ρ a w hR => by
            have hinit : RLs w w0.heap.size lab ρ (List.replicate len (z.cells.toList.map zeroLf)).flatten (madeCells z.cells (len * csz tc)) := by
              have e1 : (List.replicate len (z.cells.toList.map zeroLf)).flatten = ((List.replicate len z.cells.toList).flatten).map zeroLf := by
                rw [List.map_flatten, List.map_replicate]
              rw [e1, <- made_fl z.cells (csz tc) len hzs (csz_pos tc)]
              refine ⟨by simp, fun j x hx => ?_⟩
              rw [List.getElem?_map] at hx
              cases hv : (madeCells z.cells (len * csz tc)).toList[j]? with
              | none => rw [hv] at hx; cases hx
              | some v =>
                rw [hv] at hx
                injection hx with hx
                subst hx
                exact ⟨v, by simpa using hv, zeroLf_ok v⟩
            obtain ⟨cv', hfill, hl⟩ := fillA_ok (w := w) (B := w0.heap.size) (lab := lab) (ρ := ρ) _ _ _ (parts.toList.map fun p => (p.1, a.eval p.2)) cs hcs hinit (by simp) (fun j p q hp hq => by
              rw [List.getElem?_map] at hp hq
              cases hx : parts.toList[j]? with
              | none => rw [hx] at hp; cases hp
              | some x =>
                rw [hx] at hp hq
                injection hp with hp
                injection hq with hq
                subst hp hq
                exact ⟨rfl, hR.opd x.2⟩)
            have hrun : (Instr.buildSlice t len (parts.map fun (i, x) => (i, a.eval x))).run P w = .ok (.slice (some ⟨w.heap.size, 0, none⟩) len len) (w.alloc (.cells cv' e)) := by
              have hparts : (parts.map fun (i, x) => (i, a.eval x)).toList = parts.toList.map fun p => (p.1, a.eval p.2) := by simp
              by_cases h0 : len * csz tc = 0
              · have hm : madeCells z.cells (len * csz tc) = #[] := by rw [h0]; simp [madeCells]
                rw [hm] at hfill
                have h00 : len * i.size = 0 := by rw [hsz]; exact h0
                rw [<- hsz] at hfill
                have e0 : ∀ f : Nat -> Value, Array.map f (Array.range 0) = #[] := fun f => by simp
                simp only [Instr.buildSlice, Sem.run_bind, run_underlying hut, Result.andThen_ok, sizeOf, typeInfo]
                simp [hi, h00]
                rw [e0, hfill]
                simp [newRow]
              · exact run_buildSlice (P := P) w t e len _ cv' i z hut hi hzi (by rw [hsz]; omega) (by rw [hsz]; exact h0) (by rw [hsz, hparts]; exact hfill)
            exact ⟨cv', hrun, hl, hl.1⟩
          cases hl0 : Nat.beq len 0 with
          | true =>
            rw [hl0, cond_true] at h
            have hln := Nat.eq_of_beq_eq_true hl0
            subst hln
            obtain ⟨hd, h⟩ := newK_ok h
            refine ⟨_, h, fun lab ρ a w hR => ?_⟩
            obtain ⟨cv', hrun, hl, hcz⟩ := key lab ρ a w hR
            have hc0 : cs.length = 0 := by
              have h1 := fillA_len _ _ _ hcs
              rw [h1]
              simp
            refine ⟨_, upd lab w.heap.size (some [d]), upd ρ d (.hdr (.slice (some ⟨w.heap.size, 0, none⟩) 0 0)), _, hrun, (hR.newBlk (hR.lim d (.inl hd)) (fun r hr => upd_ne _ _ _ hr) (.sl _ _ (upd_same _ _ _) ?_)).set ⟨rfl, by simp [valAt, upd_same]⟩ hd⟩
            exact RV.own (w := w.alloc (.cells cv' e)) (B := w0.heap.size) (lab := upd lab w.heap.size (some [d])) [d] tc (full tc) true [] w.heap.size 0 cv' (fun _ _ => undef)
              (upd_same _ _ _) (by rw [ht]; exact heap_alloc_new w _) (by omega) (Nat.le_refl _) ⟨by unfold maxLen; omega, fun _ => rfl⟩ (fun i' h' => absurd h' (by simp)) (fun i' h' => absurd h' (by simp))
          | false =>
          rw [hl0, cond_false] at h
          obtain ⟨hd, h⟩ := newK_ok h
          refine ⟨_, h, fun lab ρ a w hR => ?_⟩
          obtain ⟨cv', hrun, hl, _⟩ := key lab ρ a w hR
          refine ⟨_, upd lab w.heap.size (some [d]), upd ρ d (.blk w.heap.size 0), _, hrun, (hR.newBlk (hR.lim d (.inl hd)) (fun r hr => upd_ne _ _ _ hr) ?_).set ⟨w.heap.size, upd_same _ _ _, (pkV_sl (by have := Nat.le_mul_of_pos_right len (csz_pos tc); unfold mapN; omega)).symm⟩ hd⟩
          have h1 : RLs (w.alloc (.cells cv' e)) w0.heap.size (upd lab w.heap.size (some [d])) ρ cs cv' :=
            hl.keep (by simp) (fun b hb => ⟨Below.heap_alloc w _ b hb, upd_ne _ _ _ (by omega)⟩) (fun b k hb => (hR.lab_ge b k hb).2.1)
          have h2 := h1.rho (ρ' := upd ρ d (.blk w.heap.size 0)) (d := d) (fun r hr => upd_ne _ _ _ hr)
          refine .blk w.heap.size 0 cv' e _ (fun j => cv'.getD j undef) (upd_same _ _ _) (upd_same _ _ _) (heap_alloc_new w _) (by rw [h2.1]; omega) fun j y hy => ?_
          obtain ⟨v, hv, hr⟩ := h2.2 j y hy
          have hg : cv'.getD j undef = v := by rw [Array.getD_eq_getD_getElem?, hv]; rfl
          rw [hg, Nat.zero_add]
          exact ⟨hv, hr⟩
        · cases h
    · cases h
  · cases h
theorem pkK_det {t : TypeId} {len : Nat} {parts : List (Nat × Operand)} {k : S -> Option X} (h : pkK P N σ d t len parts k = some r) : ∃ y u, k (((σ.drop d).root d y).set d u) = some r /\
    (∀ (σ' : S), (∀ p ∈ parts, opd σ' p.2 = opd σ p.2) -> Det (fun X k => pkK (X := X) P N σ' d t len parts k) (((σ'.drop d).root d y).set d u)) := by
  unfold pkK at h
  split at h
  · rename_i e tc hei
    split at h
    · rename_i z hz
      cases hc : (Nat.beq z.cells.size (csz tc) && Nat.blt (len * csz tc) 16777217) with
      | false => rw [hc] at h; cases h
      | true =>
        rw [hc, cond_true] at h
        split at h
        · rename_i cs hcs
          cases hl0 : Nat.beq len 0 with
          | true =>
            rw [hl0, cond_true] at h
            obtain ⟨h1, _⟩ := newK_det h
            refine ⟨_, _, h1, fun σ' hσ X k => ?_⟩
            obtain ⟨hN, _⟩ := newK_ok h
            have hb2 : Nat.blt d N = true := Nat.ble_eq_true_of_le hN
            have e : (parts.map fun p => (p.1, opd σ' p.2)) = parts.map fun p => (p.1, opd σ p.2) := List.map_congr_left fun p hp => by rw [hσ p hp]
            simp only [pkK, hei, hz, hc, cond_true, e, hcs, newK, hb2, hl0]
          | false =>
            rw [hl0, cond_false] at h
            obtain ⟨h1, _⟩ := newK_det h
            refine ⟨_, _, h1, fun σ' hσ X k => ?_⟩
            obtain ⟨hN, _⟩ := newK_ok h
            have hb2 : Nat.blt d N = true := Nat.ble_eq_true_of_le hN
            have e : (parts.map fun p => (p.1, opd σ' p.2)) = parts.map fun p => (p.1, opd σ p.2) := List.map_congr_left fun p hp => by rw [hσ p hp]
            simp only [pkK, hei, hz, hc, cond_true, e, hcs, newK, hb2, hl0, cond_false]
        · cases h
    · cases h
  · cases h
theorem appN2_ok {t e ty : TypeId} {tc : TC} {i : TypeInfo} {z : Value} {rr ry n : Nat} {k : S -> Option X} (hut : P.underlying t = some (.slice e)) (ht : tid tc = e) (hi : P.info? e = some i) (hz : i.zero = some z)
    (hsz : i.size = csz tc) (hby : i.bytes <= 65536) (hzs : z.cells.size = csz tc) (h : appN2 N σ d rr ry tc n k = some r) : ∃ σ', k σ' = some r /\ ∀ lab ρ a w, Rl w0 N lab ρ σ a w -> w0.F rr = none -> ∀ u v b, ρ rr = .hdr u -> ρ ry = .blk b 0 -> v = .slice (some ⟨b, 0, none⟩) n n ->
    ∃ w' lab' ρ' z, (Builtin.append_ #[t, t] ty #[u, v]).run P w = .ok z w' /\ Rl w0 N lab' ρ' σ' (a.put (some d) z) w' := by
  unfold appN2 at h
  split at h
  · rename_i cs t' o q l hry hr
    split at h
    · rename_i htt
      subst htt
      split at h
      · rename_i vs τ habs
        split at h
        · rename_i l2 hl2
          cases hL : (Nat.blt d N && okLen (l.length + l2.length)) with
          | false => rw [hL] at h; cases h
          | true =>
            rw [hL, cond_true] at h
            rw [Bool.and_eq_true] at hL
            have hL1 : l.length + l2.length < 1073741824 := by simpa [okLen] using hL.2
            have hd : d < N := by have := Nat.le_of_ble_eq_true hL.1; omega
            refine ⟨_, h, fun lab ρ a w hR hF u v b hρr hρy hv => ?_⟩
            subst hv
            have hy := hR.root ry _ hry
            generalize he : Root.blk cs = x at hy
            cases hy with
            | sl => cases he
            | mp => cases he
            | gh => cases he
            | blk b' off cells e' cs' us hρ hlb hh hs hc =>
              injection he with he
              subst he
              rw [hρy] at hρ
              injection hρ with e1 e2
              subst e1 e2
              have hus : RLs w w0.heap.size lab ρ cs ((List.range cs.length).map us).toArray := by
                refine ⟨by simp, fun j x hx => ?_⟩
                have hj : j < cs.length := (List.getElem?_eq_some_iff.1 hx).1
                exact ⟨us j, by simp [hj], (hc j x hx).2⟩
              obtain ⟨lab', hR', hvl, hvr, _, hrr, hval, _, _⟩ := absorb_ok (w0 := w0) (N := N) (fun j => by simp [lastIs]) _ _ _ _ _ _ habs lab ρ a w hR _ hus
              obtain ⟨hll, hvl2, hel⟩ := cutE_ok t' o n vs l2 hl2
              have hcl : cs.length = n * csz t' := by rw [<- hvl, hvl2]
              have hone : ∀ j, j < cs.length -> (us j).oneCell' = true := by
                intro j hj
                have hx := List.getElem?_eq_getElem (l := vs) (i := j) (by rw [hvl]; exact hj)
                obtain ⟨u', hu', hr'⟩ := hvr j _ hx
                have : u' = us j := by simpa [hj] using hu'.symm
                rw [<- this]
                exact hr'.one
              have hbs : b < w.heap.size := (Array.getElem?_eq_some_iff.1 hh).1
              have hrd : Reads w w.heap.size (csz t') (some ⟨b, 0, none⟩) n ((List.range cs.length).map us) := by
                refine ⟨by simp [hcl], fun hn => ⟨b, 0, rfl, hbs, fun j v hv => ?_⟩⟩
                have hj : j < cs.length := by have := (List.getElem?_eq_some_iff.1 hv).1; simpa using this
                have : v = us j := by simpa [hj] using hv.symm
                subst this
                rw [cell_of_row w b _ cells _ _ hh]
                exact (hc j _ (List.getElem?_eq_getElem hj)).1
              have hb2 : Below' w w0.heap.size lab' rr l.length t' o l2 ((List.range cs.length).map us) := by
                intro i' hi' j x hx
                have hj : j < csz t' := by have := (List.getElem?_eq_some_iff.1 hx).1; rwa [enc_length] at this
                obtain ⟨y, hy, hw⟩ := hel i' hi' j x hx
                obtain ⟨u', hu', hr'⟩ := hvr _ _ hy
                refine ⟨u', hu', ?_⟩
                have e1 : (0 + (i' * csz t' + j)) % csz t' = j := by rw [Nat.zero_add, Nat.add_comm, Nat.add_mul_mod_self_right, Nat.mod_eq_of_lt hj]
                have e2 : (0 + (i' * csz t' + j)) / csz t' = i' := by rw [Nat.zero_add, Nat.add_comm, Nat.add_mul_div_right _ _ (csz_pos t'), Nat.div_eq_of_lt hj, Nat.zero_add]
                simp only [e1, e2] at hr'
                exact hr'.wk hw
              have hroot := hR'.root rr _ (hrr _ hr)
              generalize he : Root.sl (.sl t' (o + 2) q l) = x at hroot
              cases hroot with
              | blk => cases he
              | mp => cases he
              | gh => cases he
              | sl uu y hρ' hr' =>
                injection he with he
                subst he
                rw [hρr] at hρ'
                injection hρ' with hρ'
                subst hρ'
                obtain ⟨v', w', lab2, hrun, hR2, hsl⟩ := hR'.appendN (ty := ty) (c := n) hF hut ht hi hz hsz hby hzs hr' hrd (fun v hv => by
                  obtain ⟨j, hj⟩ := List.mem_iff_getElem?.1 hv
                  have hj2 : j < cs.length := by have := (List.getElem?_eq_some_iff.1 hj).1; simpa using this
                  have : v = us j := by simpa [hj2] using hj.symm
                  rw [this]; exact hone j hj2) hll.symm hb2 hL1
                exact ⟨w', lab2, _, v', hrun, hR2.set ⟨hsl, by simp [valAt, upd_same]⟩ hd⟩
        · cases h
      · cases h
    · cases h
  · cases h
theorem appN2_det {rr ry n : Nat} {tc : TC} {k : S -> Option X} (h : appN2 N σ d rr ry tc n k = some r) : ∃ τ, k τ = some r /\ Det (fun X k => appN2 (X := X) N σ d rr ry tc n k) τ := by
  unfold appN2 at h
  split at h
  · rename_i cs t' o q l hry hr
    split at h
    · rename_i htt
      split at h
      · rename_i vs τ habs
        split at h
        · rename_i l2 hl2
          cases hL : (Nat.blt d N && okLen (l.length + l2.length)) with
          | false => rw [hL] at h; cases h
          | true =>
            rw [hL, cond_true] at h
            exact ⟨_, h, fun X k => by simp only [appN2, hry, hr, dif_pos htt, habs, hl2, hL, cond_true]⟩
        · cases h
      · cases h
    · cases h
  · cases h
theorem appNK_ok {t ty : TypeId} {x y : A} {k : S -> Option X} (h : appNK P N σ d t x y k = some r) : ∃ σ', k σ' = some r /\ ∀ lab ρ a w, Rl w0 N lab ρ σ a w -> ∀ u v, RA w w0.heap.size lab ρ x u -> RA w w0.heap.size lab ρ y v ->
    ∃ w' lab' ρ' z, (Builtin.append_ #[t, t] ty #[u, v]).run P w = .ok z w' /\ Rl w0 N lab' ρ' σ' (a.put (some d) z) w' := by
  unfold appNK at h
  split at h
  · rename_i e tc ry n hei
    obtain ⟨hut, ht, i, hi, hsz, hby⟩ := elemInfo_ok hei
    cases hc : ((zeroOf P e).any (fun z => Nat.beq z.cells.size (csz tc)) && (Nat.blt d N && Nat.blt n mapN)) with
    | false => rw [hc] at h; cases h
    | true =>
      rw [hc, cond_true] at h
      rw [Bool.and_eq_true] at hc
      obtain ⟨z, hz, hzs⟩ := (Option.any_eq_true _ _).1 hc.1
      have hzs := Nat.eq_of_beq_eq_true hzs
      have hzi : i.zero = some z := by unfold zeroOf at hz; simpa [hi] using hz
      have hc2 := hc.2
      rw [Bool.and_eq_true] at hc2
      have hd : d < N := by have := Nat.le_of_ble_eq_true hc2.1; omega
      have hnm : n < mapN := by have := Nat.le_of_ble_eq_true hc2.2; omega
      split at h
      · obtain ⟨σ', h2, hs⟩ := appN2_ok (w0 := w0) (ty := ty) hut ht hi hzi hsz hby hzs h
        refine ⟨σ', h2, fun lab ρ a w hR u v hu hv => ?_⟩
        have hu : u = .slice none 0 0 := by cases hu.2; rfl
        subst hu
        obtain ⟨b, hb, rfl⟩ := hv
        have hry : ry ≠ d := by
          rintro rfl
          unfold appN2 at h
          split at h
          · rename_i h1 h2
            have : (upd (σ.drop ry).m ry (some (Root.sl (.sl tc (full tc + 2) false [])))) ry = _ := h1
            rw [upd_same] at this
            cases this
          · cases h
        have hR0 := hR.new (d := d) (x := .sl (.sl tc (full tc + 2) false [])) (.hdr (.slice none 0 0)) (.sl _ _ (upd_same _ _ _) (.slNil _ _ _)) (hR.lim d (.inl hd))
        exact hs _ _ a w hR0 (hR.lim d (.inl hd)) _ _ b (upd_same _ _ _) ((upd_ne _ _ _ hry).trans hb) (pkV_sl hnm)
      · rename_i rr
        cases hL : (Nat.blt rr N || Nat.ble 60000 rr) with
        | false => rw [hL] at h; cases h
        | true =>
          rw [hL, cond_true] at h
          rw [Bool.or_eq_true] at hL
          have hrr : rr < N \/ 60000 <= rr := hL.imp (fun h => by have := Nat.le_of_ble_eq_true h; omega) (fun h => Nat.le_of_ble_eq_true h)
          obtain ⟨σ', h2, hs⟩ := appN2_ok (w0 := w0) (ty := ty) hut ht hi hzi hsz hby hzs h
          refine ⟨σ', h2, fun lab ρ a w hR u v hu hv => ?_⟩
          obtain ⟨b, hb, rfl⟩ := hv
          have hρ : ρ rr = .hdr u := by
            have h4 := hu.2
            simp only [valAt] at h4
            cases hl : ρ rr with
            | blk b o => rw [hl] at h4; cases h4
            | vals us => rw [hl] at h4; cases h4
            | hdr v => rw [hl] at h4; injection h4 with h4; rw [h4]
          exact hs lab ρ a w hR (hR.lim rr hrr) _ _ b hρ hb (pkV_sl hnm)
      · cases h
  · cases h
theorem appNK_det {t : TypeId} {x y : A} {k : S -> Option X} (h : appNK P N σ d t x y k = some r) : ∃ τ, k τ = some r /\ Det (fun X k => appNK (X := X) P N σ d t x y k) τ := by
  unfold appNK at h
  split at h
  · rename_i e tc ry n hei
    cases hc : ((zeroOf P e).any (fun z => Nat.beq z.cells.size (csz tc)) && (Nat.blt d N && Nat.blt n mapN)) with
    | false => rw [hc] at h; cases h
    | true =>
      rw [hc, cond_true] at h
      split at h
      · obtain ⟨τ, h1, h2⟩ := appN2_det h
        exact ⟨τ, h1, fun X k => by simp only [appNK, hei, hc, cond_true]; exact h2 X k⟩
      · rename_i rr
        cases hL : (Nat.blt rr N || Nat.ble 60000 rr) with
        | false => rw [hL] at h; cases h
        | true =>
          rw [hL, cond_true] at h
          obtain ⟨τ, h1, h2⟩ := appN2_det h
          exact ⟨τ, h1, fun X k => by simp only [appNK, hei, hc, hL, cond_true]; exact h2 X k⟩
      · cases h
  · cases h
theorem storeNK_ok {t : TypeId} {x y : A} {k : S -> Option X} (h : storeNK P σ t x y k = some r) : ∃ σ', k σ' = some r /\ ∀ lab ρ a w, Rl w0 N lab ρ σ a w -> ∀ u v, RA w w0.heap.size lab ρ x u -> RA w w0.heap.size lab ρ y v ->
    ∃ w' lab', (Instr.storeAt t u v).run P w = .ok () w' /\ Rl w0 N lab' ρ σ' a w' := by
  unfold storeNK at h
  split at h
  · rename_i n xs j i s rr hn hxs
    split at h
    · rename_i hlen
      cases hlive : xs.all Lf.live with
      | false => rw [hlive] at h; cases h
      | true =>
        rw [hlive, cond_true] at h
        split at h
        · rename_i vs τ habs
          split at h
          · rename_i t' o' qn l hτ
            split at h
            · rename_i hs'
              split at h
              · rename_i hi
                split at h
                · rename_i hj
                  split at h
                  · rename_i e he
                    refine ⟨_, h, fun lab ρ a w hR u v hu hv => ?_⟩
                    obtain ⟨ad, rfl, had⟩ := hu
                    obtain ⟨hl, hone⟩ := lfs_ok hxs hlive hv
                    have hus : RLs w w0.heap.size lab ρ xs v.cells.toList.toArray := by simpa using hl
                    obtain ⟨lab', hR', hvl, hvr, _, hrr, hval, hlb1, _⟩ := absorb_ok (w0 := w0) (N := N) (fun m => by simp [lastIs]) _ _ _ _ _ _ habs lab ρ a w hR _ hus
                    simp only [addrAt] at had
                    split at had
                    · rename_i b n0 c0 hρ
                      split at had
                      · rename_i hlb
                        injection had with had
                        subst had
                        have hroot := hR'.root rr _ hτ
                        generalize hx : Root.sl (.sl t' (o' + 2) qn l) = x at hroot
                        cases hroot with
                        | blk => cases hx
                        | mp => cases hx
                        | gh => cases hx
                        | sl uu y hρ' hr' =>
                          injection hx with hx
                          subst hx
                          rw [hρ] at hρ'
                          injection hρ' with hρ'
                          subst hρ'
                          cases hr' with
                          | fro _ _ _ _ _ _ _ _ _ ho => omega
                          | slEmp => simp at hi
                          | slNon => simp at hi
                          | own _ _ _ _ _ _ cap cs us hlb' hh hs hn' hm hc hr =>
                            subst hs'
                            have hvc : v.cells.size = n := by rw [hl.1, hlen]
                            have hin : i * csz t' + csz t' <= c0 * csz t' := by
                              have : (i + 1) * csz t' <= c0 * csz t' := Nat.mul_le_mul_right _ (by omega)
                              rw [Nat.succ_mul] at this
                              exact this
                            have hfit : i * csz t' + j + v.cells.toList.length <= cs.size := by rw [Array.length_toList, hvc, hs]; omega
                            have hW := wrote_setCells w b (i * csz t' + j) v.cells.toList
                            obtain ⟨c2, hb2, hc2⟩ := heap_setCells b (tid t') v.cells.toList (i * csz t' + j) w cs hh hfit
                            have c2get : ∀ m, c2[m]? = if m < i * csz t' + j then cs[m]? else if m < i * csz t' + j + n then v.cells[m - (i * csz t' + j)]? else cs[m]? := by
                              intro m
                              have e2 : c2[m]? = (splice cs.toList (i * csz t' + j) v.cells.toList)[m]? := by
                                rw [show c2[m]? = c2.toList[m]? by simp, hc2]
                                rfl
                              rw [e2, splice_get _ _ _ (by simpa using hfit), Array.length_toList, hvc]
                              simp
                            have c2size : c2.size = cs.size := by
                              rw [<- Array.length_toList, hc2]
                              have := splice_length cs.toList (i * csz t' + j) v.cells.toList (by simpa using hfit)
                              simp only [splice] at this
                              rw [this]
                              simp
                            have hbs : b < w.heap.size := (Array.getElem?_eq_some_iff.1 hh).1
                            have hz : w.heap.size <= (w.setCells b (i * csz t' + j) v.cells.toList).heap.size := Nat.le_of_eq hW.size.symm
                            have hkeep : ∀ b', b' < w.heap.size -> lab' b' ≠ some [rr] -> (w.setCells b (i * csz t' + j) v.cells.toList).heap[b']? = w.heap[b']? := fun b' _ hne => hW.block b' (by rintro rfl; exact hne hlb')
                            have hth : w.there b (i * csz t' + j) v.cells.size := by
                              intro m hm'
                              refine ⟨?_, frozen_of_row w b _ cs _ hh⟩
                              rw [cell_of_row w b _ cs _ _ hh]
                              rw [Array.length_toList] at hfit
                              simp
                              omega
                            have hvs : vs.length = n := by rw [hvl, hlen]
                            refine ⟨_, lab', run_storeAt_any w b _ t v hth (by rw [hvc]; exact hn) hone, hR'.hav (ns := [rr]) (cn := []) (ρ2 := ρ) (lab2 := lab') ⟨hz, fun b' hb' hk => ⟨hW.block b' ?_, rfl⟩, fun _ _ => rfl, fun b' k hk => (hR'.lab_ge b' k hk).2⟩
                              ⟨hW.os, hW.tape, hW.output, hz, fun k hk hL => hW.block k ?_⟩ (fun b' k hk => ?_) (fun r hr => by cases hr) (fun r0 x hx => ?_)⟩
                            · rintro rfl
                              have := hk _ hlb'
                              simp [lastB, memB] at this
                            · rintro rfl
                              rcases (hR'.lab_ge k _ hlb').1 with h1 | h1
                              · exact absurd hk (Nat.not_lt.2 h1)
                              · exact h1 hL
                            · have := hR'.lab_ge b' k hk
                              exact ⟨this.1, Nat.lt_of_lt_of_le this.2.1 hz, this.2.2⟩
                            · have hr0 : r0 = rr /\ x = .sl (.sl t' (o' + 2) qn (l.set i e)) := by
                                simp only [List.lookup] at hx
                                split at hx
                                · rename_i hb'
                                  injection hx with hx
                                  exact ⟨by simpa using hb', hx.symm⟩
                                · cases hx
                              obtain ⟨rfl, rfl⟩ := hr0
                              refine .sl _ _ hρ ?_
                              refine RV.setElem (u := us) (us := fun _ m => v.cells.getD (m - j) undef) (cs := cs) (xs := vs) hlb' hb2 (c2size.trans hs) hn' hm hi (by rw [hvs]; exact hj) he (fun i' h' j' x hx' hni => ?_) (fun m x hx' => ?_)
                              · have hj' : j' < csz t' := by have := (List.getElem?_eq_some_iff.1 hx').1; rwa [enc_length] at this
                                refine ⟨?_, (hr i' h' j' x hx').under (n := r0) (.inl (by simp)) hz hkeep (fun _ _ => rfl)⟩
                                rw [c2get]
                                have hns : ¬ (¬ i' * csz t' + j' < i * csz t' + j /\ i' * csz t' + j' < i * csz t' + j + n) := by
                                  rintro ⟨h1, h2⟩
                                  rcases Nat.lt_trichotomy i' i with hlt | heq | hgt
                                  · have : (i' + 1) * csz t' <= i * csz t' := Nat.mul_le_mul_right _ hlt
                                    rw [Nat.succ_mul] at this
                                    omega
                                  · subst heq
                                    exact hni ⟨rfl, by omega, by omega⟩
                                  · have : (i + 1) * csz t' <= i' * csz t' := Nat.mul_le_mul_right _ hgt
                                    rw [Nat.succ_mul] at this
                                    omega
                                split
                                · exact hc i' h' j' x hx'
                                · rw [if_neg (by omega)]
                                  exact hc i' h' j' x hx'
                              · obtain ⟨v0, hv0, hr2⟩ := hvr m x hx'
                                have hm' : m < n := by rw [<- hvs]; exact (List.getElem?_eq_some_iff.1 hx').1
                                have hv0' : v.cells[m]? = some v0 := by simpa using hv0
                                have hg' : v.cells.getD (j + m - j) undef = v0 := by rw [show j + m - j = m by omega, Array.getD_eq_getD_getElem?, hv0']; rfl
                                show c2[_]? = some (v.cells.getD (j + m - j) undef) /\ RV _ _ _ _ _ (v.cells.getD (j + m - j) undef)
                                rw [hg', c2get, if_neg (by omega), if_pos (by omega)]
                                rw [Nat.zero_add] at hr2
                                refine ⟨?_, hr2.under (n := r0) (.inl (by simp)) hz hkeep (fun _ _ => rfl)⟩
                                rw [show i * csz t' + (j + m) - (i * csz t' + j) = m by omega]
                                exact hv0'
                      · cases had
                    · cases had
                  · cases h
                · cases h
              · cases h
            · cases h
          · cases h
        · cases h
    · cases h
  · cases h
theorem storeNK_det {t : TypeId} {x y : A} {k : S -> Option X} (h : storeNK P σ t x y k = some r) : ∃ τ, k τ = some r /\ Det (fun X k => storeNK (X := X) P σ t x y k) τ := by
  unfold storeNK at h
  split at h
  · rename_i n xs j i s rr hn hxs
    split at h
    · rename_i hlen
      cases hlive : xs.all Lf.live with
      | false => rw [hlive] at h; cases h
      | true =>
        rw [hlive, cond_true] at h
        split at h
        · rename_i vs τ habs
          split at h
          · rename_i t' o' qn l hτ
            split at h
            · rename_i hs'
              split at h
              · rename_i hi
                split at h
                · rename_i hj
                  split at h
                  · rename_i e he
                    exact ⟨_, h, fun X k => by simp only [storeNK, hn, hxs, if_pos hlen, hlive, cond_true, habs, hτ, if_pos hs', dif_pos hi, if_pos hj, he]⟩
                  · cases h
                · cases h
              · cases h
            · cases h
          · cases h
        · cases h
    · cases h
  · cases h
end
end Go.Proofs.YtckjagaogcbedaaGreat
namespace Go.Proofs.YtckjagaogcbedaaGreat
open Go.RowKit
set_option linter.unusedVariables false
def CtrNOK (P : Program) (f : Nat) (F : List Int -> Option Int) : Prop :=
  ∀ (w : World) (l : List (T .u8)) (h : Int) (v : Value), F l = some h -> RV w w.heap.size (fun _ => none) [] (.sl .u8 0 false l) v -> Hd w (fun _ => none) -> Calls P f #[v] w fun e w' =>
    ∃ b off cells t, e = .returned (.pointer (some ⟨b, off, none⟩)) /\ Below w.heap.size w w' /\ w.heap.size <= b /\ w'.heap[b]? = some (.cells cells t (0, 0)) /\ cells[off]? = some v /\ cells[off + 1]? = some (.int .i64 0) /\ cells[off + 2]? = some (.int .i64 h)
def freshK {X : Type} (N : Nat) (σ : S) (d : Nat) (F : List Int -> Option Int) (x : A) (k : S -> Option X) : Option X :=
  match x with
  | .lf (.v (.sl .u8 0 q l)) => bif Nat.blt d N then (match F l with
    | some h => k (((σ.drop (1000000000100000 + 1000 * d)).root (1000000000100000 + 1000 * d) (.blk [.v (.sl .u8 0 q l), .v (.int .i64 0), .v (.int .i64 h)])).set d (.bptr (1000000000100000 + 1000 * d) 0))
    | none => none) else none
  | _ => none
structure CtrV where
  a : Nat
  j : Nat
  t : TC
  run : List Pt -> Option (Nat × Nat)
def leafVal (vals : Array Value) (a j : Nat) : Option Value := match vals[a]? with
  | some (.agg us) => us[j]?
  | some u => bif Nat.beq j 0 then some u else none
  | none => none
def CtrVOK (P : Program) (f : Nat) (c : CtrV) : Prop :=
  ∀ (args : List Pt) (p : Nat × Nat), c.run args = some p -> ∀ (w : World) (vals : Array Value), ArgsOK w args vals -> Hd w (fun _ => none) -> Calls P f vals w fun e w' =>
    ∃ A n cap, leafVal vals c.a c.j = some (.slice A n cap) /\ p.1 <= p.2 /\ p.2 <= n /\ e = .returned (sliced A p.1 p.2 cap (csz c.t)) /\ Below w.heap.size w w'
def leafOf (σ : S) (args : List Operand) (a j : Nat) : Option Lf := match args[a]? with
  | some x => (match opd σ x with
    | .agg cs => cs[j]?
    | .lf l => bif Nat.beq j 0 then some l else none
    | _ => none)
  | none => none
def callVK {X : Type} (N : Nat) (σ : S) (d : Nat) (c : CtrV) (args : List Operand) (k : S -> Option X) : Option X :=
  bif Nat.blt d N then argsK σ args fun ps => (match c.run ps with
    | some p => (match leafOf σ args c.a c.j with
      | some (.v (.sl t g _ l)) => if t = c.t then (bif Nat.blt g 2 && Nat.ble p.1 p.2 && Nat.ble p.2 l.length then k (σ.set d (.lf (.v (.sl t g false ((l.take p.2).drop p.1))))) else none) else none
      | _ => none)
    | none => none) else none
structure CtrI where
  run : (X : Type) -> Nat -> S -> List A -> (S -> A -> Option X) -> Option X
def CtrIOK (P : Program) (f : Nat) (c : CtrI) : Prop :=
  ∀ [Inhabited Wd] (X : Type) (N : Nat) (σ : S) (xs : List A) (k : S -> A -> Option X) (r : X), c.run X N σ xs k = some r -> ∃ σ' y, k σ' y = some r /\ (∀ (X' : Type) (k' : S -> A -> Option X'), c.run X' N σ xs k' = k' σ' y) /\
    ∀ (w0 : Wd) (lab : Lab) (ρ : Nat -> Loc) (a : Act) (w : World) (vals : Array Value), Rl w0 N lab ρ σ a w -> vals.size = xs.length -> (∀ i, RA w w0.heap.size lab ρ ((xs[i]?).getD .undef) (vals.getD i undef)) ->
      Calls P f vals w fun e w' => ∃ v lab' ρ', e = .returned v /\ Rl w0 N lab' ρ' σ' a w' /\ RA w' w0.heap.size lab' ρ' y v
inductive CtrX where
  | p (c : Ctr)
  | m (c : CtrM)
  | n (F : List Int -> Option Int)
  | v (c : CtrV)
  | i (c : CtrI)
  | d (c : CtrM)
  | q (c : Ctr)
def CtrXOK (P : Program) (f : Nat) : CtrX -> Prop
  | .p c => CtrOK P f c
  | .m c => CtrMOK P f c
  | .n F => CtrNOK P f F
  | .v c => CtrVOK P f c
  | .i c => CtrIOK P f c
  | .d c => CtrMOK P f c
  | .q c => CtrOK P f c
section
variable {P : Program} {w w' : World} {w0 : Wd} {B N : Nat} {lab lab2 lab' : Lab} {ρ ρ2 ρ' : Nat -> Loc} {σ : S} {a : Act} {X : Type} {d : Nat} {r : X} {ns cn : List Nat} {o : Oper}
theorem lvMK_det : ∀ (xs : List Lf) (k : List V -> Option X), lvMK σ ns xs k = some r -> ∃ vs, k vs = some r /\ Det (fun X k => lvMK (X := X) σ ns xs k) vs
  | [], k, h => ⟨[], h, fun X k => rfl⟩
  | x :: xs, k, h => by
    unfold lvMK at h
    cases ho : okLf ns x with
    | false => rw [ho] at h; cases h
    | true =>
      rw [ho, cond_true] at h
      obtain ⟨y, h2, hd⟩ := lfK_det h
      obtain ⟨ys, h3, hd2⟩ := lvMK_det xs _ h2
      exact ⟨_, h3, fun X k => by
        simp only [lvMK, ho, cond_true]
        exact (hd.at_ _).trans (hd2.at_ _)⟩
theorem argMK_det {x : A} {k : Pt -> Option X} (h : argMK σ ns x k = some r) : ∃ p, k p = some r /\ Det (fun X k => argMK (X := X) σ ns x k) p := by
  unfold argMK at h
  split at h
  · rename_i y
    obtain ⟨vs, h2, hd⟩ := lvMK_det _ _ h
    exact ⟨_, h2, fun X k => hd X (fun vs => k (false, vs))⟩
  · rename_i ys
    obtain ⟨vs, h2, hd⟩ := lvMK_det _ _ h
    exact ⟨_, h2, fun X k => hd X (fun vs => k (true, vs))⟩
  · cases h
theorem parsK_det : ∀ (ps : List PK) (xs : List Operand) (mus : List Mu) (k : ParT ps -> Option X), parsK σ ns ps xs mus k = some r -> ∃ x, k x = some r /\ Det (fun X k => parsK (X := X) σ ns ps xs mus k) x
  | [], [], [], k, h => ⟨(), h, fun X k => rfl⟩
  | .v b t :: ps, x :: xs, mus, k, h => by
    unfold parsK at h
    obtain ⟨p, h2, hd⟩ := argMK_det h
    cases hb : p.1 == b with
    | false => rw [hb] at h2; cases h2
    | true =>
      rw [hb, cond_true] at h2
      split at h2
      · rename_i y hy
        obtain ⟨ys, h3, hd2⟩ := parsK_det ps xs mus _ h2
        exact ⟨_, h3, fun X k => by
          show argMK σ ns (opd σ x) _ = _
          refine (hd.at_ _).trans ?_
          rw [hb, cond_true, hy]
          exact hd2.at_ _⟩
      · cases h2
  | .p t g off :: ps, x :: xs, .blk r' cs vs :: mus, k, h => by
    unfold parsK at h
    split at h
    · rename_i y hy
      obtain ⟨ys, h3, hd2⟩ := parsK_det ps xs mus _ h
      exact ⟨_, h3, fun X k => by
        simp only [parsK, hy]
        exact hd2.at_ _⟩
    · cases h
  | .s t g :: ps, x :: xs, .sl q y0 :: mus, k, h => by
    unfold parsK at h
    split at h
    · rename_i y hy
      obtain ⟨ys, h3, hd2⟩ := parsK_det ps xs mus _ h
      exact ⟨_, h3, fun X k => by
        simp only [parsK, hy]
        exact hd2.at_ _⟩
    · cases h
  | [], [], _ :: _, k, h => by cases h
  | [], _ :: _, _, k, h => by cases h
  | .v _ _ :: _, [], _, k, h => by cases h
  | .p _ _ _ :: _, [], _, k, h => by cases h
  | .s _ _ :: _, [], _, k, h => by cases h
  | .p _ _ _ :: _, _ :: _, [], k, h => by cases h
  | .s _ _ :: _, _ :: _, [], k, h => by cases h
  | .p _ _ _ :: _, _ :: _, .sl _ _ :: _, k, h => by cases h
  | .s _ _ :: _, _ :: _, .blk _ _ _ :: _, k, h => by cases h
theorem resK_det {dst : Option Tmp} {res : Res} {k : S -> Option X} (h : resK N σ dst res k = some r) : ∃ τ, k τ = some r /\ Det (fun X k => resK (X := X) N σ dst res k) τ := by
  unfold resK at h
  cases dst with
  | none => exact ⟨σ, h, fun X k => rfl⟩
  | some d =>
    have h : (bif Nat.blt d N then (match res with
      | .one p => (match partA (p.1, resLf (1000000000100000 + 1000 * d) p.2) with
        | some y => k ((resRt (1000000000100000 + 1000 * d) σ p.2).set d y)
        | none => none)
      | .tup ps => k ((resRs (1000000000100000 + 1000 * d) σ ps).set d (.tup (resLs (1000000000100000 + 1000 * d) ps)))) else none) = some r := h
    cases hN : Nat.blt d N with
    | false => rw [hN] at h; cases h
    | true =>
      rw [hN, cond_true] at h
      cases res with
      | one p =>
        simp only at h
        split at h
        · rename_i y hy
          exact ⟨_, h, fun X k => by simp only [resK, hN, cond_true, hy]⟩
        · cases h
      | tup ps => exact ⟨_, h, fun X k => by simp only [resK, hN, cond_true]⟩
theorem callMK_det {dst : Option Tmp} {c : CtrM} {args : List Operand} {k : S -> Option X} (h : callMK N σ dst c args k = some r) : ∃ τ, k τ = some r /\ Det (fun X k => callMK (X := X) N σ dst c args k) τ := by
  unfold callMK at h
  split at h
  · rename_i mus hmus
    cases hon : (once (renM 0 mus) && Nat.ble mus.length 40) with
    | false => rw [hon] at h; cases h
    | true =>
      rw [hon, cond_true] at h
      obtain ⟨x, h2, hd⟩ := parsK_det _ _ _ _ h
      split at h2
      · rename_i y hy
        unfold aftK at h2
        generalize hok : okAft N mus (insMk (mutT c.ps) y.2) (cnM (c0Of dst) (resMk c.ro y.1).len mus (insMk (mutT c.ps) y.2)) = ok at h2
        cases ok with
        | false => cases h2
        | true =>
          rw [cond_true] at h2
          obtain ⟨τ, h3, hd3⟩ := resK_det h2
          exact ⟨τ, h3, fun X k => by
            simp only [callMK, hmus, hon, cond_true]
            refine (hd X _).trans ?_
            simp only [hy, aftK, hok, cond_true]
            exact hd3.at_ _⟩
      · cases h2
  · cases h
theorem freshK_det {F : List Int -> Option Int} {x : A} {k : S -> Option X} (h : freshK N σ d F x k = some r) : ∃ τ, k τ = some r /\ Det (fun X k => freshK (X := X) N σ d F x k) τ := by
  unfold freshK at h
  split at h
  · cases hN : Nat.blt d N with
    | false => rw [hN] at h; cases h
    | true =>
      rw [hN, cond_true] at h
      split at h
      · rename_i z hz
        exact ⟨_, h, fun X k => by simp only [freshK, hN, cond_true, hz]⟩
      · cases h
  · cases h
theorem freshK_ok {f : Nat} {x : Operand} {args : Array Operand} {tys : Array TypeId} {F : List Int -> Option Int} {k : S -> Option X} (ho : o.op = .call { callee := .value (.func f), args, argTypes := tys }) (hx : args.toList = [x]) (hd : o.dst = some d) (he : enters P f) (hc : CtrNOK P f F) (h : freshK N σ d F (opd σ x) k = some r) :
    ∃ σ', k σ' = some r /\ OpS P w0 N o σ σ' := by
  unfold freshK at h
  split at h
  · rename_i q l hq
    cases hN : Nat.blt d N with
    | false => rw [hN] at h; cases h
    | true =>
      rw [hN, cond_true] at h
      have hdN : d < N := Nat.le_of_ble_eq_true hN
      split at h
      · rename_i hz hhz
        refine ⟨_, h, fun a w K Q hR hK => ?_⟩
        obtain ⟨lab, ρ, hR⟩ := hR
        have hv := hR.opd x
        rw [hq] at hv
        have hv0 : RV w w.heap.size (fun _ => none) [] (.sl .u8 0 false l) (a.eval x) := by
          have h0 : RV w w.heap.size (fun _ => none) [] (.sl .u8 0 q l) (a.eval x) := hv.2.frz
          cases q with
          | false => exact h0
          | true => exact h0.wk (.q _ _ _)
        unfold Oper.wp
        rw [run_call w o a f args tys ho he, Oper.upon_enter]
        have hvals : (args.map a.eval) = #[a.eval x] := by apply Array.ext'; rw [Array.toList_map, hx]; rfl
        rw [hvals]
        refine (hc w l _ _ hhz hv0 (w0.on hR.below (fun _ _ h => by cases h))).mono fun e w' hpost => ?_
        obtain ⟨b, off, cells, t, rfl, hbel, hb, hh, hc0, hc1, hc2⟩ := hpost
        have hB := hR.below.size
        have hbl : b < w'.heap.size := (Array.getElem?_eq_some_iff.1 hh).1
        have hR1 : Rl w0 N (upd lab b (some [1000000000100000 + 1000 * d])) ρ σ a w' := by
          refine hR.grow hbel (fun c hc' => upd_ne _ _ _ (by omega)) (fun c k hc' hk => ?_)
          by_cases e : c = b
          · subst e
            rw [upd_same] at hk
            injection hk with hk
            subst hk
            exact ⟨hbl, by simp⟩
          · rw [upd_ne _ _ _ e] at hk
            have := (hR.lab_ge c k hk).2.1
            omega
        have hR2 := hR1.new (d := 1000000000100000 + 1000 * d) (x := .blk [.v (.sl .u8 0 q l), .v (.int .i64 0), .v (.int .i64 hz)]) (.blk b off) (by
          refine .blk b off cells t _ (fun j => (#[a.eval x, .int .i64 0, .int .i64 hz] : Array Value).getD j undef) (upd_same _ _ _) (upd_same _ _ _) hh (by
            have := (Array.getElem?_eq_some_iff.1 hc2).1
            simp; omega) (fun j y hy => ?_)
          have hv1 : RLf w' w0.heap.size (upd lab b (some [1000000000100000 + 1000 * d])) (upd ρ (1000000000100000 + 1000 * d) (.blk b off)) (.v (.sl .u8 0 q l)) (a.eval x) := by
            refine ⟨rfl, hv.2.keep hbel.size (fun c hc' => ⟨hbel.block c hc', upd_ne _ _ _ (by omega)⟩)⟩
          match j, hy with
          | 0, hy => simp at hy; subst hy; exact ⟨hc0, hv1⟩
          | 1, hy => simp at hy; subst hy; exact ⟨hc1, rfl, .int _ _ _⟩
          | 2, hy => simp at hy; subst hy; exact ⟨hc2, rfl, .int _ _ _⟩
          | j + 3, hy => simp at hy) (hR.lim _ (.inr (by omega)))
        rw [hd]
        exact hK _ _ ⟨_, _, hR2.set ⟨b, off, upd_same _ _ _, rfl⟩ hdN⟩
      · cases h
  · cases h
theorem callVK_ok {f : Nat} {args : Array Operand} {tys : Array TypeId} {c : CtrV} {k : S -> Option X} (ho : o.op = .call { callee := .value (.func f), args, argTypes := tys }) (hd : o.dst = some d) (he : enters P f) (hc : CtrVOK P f c) (h : callVK N σ d c args.toList k = some r) : ∃ σ', k σ' = some r /\ OpS P w0 N o σ σ' := by
  unfold callVK at h
  cases hN : Nat.blt d N with
  | false => rw [hN] at h; cases h
  | true =>
    rw [hN, cond_true] at h
    have hdN : d < N := by have := Nat.le_of_ble_eq_true hN; omega
    obtain ⟨ps, h2, hargs⟩ := argsK_ok (w0 := w0) (N := N) _ _ h
    split at h2
    · rename_i p hp
      split at h2
      · rename_i t g q l hl
        split at h2
        · rename_i htt
          cases hb : (Nat.blt g 2 && Nat.ble p.1 p.2 && Nat.ble p.2 l.length) with
          | false => rw [hb] at h2; cases h2
          | true =>
            rw [hb, cond_true] at h2
            rw [Bool.and_eq_true, Bool.and_eq_true] at hb
            have hg : g < 2 := by have := Nat.le_of_ble_eq_true hb.1.1; omega
            have h12 := Nat.le_of_ble_eq_true hb.1.2
            have h2l := Nat.le_of_ble_eq_true hb.2
            refine ⟨_, h2, fun a w K Q hR hK => ?_⟩
            obtain ⟨lab, ρ, hR⟩ := hR
            unfold Oper.wp
            rw [run_call w o a f args tys ho he, Oper.upon_enter]
            have hvals : (args.map a.eval) = (args.toList.map a.eval).toArray := by apply Array.ext'; rw [Array.toList_map]
            rw [hvals]
            refine (hc ps p hp w _ (hargs lab ρ a w hR) (w0.on hR.below (fun _ _ h => by cases h))).mono fun e w' hpost => ?_
            obtain ⟨A, n, cap, e1, hle, hn, rfl, hbel⟩ := hpost
            have hrv : RV w w0.heap.size lab [] (.sl t g q l) (.slice A n cap) := by
              unfold leafOf at hl
              split at hl
              · rename_i x hx
                have hev : ((args.toList.map a.eval).toArray)[c.a]? = some (a.eval x) := by
                  rw [List.getElem?_toArray, List.getElem?_map, hx]; rfl
                unfold leafVal at e1
                rw [hev] at e1
                have hra := hR.opd x
                split at hl
                · rename_i cs hcs
                  rw [hcs] at hra
                  obtain ⟨us, hus, hrl⟩ := hra
                  rw [hus] at e1
                  obtain ⟨u, hu, hr⟩ := hrl.2 _ _ hl
                  simp only at e1
                  rw [e1] at hu
                  injection hu with hu
                  subst hu
                  exact hr.2
                · rename_i lf hlf
                  rw [hlf] at hra
                  cases hj : Nat.beq c.j 0 with
                  | false => rw [hj] at hl; cases hl
                  | true =>
                    rw [hj] at hl e1
                    injection hl with hl
                    subst hl
                    have hra : RLf w w0.heap.size lab ρ (.v (.sl t g q l)) (a.eval x) := hra
                    have hna : ∀ us, a.eval x ≠ .agg us := by
                      intro us e
                      rw [e] at hra
                      cases hra.2
                    generalize a.eval x = z at e1 hra hna
                    cases z <;> first | exact absurd rfl (hna _) | (simp only [cond_true, Option.some.injEq] at e1; cases e1; exact hra.2) | (simp only [cond_true, Option.some.injEq] at e1; cases e1)
                · cases hl
              · cases hl
            obtain ⟨hpt, hn1, hn2⟩ := hrv.part (a := p.1) (h := p.2) hg h12 h2l
            subst htt
            rw [hd]
            have hR' := hR.grow hbel (lab' := lab) (fun _ _ => rfl) (fun b k hb hk => absurd (hR.lab_ge b k hk).2.1 (Nat.not_lt.2 hb))
            refine hK _ _ ⟨lab, ρ, hR'.set ⟨by simp [V.fro, hg], ?_⟩ hdN⟩
            exact hpt.keep hbel.size fun b hb => ⟨hbel.block b hb, rfl⟩
        · cases h2
      · cases h2
    · cases h2
theorem callVK_det {c : CtrV} {args : List Operand} {k : S -> Option X} (h : callVK N σ d c args k = some r) : ∃ τ, k τ = some r /\ Det (fun X k => callVK (X := X) N σ d c args k) τ := by
  unfold callVK at h
  cases hN : Nat.blt d N with
  | false => rw [hN] at h; cases h
  | true =>
    rw [hN, cond_true] at h
    obtain ⟨ps, h2, hdt⟩ := argsK_det _ _ h
    split at h2
    · rename_i p hp
      split at h2
      · rename_i t g q l hl
        split at h2
        · rename_i htt
          cases hb : (Nat.blt g 2 && Nat.ble p.1 p.2 && Nat.ble p.2 l.length) with
          | false => rw [hb] at h2; cases h2
          | true =>
            rw [hb, cond_true] at h2
            refine ⟨_, h2, fun X k => ?_⟩
            simp only [callVK, hN, cond_true]
            exact (hdt.at_ _).trans (by simp only [hp, hl, if_pos htt, hb, cond_true])
        · cases h2
      · cases h2
    · cases h2
/-! Calls of functions that are run in the state of their caller. -/
def callIK {X : Type} (N : Nat) (σ : S) (dst : Option Tmp) (c : CtrI) (xs : List A) (k : S -> Option X) : Option X := c.run X N σ xs fun σ' y => putK N σ' dst y k
def capA (p : Nat × Nat) : A := .bptr p.1 p.2
def capsK (σ : S) : List Operand -> Option (List (Nat × Nat))
  | [] => some []
  | x :: xs => match opd σ x, capsK σ xs with
    | .bptr r j, some ps => some ((r, j) :: ps)
    | _, _ => none
theorem run_callV (w : World) (o : Oper) (a : Act) (f : Nat) (cl : Operand) (vs : Array Value) (args : Array Operand) (tys : Array TypeId) (ho : o.op = .call { callee := .value cl, args, argTypes := tys }) (hv : a.eval cl = .func (.func f) #[] vs) (he : enters P f) :
    (execOp a.eval o).run P w = .ok (.enter f (args.map a.eval ++ vs)) w := by
  obtain ⟨fn, h1, h2, h3⟩ := he
  have h2' : ¬ fn.name = "runtime.NumGoroutine" := by simpa using h2
  have h3' : ¬ fn.body = none := by intro e; rw [e] at h3; cases h3
  simp [execOp, ho, resolve, hv, Deferred.ofValue, invoke, callFunc, Sem.run_bind, Sem.run, program, h1, h2', h3']
def clX : A -> Option (Nat × List A)
  | .fn f cap => some (f, cap.map capA)
  | .ffn f cs => some (f, [.fptr cs])
  | _ => none
theorem clX_ok {x : A} {f : Nat} {ex : List A} {u : Value} (h : clX x = some (f, ex)) (hu : RA w B lab ρ x u) : ∃ vs : Array Value, u = .func (.func f) #[] vs /\ vs.size = ex.length /\ ∀ (j : Nat) y, ex[j]? = some y -> RA w B lab ρ y (vs.getD j undef) := by
  unfold clX at h
  split at h
  · rename_i f' cap
    injection h with h
    injection h with h1 h2
    subst h1 h2
    obtain ⟨vs, hv, hs, hvs⟩ := hu
    refine ⟨vs, hv, by simp [hs], fun j y hy => ?_⟩
    rw [List.getElem?_map] at hy
    cases hp : cap[j]? with
    | none => rw [hp] at hy; cases hy
    | some p =>
      rw [hp] at hy
      injection hy with hy
      subst hy
      obtain ⟨b, off, h1, h2⟩ := hvs _ p hp
      rw [Array.getD_eq_getD_getElem?, h2]
      exact ⟨b, off, h1, rfl⟩
  · injection h with h
    injection h with h1 h2
    subst h1 h2
    obtain ⟨pv, e, hp⟩ := hu
    refine ⟨#[pv], e, rfl, fun j y hy => ?_⟩
    rcases j with _ | j
    · injection hy with hy
      subst hy
      exact hp
    · cases hy
  · cases h
theorem callIK_ok {f : Nat} {cl : Operand} {ex : List A} {args : Array Operand} {tys : Array TypeId} {c : CtrI} {k : S -> Option X} (ho : o.op = .call { callee := .value cl, args, argTypes := tys }) (hcl : clX (opd σ cl) = some (f, ex)) (he : enters P f) (hc : CtrIOK P f c)
    (h : callIK N σ o.dst c (args.toList.map (opd σ) ++ ex) k = some r) : ∃ σ', k σ' = some r /\ OpS P w0 N o σ σ' := by
  unfold callIK at h
  haveI : Inhabited Wd := ⟨w0⟩
  obtain ⟨σ1, y, hk, _, hcall⟩ := hc _ _ _ _ _ _ h
  have step : ∀ a w K Q, R w0 N σ a w -> (∀ v w' lab' ρ', Rl w0 N lab' ρ' σ1 a w' -> RA w' w0.heap.size lab' ρ' y v -> K (a.put o.dst v) w') -> o.wp P a w K Q := by
    intro a w K Q hR hK
    obtain ⟨lab, ρ, hR⟩ := hR
    obtain ⟨vs, hv, hs, hvs⟩ := clX_ok hcl (hR.opd cl)
    unfold Oper.wp
    rw [run_callV w o a f cl vs args tys ho hv he, Oper.upon_enter]
    refine (hcall w0 lab ρ a w _ hR (by simp [hs]) fun i => ?_).mono fun e w' hpost => ?_
    · by_cases hi : i < args.size
      · have e1 : (args.toList.map (opd σ) ++ ex)[i]? = some (opd σ args[i]) := by
          rw [List.getElem?_append_left (by simpa using hi), List.getElem?_map, Array.getElem?_toList, Array.getElem?_eq_getElem hi]; rfl
        have e2 : (args.map a.eval ++ vs).getD i undef = a.eval args[i] := by
          rw [Array.getD_eq_getD_getElem?, Array.getElem?_append_left (by simpa using hi)]
          simp [hi]
        rw [e1, e2]
        exact hR.opd _
      · have e0 : (args.toList.map (opd σ) ++ ex)[i]? = ex[i - args.size]? := by
          rw [List.getElem?_append_right (by simp; omega)]
          simp
        rw [e0]
        cases hp : ex[i - args.size]? with
        | none => trivial
        | some p =>
          have e2 : (args.map a.eval ++ vs).getD i undef = vs.getD (i - args.size) undef := by
            rw [Array.getD_eq_getD_getElem?, Array.getElem?_append_right (by simp; omega), Array.getD_eq_getD_getElem?]
            simp
          rw [e2]
          exact hvs _ p hp
    · obtain ⟨v, lab', ρ', rfl, hR', hy⟩ := hpost
      exact hK v w' lab' ρ' hR' hy
  unfold putK at hk
  split at hk
  · rename_i hd
    refine ⟨σ1, hk, fun a w K Q hR hK => step a w K Q hR fun v w' lab' ρ' hR' _ => ?_⟩
    rw [hd]
    exact hK _ _ ⟨lab', ρ', hR'⟩
  · rename_i d hd
    cases hN : Nat.blt d N with
    | false => rw [hN] at hk; cases hk
    | true =>
      rw [hN, cond_true] at hk
      refine ⟨_, hk, fun a w K Q hR hK => step a w K Q hR fun v w' lab' ρ' hR' hy => ?_⟩
      rw [hd]
      exact hK _ _ ⟨lab', ρ', hR'.set hy (by have := Nat.le_of_ble_eq_true hN; omega)⟩
theorem capsK_ok : ∀ (xs : List Operand) (ps : List (Nat × Nat)), capsK σ xs = some ps -> ps.length = xs.length /\ ∀ lab ρ a w, Rl w0 N lab ρ σ a w -> ∀ (j : Nat) p, ps[j]? = some p -> ∃ b off, ρ p.1 = .blk b off /\ (xs.map a.eval)[j]? = some (.pointer (some ⟨b, off + p.2, none⟩))
  | [], ps, h => by
    simp only [capsK, Option.some.injEq] at h
    subst h
    exact ⟨rfl, fun _ _ _ _ _ j p hp => by simp at hp⟩
  | x :: xs, ps, h => by
    unfold capsK at h
    split at h
    · rename_i rr j ps' h1 h2
      injection h with h
      subst h
      obtain ⟨k1, k2⟩ := capsK_ok xs ps' h2
      refine ⟨by simp [k1], fun lab ρ a w hR j' p hp => ?_⟩
      cases j' with
      | zero =>
        simp only [List.getElem?_cons_zero, Option.some.injEq] at hp
        subst hp
        have hv := hR.opd x
        rw [h1] at hv
        obtain ⟨b, off, e1, e2⟩ := hv
        exact ⟨b, off, e1, by simp [e2]⟩
      | succ j' =>
        obtain ⟨b, off, e1, e2⟩ := k2 lab ρ a w hR j' p (by simpa using hp)
        exact ⟨b, off, e1, by simpa using e2⟩
    · cases h
end
end Go.Proofs.YtckjagaogcbedaaGreat
namespace Go.Proofs.YtckjagaogcbedaaGreat
open Go.RowKit
set_option linter.unusedVariables false
def Lab.un (lab : Lab) (q : Nat) : Lab := fun b => match lab b with
  | some k => bif lastIs q k then none else some k
  | none => none
def storeVK {X : Type} (P : Program) (σ : S) (q s i j : Nat) (t : TypeId) (x : A) (k : S -> Option X) : Option X :=
  match σ.m q with
  | some (.sl (.sl tc (o + 2) qn l)) => bif Nat.beq s (csz tc) && Nat.beq (full tc) 0 then storeK P (σ.drop q) t (x.drop q) (.lf (.v (.sl tc 0 false ((l.take j).drop i)))) k else none
  | _ => none
section
variable {P : Program} {w w' : World} {w0 : Wd} {B N : Nat} {lab lab' : Lab} {ρ ρ' : Nat -> Loc} {σ : S} {a : Act} {X : Type} {d q : Nat} {r : X} {o : Oper}
theorem rel_un (hne : ∀ b, lab b ≠ some []) : Rel q lab (lab.un q) :=
  ⟨hne, fun b h => by simp [Lab.un, h], fun b k h hk => by simp [Lab.un, h, hk]⟩
theorem RV.ice {tc : TC} {g : Nat} {qn : Bool} {l : List (T tc)} {A : Option Addr} {n c : Nat} (hr : RV w B lab [q] (.sl tc (g + 2) qn l) (.slice A n c)) (hf : full tc = 0) : RV w B (lab.un q) [] (.sl tc 0 false l) (.slice A n c) /\ n = l.length := by
  cases hr with
  | slNil => exact ⟨.slNil _ _ _, rfl⟩
  | slEmp => exact ⟨.slEmp _ _ _ _ _ (by omega), rfl⟩
  | slNon => exact ⟨.slEmp _ _ _ _ _ (by omega), rfl⟩
  | fro _ _ _ _ _ _ _ _ _ ho => omega
  | own =>
    rename_i b cs u hl hh hc hr hs hn hm
    have hpl : ∀ (i : Nat) (h : i < l.length) (j : Nat) (x : V), (enc tc 0 l[i])[j]? = some x -> (enc tc g l[i])[j]? = some x /\ x.plain = true := by
      intro i h j x hx
      obtain ⟨y, hy, rfl⟩ := enc_frz tc g l[i] j x hx
      have hp := enc_full tc g l[i] y (List.mem_of_getElem? hy)
      cases y with
      | sl t' o' q' l' =>
        have := Nat.le_of_ble_eq_true (show Nat.ble (full t' + 2) (full tc) = true from hp)
        omega
      | nil =>
        have := enc_nonnil tc g l[i] _ (List.mem_of_getElem? hy)
        cases this
      | _ => exact ⟨hy, rfl⟩
    refine ⟨.fro _ _ _ _ _ b 0 c u (by omega) (by simp [Lab.un, hl, lastIs]) (Array.getElem?_eq_some_iff.1 hh).1 (by omega) hn (fun i h j x hx => ?_) (fun i h j x hx => ?_), rfl⟩
    · rw [Nat.zero_add, cell_of_row w b _ cs _ _ hh]
      exact hc i h j x (hpl i h j x hx).1
    · exact (hr i h j x (hpl i h j x hx).1).plain_any (hpl i h j x hx).2
theorem storeVK_ok {s i j : Nat} {t : TypeId} {x : A} {k : S -> Option X} (h : storeVK P σ q s i j t x k = some r) : ∃ σ', k σ' = some r /\ ∀ lab ρ a w, Rl w0 N lab ρ σ a w -> ∀ u v, RA w w0.heap.size lab ρ x u -> RA w w0.heap.size lab ρ (.view [q] s i j) v ->
    ∃ w' lab', (Instr.storeAt t u v).run P w = .ok () w' /\ Rl w0 N lab' ρ σ' a w' := by
  unfold storeVK at h
  split at h
  · rename_i tc g qn l hm
    cases hb : (Nat.beq s (csz tc) && Nat.beq (full tc) 0) with
    | false => rw [hb] at h; cases h
    | true =>
      rw [hb, cond_true] at h
      rw [Bool.and_eq_true] at hb
      obtain rfl := Nat.eq_of_beq_eq_true hb.1
      have hf := Nat.eq_of_beq_eq_true hb.2
      obtain ⟨σ', h1, hs⟩ := storeK_ok (w0 := w0) (N := N) h
      refine ⟨σ', h1, fun lab ρ a w hR u v hu hv => ?_⟩
      have hrel : Rel q lab (lab.un q) := rel_un hR.lab_ne
      have hR1 := hR.rel hrel (fun b k hk => by
        unfold Lab.un at hk
        cases hl : lab b with
        | none => rw [hl] at hk; cases hk
        | some k' =>
          rw [hl] at hk
          simp only at hk
          cases hq : lastIs q k' with
          | true => rw [hq] at hk; cases hk
          | false =>
            rw [hq, cond_false] at hk
            injection hk with hk
            subst hk
            exact ⟨⟨_, rfl⟩, (hR.lab_ge b k' hl).2.2⟩)
      obtain ⟨A, n, c, hval, h3, h4, rfl⟩ := hv
      have hro := hR.root q _ hm
      generalize he : Root.sl (.sl tc (g + 2) qn l) = z at hro
      cases hro with
      | blk => cases he
      | mp => cases he
      | gh => cases he
      | sl vq y hρ hr =>
        injection he with he
        subst he
        have hvq : vq = .slice A n c := by
          simp only [valAt, hρ] at hval
          injection hval
        subst hvq
        obtain ⟨h5, h6⟩ := hr.ice hf
        have h7 := (h5.part (by omega) h3 (by omega)).1
        obtain ⟨w', hrun, hR2⟩ := hs _ _ _ _ hR1 u _ (hu.rel hrel) (show RA _ _ _ _ (.lf (.v _)) _ from ⟨rfl, h7⟩)
        exact ⟨w', _, hrun, hR2⟩
  · cases h
theorem storeVK_det {s i j : Nat} {t : TypeId} {x : A} {k : S -> Option X} (h : storeVK P σ q s i j t x k = some r) : ∃ τ, k τ = some r /\ Det (fun X k => storeVK (X := X) P σ q s i j t x k) τ := by
  unfold storeVK at h
  split at h
  · rename_i tc g qn l hm
    cases hb : (Nat.beq s (csz tc) && Nat.beq (full tc) 0) with
    | false => rw [hb] at h; cases h
    | true =>
      rw [hb, cond_true] at h
      obtain ⟨τ, h1, h2⟩ := storeK_det h
      exact ⟨τ, h1, fun X k => by simp only [storeVK, hm, hb, cond_true]; exact h2.at_ _⟩
  · cases h
end
end Go.Proofs.YtckjagaogcbedaaGreat
namespace Go.Proofs.YtckjagaogcbedaaGreat
open Go.RowKit
set_option linter.unusedVariables false
def Lf.ice (q : Nat) (y : V) : Lf -> Lf
  | .own [r] => bif Nat.beq r q then .v y else .own [r]
  | x => x.drop q
def A.ice (q : Nat) (y : V) : A -> A
  | .lf x => .lf (x.ice q y)
  | .agg cs => .agg (cs.map (Lf.ice q y))
  | .tup xs => .tup (xs.map fun p => (p.1, p.2.map (Lf.ice q y)))
  | x => x.drop q
def Root.ice (q : Nat) (y : V) : Root -> Root
  | .blk cs => .blk (cs.map (Lf.ice q y))
  | .gh xs => .gh (xs.map (A.ice q y))
  | x => x.drop q
def S.ice (σ : S) (q : Nat) (y : V) : S := ⟨fun k => (σ.t k).ice q y, fun r => bif Nat.beq r q then none else (σ.m r).map (Root.ice q y)⟩
section
variable {P : Program} {w w' : World} {w0 : Wd} {B N : Nat} {lab lab' : Lab} {ρ ρ' : Nat -> Loc} {σ : S} {a : Act} {X : Type} {d q : Nat} {r : X} {o : Oper} {y : V}
theorem RLf.ice (hr0 : Rel q lab (lab.un q)) (hq : ∀ u, valAt w lab ρ [q] = some u -> RV w B (lab.un q) [] y u) (hy : y.fro = true) {x : Lf} {u : Value} (h : RLf w B lab ρ x u) : RLf w B (lab.un q) ρ (x.ice q y) u := by
  unfold Lf.ice
  split
  · rename_i r
    cases hb : Nat.beq r q with
    | true =>
      obtain rfl := Nat.eq_of_beq_eq_true hb
      exact ⟨hy, hq u h.2⟩
    | false =>
      have hne : r ≠ q := by rintro rfl; simp at hb
      have hl : lastIs q [r] = false := by simpa [lastIs] using fun e => hne e
      have h1 : RLf w B (lab.un q) ρ (bif lastIs q [r] then .dead else .own [r]) u := RLf.rel hr0 h
      rw [hl] at h1
      exact h1
  · exact RLf.rel hr0 h
theorem RLs.ice (hr0 : Rel q lab (lab.un q)) (hq : ∀ u, valAt w lab ρ [q] = some u -> RV w B (lab.un q) [] y u) (hy : y.fro = true) {cs : List Lf} {us : Array Value} (h : RLs w B lab ρ cs us) : RLs w B (lab.un q) ρ (cs.map (Lf.ice q y)) us := by
  refine ⟨by rw [List.length_map]; exact h.1, fun j x hx => ?_⟩
  rw [List.getElem?_map] at hx
  cases hz : cs[j]? with
  | none => rw [hz] at hx; cases hx
  | some z =>
    rw [hz] at hx
    injection hx with hx
    subst hx
    obtain ⟨u, h1, h2⟩ := h.2 j z hz
    exact ⟨u, h1, h2.ice hr0 hq hy⟩
theorem RP.ice (hr0 : Rel q lab (lab.un q)) (hq : ∀ u, valAt w lab ρ [q] = some u -> RV w B (lab.un q) [] y u) (hy : y.fro = true) {p : Bool × List Lf} {u : Value} (h : RP w B lab ρ p u) : RP w B (lab.un q) ρ (p.1, p.2.map (Lf.ice q y)) u := by
  obtain ⟨b, cs⟩ := p
  cases b with
  | true => obtain ⟨us, e, h⟩ := h; exact ⟨us, e, RLs.ice hr0 hq hy h⟩
  | false => exact RLs.ice hr0 hq hy h
theorem RA.ice (hr0 : Rel q lab (lab.un q)) (hq : ∀ u, valAt w lab ρ [q] = some u -> RV w B (lab.un q) [] y u) (hy : y.fro = true) {x : A} {u : Value} (h : RA w B lab ρ x u) : RA w B (lab.un q) ρ (x.ice q y) u := by
  unfold A.ice
  split
  · exact RLf.ice hr0 hq hy h
  · exact RP.ice hr0 hq hy (p := (true, _)) h
  · rename_i xs
    obtain ⟨us, rfl, h1, h2⟩ := h
    refine ⟨us, rfl, by rw [List.length_map]; exact h1, fun j p hp => ?_⟩
    rw [List.getElem?_map] at hp
    cases hz : xs[j]? with
    | none => rw [hz] at hp; cases hp
    | some z =>
      rw [hz] at hp
      injection hp with hp
      subst hp
      obtain ⟨v, h3, h4⟩ := h2 j z hz
      exact ⟨v, h3, h4.ice hr0 hq hy⟩
  · exact RA.rel hr0 h
theorem RootOK.ice (hr0 : Rel q lab (lab.un q)) (hq : ∀ u, valAt w lab ρ [q] = some u -> RV w B (lab.un q) [] y u) (hy : y.fro = true) {r : Nat} (hr : r ≠ q) {x : Root} (h : RootOK w B lab ρ r x) : RootOK w B (lab.un q) ρ r (x.ice q y) := by
  have hs1 : lastIs q [r] = false := by simpa [lastIs] using fun e => hr e
  unfold Root.ice
  split
  · cases h with
    | blk b off cells e cs us hρ1 hl hh hs hc =>
      refine .blk b off cells e _ us hρ1 (hr0.keep _ _ hl hs1) hh (by rw [List.length_map]; exact hs) (fun j x hx => ?_)
      rw [List.getElem?_map] at hx
      rename_i cs
      cases hz : cs[j]? with
      | none => rw [hz] at hx; cases hx
      | some z =>
        rw [hz] at hx
        injection hx with hx
        subst hx
        exact ⟨(hc j z hz).1, (hc j z hz).2.ice hr0 hq hy⟩
  · cases h with
    | gh us xs hρ1 hx =>
      refine .gh us _ hρ1 fun j x hj => ?_
      rw [List.getElem?_map] at hj
      rename_i xs
      cases hz : xs[j]? with
      | none => rw [hz] at hj; cases hj
      | some z =>
        rw [hz] at hj
        injection hj with hj
        subst hj
        exact RA.ice hr0 hq hy (hx j z hz)
  · exact RootOK.rel hr0 hr h
theorem R.ice {tc : TC} {g : Nat} {qn : Bool} {l : List (T tc)} (hf : full tc = 0) (hm : σ.m q = some (.sl (.sl tc (g + 2) qn l))) (h : R w0 N σ a w) : R w0 N (σ.ice q (.sl tc 0 false l)) a w := by
  obtain ⟨lab, ρ, hR⟩ := h
  have hrel : Rel q lab (lab.un q) := rel_un hR.lab_ne
  have hq : ∀ u, valAt w lab ρ [q] = some u -> RV w w0.heap.size (lab.un q) [] (.sl tc 0 false l) u := by
    intro u hu
    have hro := hR.root q _ hm
    generalize he : Root.sl (.sl tc (g + 2) qn l) = z at hro
    cases hro with
    | blk => cases he
    | mp => cases he
    | gh => cases he
    | sl vq y hρ hr =>
      injection he with he
      subst he
      have hvq : vq = u := by
        simp only [valAt, hρ] at hu
        injection hu
      subst hvq
      have hs := hr.notfro (by simp [V.fro])
      cases vq with
      | slice A n c => exact (hr.ice hf).1
      | _ => cases hs
  refine ⟨lab.un q, ρ, hR.below, fun b k hk => ?_, fun r x hx => ?_, fun k => RA.ice hrel hq rfl (hR.tmp k), hR.size, hR.defers, hR.fix, hR.lim⟩
  · unfold Lab.un at hk
    cases hl : lab b with
    | none => rw [hl] at hk; cases hk
    | some k' =>
      rw [hl] at hk
      simp only at hk
      cases hq : lastIs q k' with
      | true => rw [hq] at hk; cases hk
      | false =>
        rw [hq, cond_false] at hk
        injection hk with hk
        subst hk
        exact hR.lab_ge b k' hl
  · have hx : (bif Nat.beq r q then none else (σ.m r).map (Root.ice q (.sl tc 0 false l))) = some x := hx
    cases hb : Nat.beq r q with
    | true => rw [hb] at hx; cases hx
    | false =>
      have hrq : r ≠ q := by rintro rfl; simp at hb
      rw [hb, cond_false] at hx
      cases hm2 : σ.m r with
      | none => rw [hm2] at hx; cases hx
      | some y =>
        rw [hm2] at hx
        injection hx with hx
        subst hx
        exact RootOK.ice hrel hq rfl hrq (hR.root r y hm2)
def iceS (σ : S) (x : A) : S := match x with
  | .lf (.own [q]) => (match σ.m q with
    | some (.sl (.sl .str (_ + 2) _ l)) => σ.ice q (.sl .str 0 false l)
    | _ => σ)
  | _ => σ
theorem R.iceS {x : A} (h : R w0 N σ a w) : R w0 N (Proofs.YtckjagaogcbedaaGreat.iceS σ x) a w := by
  unfold Proofs.YtckjagaogcbedaaGreat.iceS
  split
  · rename_i q
    split
    · rename_i g qn l hm
      exact R.ice rfl hm h
    · exact h
  · exact h
end
end Go.Proofs.YtckjagaogcbedaaGreat
namespace Go.Proofs.YtckjagaogcbedaaGreat
open Go.RowKit
set_option linter.unusedVariables false
section
variable {P : Program} (w : World)
theorem run_append_str_any (base : Nat) (t u ty e : TypeId) (i : TypeInfo) (ht : P.underlying t = some (.slice e)) (hu : P.underlying u = some .string) (hi : P.info? e = some i) (hz : i.zero = some (.int .u8 0))
    (hsize : i.size = 1) (hby : i.bytes = 1)
    (v : Value) (n : Nat) (xs : List Value) (hown : w.ownsRow base e 1 v n xs) (s : ByteArray)
    (h63 : n + s.size <= maxLen) (hbytes : n + s.size <= 140737488355328) (hbase : base <= w.heap.size) :
    ∃ v' w', (Builtin.append_ #[t, u] ty #[v, .string s]).run P w = .ok v' w' /\ w'.ownsRow base e 1 v' (n + s.size) (xs ++ Lib.strCells s) /\ w.grownBy w' v.ownBlock /\
      (v'.ownBlock = v.ownBlock \/ v'.ownBlock = some w.heap.size) := by
  obtain ⟨v', w', hrun, h2, h3, h4⟩ := Lib.run_append_own_string (P := P) w base t u ty e i ht hu hi hz hsize hby v n xs hown s h63 hbytes hbase
  refine ⟨v', w', hrun, h2, h3, ?_⟩
  have hsmall : n + s.size <= 9223372036854775807 := by simp only [maxLen] at h63; omega
  have hxl : xs.length = n := by simpa using hown.1
  rcases hown.2 with ⟨rfl, rfl⟩ | ⟨g, cap, cur, rfl, hbg, hg, hnc, hcm, hcs, htake⟩
  · by_cases hm : s.size = 0
    · exact .inl (by rw [h4.2 ⟨rfl, hm⟩])
    · have hr := run_append_nil_string (P := P) w t u ty e i (.int .u8 0) ht hu hi hz s (by omega) (by omega) (by rw [hby]; omega)
      rw [hrun] at hr
      injection hr with hr
      subst hr
      exact .inr rfl
  · by_cases hroom : n + s.size <= cap
    · have hcs' : cur.size = cap := by simpa using hcs
      have hr := Lib.run_append_room_string (P := P) w t u ty e i ht hu hi hsize g n cap cur hg s hroom (by omega)
      rw [hrun] at hr
      injection hr with hr
      subst hr
      exact .inl rfl
    · have holds : ∀ j u, xs[j]? = some u -> w.cell? ((⟨g, 0, none⟩ : Addr).add j) = some u := hown.cells (g := g) rfl
      have hr := Lib.run_append_grow_string (P := P) w t u ty e i (.int .u8 0) ht hu hi hz ⟨g, 0, none⟩ n cap xs (by rw [hsize]; simpa using hxl) holds s (by omega) (by omega) (by rw [hby]; exact growslice_fits (by omega) (by omega))
      rw [hrun] at hr
      injection hr with hr
      subst hr
      exact .inr rfl
end
def strNums (s : ByteArray) : List Int := s.data.toList.map fun b => (b.toNat : Int)
theorem strNums_len (s : ByteArray) : (strNums s).length = s.size := by
  rw [strNums, List.length_map, Array.length_toList]; rfl
theorem strNums_els (s : ByteArray) : Elems .u8 (strNums s) (Lib.strCells s) := by
  intro i hi o j x hx
  have hi' : i < (strNums s).length := hi
  rcases j with _ | j
  · have hx : x = .int .u8 (strNums s)[i] := by cases hx; rfl
    subst hx
    refine ⟨.int .u8 (strNums s)[i], ?_, rfl, fun w' B' lab' q' => .int _ _ _⟩
    have hs : i < s.data.toList.length := by rw [strNums, List.length_map] at hi'; exact hi'
    show (Lib.strCells s)[i * 1 + 0]? = _
    rw [Nat.mul_one, Nat.add_zero, Lib.strCells, List.getElem?_map, List.getElem?_eq_getElem hs]
    simp [strNums]
  · cases hx
def strE (s : ByteArray) : List (T .u8) := strNums s
theorem strE_len (s : ByteArray) : (strE s).length = s.size := strNums_len s
theorem strE_els (s : ByteArray) : Elems .u8 (strE s) (Lib.strCells s) := strNums_els s
section
variable {P : Program} {w w' : World} {w0 : Wd} {B N : Nat} {lab lab' : Lab} {ρ ρ' : Nat -> Loc} {σ : S} {a : Act} {X : Type} {d : Nat} {r : X}
theorem Rl.appendS {t ut e ty : TypeId} {i : TypeInfo} {rr o : Nat} {q : Bool} {l : List (T .u8)} {u : Value} {s : ByteArray} (h : Rl w0 N lab ρ σ a w) (hF : w0.F rr = none) (hut : P.underlying t = some (.slice e)) (hus : P.underlying ut = some .string) (ht : tid .u8 = e) (hi : P.info? e = some i) (hz : i.zero = some (.int .u8 0))
    (hsz : i.size = 1) (hby : i.bytes = 1) (hd : RV w w0.heap.size lab [rr] (.sl .u8 (o + 2) q l) u) (hlen : l.length + s.size < 1073741824) :
    ∃ v' w' lab', (Builtin.append_ #[t, ut] ty #[u, .string s]).run P w = .ok v' w' /\ Rl w0 N lab' (upd ρ rr (.hdr v')) ((σ.drop rr).root rr (.sl (.sl .u8 (o + 2) false (l ++ strE s)))) a w' /\ isSl v' = true := by
  subst ht
  obtain ⟨xs, hown, hblk, hqn, hel⟩ := hd.owns rfl (B' := 0) (fun b _ => Nat.zero_le b)
  have hel2 := strE_els s
  have hl2 := strE_len s
  obtain ⟨v', w', hrun, hown', hgr, hbl⟩ := run_append_str_any (P := P) w 0 t ut ty (tid .u8) i hut hus hi hz hsz hby u l.length xs hown s (by unfold maxLen; omega) (by omega) (Nat.zero_le _)
  have hlen' : (l ++ strE s).length = l.length + s.size := by rw [List.length_append, hl2]
  rw [<- hlen'] at hown'
  have hel' := hel.append hel2 hown.1
  have hsl : isSl v' = true := by rcases hown'.2 with ⟨rfl, _⟩ | ⟨_, _, _, rfl, _⟩ <;> rfl
  have hbel0 : Below 0 w w' := (Below.refl 0 w).grown hgr (Nat.zero_le _) (fun _ _ => Nat.zero_le _)
  have hbel : BelowS w0 w w' := ⟨hbel0.os, hbel0.tape, hbel0.output, hbel0.size, fun k hk hL => hgr.block k (Nat.lt_of_lt_of_le hk h.below.size) (fun e' => by
    rcases (h.lab_ge k _ (hblk k e'.symm)).1 with h1 | h1
    · exact absurd hk (Nat.not_lt.2 h1)
    · exact h1 hL)⟩
  by_cases hnew : v'.ownBlock = some w.heap.size
  · have hlt : w.heap.size < w'.heap.size := by
      rcases hown'.2 with ⟨rfl, _⟩ | ⟨b, cap, cs, rfl, _, hh, _⟩
      · cases hnew
      · have : b = w.heap.size := by simpa [Value.ownBlock] using hnew
        subst this
        exact (Array.getElem?_eq_some_iff.1 hh).1
    refine ⟨v', w', upd lab w.heap.size (some [rr]), hrun, h.remake hF hbel ⟨hgr.size, fun b hb hne => hgr.block b hb (fun e' => hne (hblk b e'.symm)), fun b hb => upd_ne _ _ _ (by omega), fun b hb => (h.lab_ge b [] hb).2.2 rfl⟩ (fun b k hb hk => ?_) (fun r hr => upd_ne _ _ _ hr) (.sl v' _ (upd_same _ _ _) (owns_RV hown' hel' (fun b hb => ?_))), hsl⟩
    · by_cases e : b = w.heap.size
      · subst e
        rw [upd_same] at hk
        injection hk with hk
        subst hk
        exact ⟨hlt, by simp⟩
      · rw [upd_ne _ _ _ e] at hk
        have := (h.lab_ge b k hk).2.1
        omega
    · rw [hnew] at hb
      injection hb with hb
      subst hb
      exact upd_same _ _ _
  · have hsame : v'.ownBlock = u.ownBlock := by
      rcases hbl with hbl | hbl
      · exact hbl
      · exact absurd hbl hnew
    refine ⟨v', w', lab, hrun, h.remake hF hbel ⟨hgr.size, fun b hb hne => hgr.block b hb (fun e' => hne (hblk b e'.symm)), fun _ _ => rfl, fun b hb => (h.lab_ge b [] hb).2.2 rfl⟩ (fun b k hb hk => ?_) (fun r hr => upd_ne _ _ _ hr) (.sl v' _ (upd_same _ _ _) (owns_RV hown' hel' (fun b hb => hblk b (by rw [<- hsame]; exact hb)))), hsl⟩
    have := (h.lab_ge b k hk).2.1
    omega
def strAB (P : Program) (t ut : TypeId) : Bool :=
  (match elemInfo P t with
  | some (e, .u8) => (match P.info? e with
    | some i => Nat.beq i.size 1 && Nat.beq i.bytes 1 && (match i.zero with
      | some (.int .u8 0) => true
      | _ => false)
    | none => false)
  | _ => false) && (match P.underlying ut with
  | some .string => true
  | _ => false)
def appSK {X : Type} (P : Program) (N : Nat) (σ : S) (d : Nat) (t ut : TypeId) (x y : A) (k : S -> Option X) : Option X :=
  match y with
  | .lf (.v (.str s)) => bif strAB P t ut then (match x with
    | .lf (.v .nil) => bif okLen (strE s).length then newK N σ d (.sl (.sl .u8 2 false (strE s))) (.lf (.own [d])) k else none
    | .lf (.own [r]) => (match σ.m r with
      | some (.sl (.sl .u8 (o + 2) q l)) => bif Nat.blt d N && (Nat.blt r N || Nat.ble 60000 r) && okLen (l.length + (strE s).length) then k (((σ.drop r).root r (.sl (.sl .u8 (o + 2) false (l ++ strE s)))).set d (.lf (.own [r]))) else none
      | _ => none)
    | _ => none) else none
  | _ => none
theorem strAB_ok {t ut : TypeId} (h : strAB P t ut = true) : ∃ e i, P.underlying t = some (.slice e) /\ tid .u8 = e /\ P.info? e = some i /\ i.size = 1 /\ i.bytes = 1 /\ i.zero = some (.int .u8 0) /\ P.underlying ut = some .string := by
  unfold strAB at h
  rw [Bool.and_eq_true] at h
  obtain ⟨h1, h2⟩ := h
  have hu : P.underlying ut = some .string := by
    split at h2
    · assumption
    · cases h2
  split at h1
  · rename_i e he
    obtain ⟨hut, ht, i, hi, hsz, hby⟩ := elemInfo_ok he
    rw [hi] at h1
    simp only [Bool.and_eq_true] at h1
    obtain ⟨⟨h3, h4⟩, h5⟩ := h1
    refine ⟨e, i, hut, ht, hi, Nat.eq_of_beq_eq_true h3, Nat.eq_of_beq_eq_true h4, ?_, hu⟩
    split at h5
    · assumption
    · cases h5
  · cases h1
theorem appSK_ok {t ut ty : TypeId} {x y : A} {k : S -> Option X} (h : appSK P N σ d t ut x y k = some r) : ∃ σ', k σ' = some r /\ ∀ lab ρ a w, Rl w0 N lab ρ σ a w -> ∀ u v, RA w w0.heap.size lab ρ x u -> RA w w0.heap.size lab ρ y v ->
    ∃ w' lab' ρ' z, (Builtin.append_ #[t, ut] ty #[u, v]).run P w = .ok z w' /\ Rl w0 N lab' ρ' σ' (a.put (some d) z) w' := by
  unfold appSK at h
  split at h
  · rename_i s
    cases hb : strAB P t ut with
    | false => rw [hb] at h; cases h
    | true =>
      rw [hb, cond_true] at h
      obtain ⟨e, i, hut, ht, hi, hsz, hby, hz, hus⟩ := strAB_ok hb
      split at h
      · cases hL : okLen (strE s).length with
        | false => rw [hL] at h; cases h
        | true =>
          rw [hL, cond_true] at h
          have hL : (strE s).length < 1073741824 := by simpa [okLen] using hL
          obtain ⟨hd, h3⟩ := newK_ok h
          refine ⟨_, h3, fun lab ρ a w hR u v hu hv => ?_⟩
          have hu : u = .slice none 0 0 := by cases hu.2; rfl
          subst hu
          obtain rfl := hv.2.str_inv
          obtain ⟨v', w', lab', hrun, hR', hsl⟩ := hR.appendS (ty := ty) (rr := d) (o := 0) (q := false) (l := []) (s := s) (hR.lim d (.inl hd)) hut hus ht hi hz hsz hby (.slNil _ _ _) (by rw [strE_len] at hL; simpa using hL)
          exact ⟨w', lab', _, v', hrun, hR'.set ⟨hsl, by simp [valAt, upd_same]⟩ hd⟩
      · rename_i rr
        split at h
        · rename_i o q l hm
          cases hL : (Nat.blt d N && (Nat.blt rr N || Nat.ble 60000 rr) && okLen (l.length + (strE s).length)) with
          | false => rw [hL] at h; cases h
          | true =>
            rw [hL, cond_true] at h
            rw [Bool.and_eq_true, Bool.and_eq_true, Bool.or_eq_true] at hL
            have hL1 : l.length + (strE s).length < 1073741824 := by simpa [okLen] using hL.2
            have hd : d < N := by have := Nat.le_of_ble_eq_true hL.1.1; omega
            have hrr : rr < N \/ 60000 <= rr := hL.1.2.imp (fun h => by have := Nat.le_of_ble_eq_true h; omega) (fun h => Nat.le_of_ble_eq_true h)
            refine ⟨_, h, fun lab ρ a w hR u v hu hv => ?_⟩
            obtain rfl := hv.2.str_inv
            have hro := hR.root rr _ hm
            generalize he : Root.sl (.sl .u8 (o + 2) q l) = x at hro
            cases hro with
            | blk => cases he
            | mp => cases he
            | gh => cases he
            | sl uu y hρ hr =>
              injection he with he
              subst he
              have huu : uu = u := by
                have h4 := hu.2
                simp only [valAt, hρ] at h4
                injection h4
              subst huu
              obtain ⟨v', w', lab', hrun, hR', hsl⟩ := hR.appendS (ty := ty) (s := s) (hR.lim rr hrr) hut hus ht hi hz hsz hby hr (by rw [strE_len] at hL1; exact hL1)
              exact ⟨w', lab', _, v', hrun, hR'.set ⟨hsl, by simp [valAt, upd_same]⟩ hd⟩
        · cases h
      · cases h
  · cases h
theorem appSK_det {t ut : TypeId} {x y : A} {k : S -> Option X} (h : appSK P N σ d t ut x y k = some r) : ∃ τ, k τ = some r /\ Det (fun X k => appSK (X := X) P N σ d t ut x y k) τ := by
  unfold appSK at h
  split at h
  · rename_i s
    cases hb : strAB P t ut with
    | false => rw [hb] at h; cases h
    | true =>
      rw [hb, cond_true] at h
      split at h
      · cases hL : okLen (strE s).length with
        | false => rw [hL] at h; cases h
        | true =>
          rw [hL, cond_true] at h
          obtain ⟨h3, h4⟩ := newK_det h
          exact ⟨_, h3, fun X k => by simp only [appSK, hb, hL, cond_true]; exact h4 X k⟩
      · rename_i rr
        split at h
        · rename_i o q l hm
          cases hL : (Nat.blt d N && (Nat.blt rr N || Nat.ble 60000 rr) && okLen (l.length + (strE s).length)) with
          | false => rw [hL] at h; cases h
          | true =>
            rw [hL, cond_true] at h
            exact ⟨_, h, fun X k => by simp only [appSK, hb, hm, hL, cond_true]⟩
        · cases h
      · cases h
  · cases h
end
end Go.Proofs.YtckjagaogcbedaaGreat
namespace Go.Proofs.YtckjagaogcbedaaGreat
open Go.RowKit
set_option linter.unusedVariables false
def mapGet (l : List (Int × Bool)) (k : Int) : Bool := match l with
  | [] => false
  | p :: ps => bif k == p.1 then p.2 else mapGet ps k
def mapSet (l : List (Int × Bool)) (k : Int) (v : Bool) : List (Int × Bool) := match l with
  | [] => [(k, v)]
  | p :: ps => bif k == p.1 then (k, v) :: ps else p :: mapSet ps k v
def isMapT (P : Program) (t : TypeId) : Bool := match P.underlying t with
  | some (.map k e) => (match P.underlying k with
    | some (.int .i64) => true
    | _ => false) && (match zeroOf P e with
    | some (.bool false) => true
    | _ => false)
  | _ => false
def makeMapK {X : Type} (N : Nat) (σ : S) (d : Nat) (k : S -> Option X) : Option X := newK N σ d (.mp []) (.pk d mapN) k
def lookK {X : Type} (P : Program) (σ : S) (t : TypeId) (x i : A) (k : A -> Option X) : Option X :=
  match x, i with
  | .pk r n, .lf (.v (.int .i64 key)) => bif Nat.beq n mapN && isMapT P t then (match σ.m r with
    | some (.mp l) => k (.lf (.v (.bool (mapGet l key))))
    | _ => none) else none
  | _, _ => none
def updK {X : Type} (P : Program) (σ : S) (t : TypeId) (x i v : A) (k : S -> Option X) : Option X :=
  match x, i, v with
  | .pk r n, .lf (.v (.int .i64 key)), .lf (.v (.bool b)) => bif Nat.beq n mapN && isMapT P t then (match σ.m r with
    | some (.mp l) => k ⟨σ.t, upd σ.m r (some (.mp (mapSet l key b)))⟩
    | _ => none) else none
  | _, _, _ => none
section
variable {P : Program} {w w' : World} {w0 : Wd} {B N : Nat} {lab lab' : Lab} {ρ ρ' : Nat -> Loc} {σ : S} {a : Act} {X : Type} {d : Nat} {r : X} {o : Oper}
theorem isMapT_ok {t : TypeId} (h : isMapT P t = true) : ∃ k e i, P.underlying t = some (.map k e) /\ P.underlying k = some (.int .i64) /\ P.info? e = some i /\ i.zero = some (.bool false) := by
  unfold isMapT at h
  split at h
  · rename_i k e he
    rw [Bool.and_eq_true] at h
    obtain ⟨h1, h2⟩ := h
    have hk : P.underlying k = some (.int .i64) := by
      split at h1
      · assumption
      · cases h1
    have hz : zeroOf P e = some (.bool false) := by
      split at h2
      · assumption
      · cases h2
    unfold zeroOf at hz
    cases hi : P.info? e with
    | none => rw [hi] at hz; cases hz
    | some i =>
      rw [hi] at hz
      exact ⟨k, e, i, he, hk, hi, hz⟩
  · cases h
theorem Rl.newObj {ob : Obj} {x : Root} {ρ' : Nat -> Loc} (h : Rl w0 N lab ρ σ a w) (hF : w0.F d = none) (hρ : ∀ r, r ≠ d -> ρ' r = ρ r)
    (hx : RootOK (w.alloc ob) w0.heap.size (upd lab w.heap.size (some [d])) ρ' d x) : Rl w0 N (upd lab w.heap.size (some [d])) ρ' ((σ.drop d).root d x) a (w.alloc ob) := by
  refine h.remake hF (BelowS.allocd w0 w _ h.below.size) ⟨by simp, fun b hb _ => Below.heap_alloc w _ b hb, fun b hb => upd_ne _ _ _ (by omega), fun b hb => (h.lab_ge b [] hb).2.2 rfl⟩ (fun b k hb hk => ?_) hρ hx
  by_cases e : b = w.heap.size
  · subst e
    rw [upd_same] at hk
    injection hk with hk
    subst hk
    exact ⟨by simp, by simp⟩
  · rw [upd_ne _ _ _ e] at hk
    have := (h.lab_ge b k hk).2.1
    omega
theorem makeMapK_ok {t : TypeId} {k : S -> Option X} (h : makeMapK N σ d k = some r) : ∃ σ', k σ' = some r /\ ∀ lab ρ a w, Rl w0 N lab ρ σ a w -> ∃ w' lab' ρ' v, (Instr.makeMap t none).run P w = .ok v w' /\ Rl w0 N lab' ρ' σ' (a.put (some d) v) w' := by
  obtain ⟨hd, h⟩ := newK_ok h
  refine ⟨_, h, fun lab ρ a w hR => ?_⟩
  have hrun : (Instr.makeMap t none).run P w = .ok (.map (some w.heap.size)) (w.alloc (.map #[] 0)) := rfl
  refine ⟨_, upd lab w.heap.size (some [d]), upd ρ d (.blk w.heap.size 0), _, hrun, (hR.newObj (hR.lim d (.inl hd)) (fun r hr => upd_ne _ _ _ hr) ?_).set ⟨w.heap.size, upd_same _ _ _, (pkV_map _).symm⟩ hd⟩
  exact .mp w.heap.size 0 #[] [] (upd_same _ _ _) (upd_same _ _ _) (heap_alloc_new w _) rfl
theorem makeMapK_det {k : S -> Option X} (h : makeMapK N σ d k = some r) : ∃ τ, k τ = some r /\ Det (fun X k => makeMapK (X := X) N σ d k) τ := by
  obtain ⟨h1, h2⟩ := newK_det h
  exact ⟨_, h1, h2⟩
def entsOf (l : List (Int × Bool)) : List (Value × Value) := l.map fun p => (.int .i64 p.1, .bool p.2)
theorem findNow_ok : ∀ (es : List MapEntry) (l : List (Int × Bool)) (k : Int) (n : Nat), es.map (fun e => (e.key, e.val)) = entsOf l ->
    (Instr.findNow (.int .i64) (.int .i64 k) es n = some none /\ mapGet l k = false /\ ∀ v, mapSet l k v = l ++ [(k, v)]) \/
    (∃ i b, Instr.findNow (.int .i64) (.int .i64 k) es n = some (some (n + i, .bool b)) /\ mapGet l k = b /\ ∃ h : i < es.length, es[i].key = .int .i64 k /\ ∀ v, entsOf (mapSet l k v) = (es.modify i fun e => { e with key := .int .i64 k, val := .bool v }).map (fun e => (e.key, e.val)))
  | [], [], k, n, _ => .inl ⟨rfl, rfl, fun v => rfl⟩
  | [], _ :: _, k, n, h => by cases h
  | _ :: _, [], k, n, h => by cases h
  | e :: es, p :: l, k, n, h => by
    have h : (e.key, e.val) :: es.map (fun e => (e.key, e.val)) = (.int .i64 p.1, .bool p.2) :: entsOf l := h
    injection h with h1 h2
    injection h1 with hk hv
    have hs : Instr.sameNow (.int .i64) (.int .i64 k) e.key = some (k == p.1) := by
      rw [hk]
      simp [Instr.sameNow]
    cases hb : (k == p.1) with
    | true =>
      have hkp : k = p.1 := by simpa using hb
      refine .inr ⟨0, p.2, ?_, by simp only [mapGet, hb, cond_true], by simp, by simp [hk, hkp], fun v => ?_⟩
      · simp only [Instr.findNow, hs, hb, hv]
        rfl
      · simp only [mapSet, hb, cond_true]
        simp only [List.modify_zero_cons, List.map_cons]
        show (Value.int .i64 k, Value.bool v) :: entsOf l = _
        rw [h2]
    | false =>
      rcases findNow_ok es l k (n + 1) h2 with ⟨a1, a2, a3⟩ | ⟨i, b, a1, a2, hi, a3, a4⟩
      · refine .inl ⟨?_, by simp only [mapGet, hb, cond_false, a2], fun v => by simp only [mapSet, hb, cond_false, a3]; rfl⟩
        simp only [Instr.findNow, hs, hb]
        exact a1
      · refine .inr ⟨i + 1, b, ?_, by simp only [mapGet, hb, cond_false, a2], by simpa using hi, by simpa using a3, fun v => ?_⟩
        · simp only [Instr.findNow, hs, hb]
          rw [a1]
          congr 3
          omega
        · simp only [mapSet, hb, cond_false]
          simp only [List.modify_succ_cons, List.map_cons]
          show (Value.int .i64 p.1, Value.bool p.2) :: entsOf (mapSet l k v) = _
          rw [a4, hk, hv]
theorem findKey_run {kt : TypeId} {k : Int} {es : List MapEntry} {z : Option (Nat × Value)} (hk : P.underlying kt = some (.int .i64)) (h : Instr.findNow (.int .i64) (.int .i64 k) es 0 = some z) : (Instr.findKey kt (.int .i64 k) es).run P w = .ok z w := by
  unfold Instr.findKey
  simp only [Sem.run_bind, run_underlying hk, Result.andThen_ok, h]
  rfl
theorem lookK_ok {t : TypeId} {x i : A} {k : A -> Option X} (h : lookK P σ t x i k = some r) : ∃ v, k v = some r /\ Det (fun X k => lookK (X := X) P σ t x i k) v /\ ∀ lab ρ a w, Rl w0 N lab ρ σ a w -> ∀ u z, RA w w0.heap.size lab ρ x u -> RA w w0.heap.size lab ρ i z ->
    ∃ y, (Instr.lookup t u z false).run P w = .ok y w /\ RA w w0.heap.size lab ρ v y := by
  unfold lookK at h
  split at h
  · rename_i rr n key
    cases hb : (Nat.beq n mapN && isMapT P t) with
    | false => rw [hb] at h; cases h
    | true =>
      rw [hb, cond_true] at h
      split at h
      · rename_i l hm
        refine ⟨_, h, fun X k => by simp only [lookK, hb, cond_true, hm], fun lab ρ a w hR u z hu hz => ?_⟩
        rw [Bool.and_eq_true] at hb
        obtain ⟨kt, et, ti, ht, hkt, hi, hz0⟩ := isMapT_ok hb.2
        have hn := Nat.eq_of_beq_eq_true hb.1
        subst hn
        obtain ⟨b, hρ, rfl⟩ := hu
        have hz : z = .int .i64 key := by
          have h2 := hz.2
          cases h2
          rfl
        subst hz
        have hro := hR.root rr _ hm
        generalize he : Root.mp l = y at hro
        cases hro with
        | blk => cases he
        | sl => cases he
        | gh => cases he
        | mp b' c es l' hρ' hl hh hes =>
          injection he with he
          subst he
          rw [hρ] at hρ'
          injection hρ' with e1 _
          subst e1
          refine ⟨.bool (mapGet l key), ?_, rfl, .bool _ _⟩
          rw [pkV_map]
          unfold Instr.lookup
          simp only [Sem.run_bind, run_underlying ht, Result.andThen_ok, MapKept.run_getObj_map hh, Sem.run_pure]
          rw [MapKept.run_checkKey (k := .int .i64 key) hkt rfl]
          simp only [Result.andThen_ok]
          rcases findNow_ok es.toList l key 0 hes with ⟨a1, a2, _⟩ | ⟨i, v, a1, a2, _⟩
          · rw [findKey_run hkt a1]
            have hzv : (zeroValue et).run P w = .ok (.bool false) w := by simp [zeroValue, typeInfo, hi, hz0]
            simp only [Result.andThen_ok, a2, Sem.run_bind, Sem.run_pure, hzv]
            rfl
          · rw [findKey_run hkt a1]
            simp only [Result.andThen_ok, a2, Sem.run_bind, Sem.run_pure]
            rfl
      · cases h
  · cases h
theorem updK_ok {t : TypeId} {x i v : A} {k : S -> Option X} (h : updK P σ t x i v k = some r) : ∃ σ', k σ' = some r /\ Det (fun X k => updK (X := X) P σ t x i v k) σ' /\ ∀ lab ρ a w, Rl w0 N lab ρ σ a w -> ∀ u z y, RA w w0.heap.size lab ρ x u -> RA w w0.heap.size lab ρ i z -> RA w w0.heap.size lab ρ v y ->
    ∃ w', (Instr.mapUpdate t u z y).run P w = .ok () w' /\ Rl w0 N lab ρ σ' a w' := by
  unfold updK at h
  split at h
  · rename_i rr n key bv
    cases hb : (Nat.beq n mapN && isMapT P t) with
    | false => rw [hb] at h; cases h
    | true =>
      rw [hb, cond_true] at h
      split at h
      · rename_i l hm
        refine ⟨_, h, fun X k => by simp only [updK, hb, cond_true, hm], fun lab ρ a w hR u z y hu hz hy => ?_⟩
        rw [Bool.and_eq_true] at hb
        obtain ⟨kt, et, ti, ht, hkt, hi, hz0⟩ := isMapT_ok hb.2
        have hn := Nat.eq_of_beq_eq_true hb.1
        subst hn
        obtain ⟨b, hρ, rfl⟩ := hu
        have hz : z = .int .i64 key := by
          have h2 := hz.2
          cases h2
          rfl
        subst hz
        have hy : y = .bool bv := by
          have h2 := hy.2
          cases h2
          rfl
        subst hy
        have hro := hR.root rr _ hm
        generalize he : Root.mp l = y at hro
        cases hro with
        | blk => cases he
        | sl => cases he
        | gh => cases he
        | mp b' c es l' hρ' hl hh hes =>
          injection he with he
          subst he
          rw [hρ] at hρ'
          injection hρ' with e1 _
          subst e1
          have hbs : b < w.heap.size := (Array.getElem?_eq_some_iff.1 hh).1
          have hfin : ∀ (es' : Array MapEntry) (c' : Nat), es'.toList.map (fun e => (e.key, e.val)) = entsOf (mapSet l key bv) -> Rl w0 N lab ρ ⟨σ.t, upd σ.m rr (some (.mp (mapSet l key bv)))⟩ a { w with heap := w.heap.setIfInBounds b (.map es' c') } := by
            intro es' c' hes'
            have hW : Wrote w { w with heap := w.heap.setIfInBounds b (.map es' c') } b := by
              refine ⟨by simp, rfl, rfl, rfl, fun k hk => ?_⟩
              show (w.heap.setIfInBounds b _)[k]? = _
              rw [Array.getElem?_setIfInBounds_ne (Ne.symm hk)]
            have hC : Still w { w with heap := w.heap.setIfInBounds b (.map es' c') } lab ρ := by
              intro k ad v ha hv hsl
              obtain ⟨j', i', s', q, rfl, hq, _, _, hh'⟩ := addrAt_lab k ad ha
              have hne : ad.block ≠ b := by
                intro e
                rw [e, hl] at hq
                injection hq with hq
                obtain ⟨v', hv'⟩ := hh' rr hq.symm
                rw [hρ] at hv'
                cases hv'
              exact (World.cell?_of_block (hW.block _ hne)).trans hv
            refine hR.wrote hW hl hC fun r' y hy => ?_
            by_cases hrr : r' = rr
            · subst hrr
              rw [upd_same] at hy
              injection hy with hy
              subst hy
              refine .mp b c' es' _ hρ hl ?_ hes'
              show (w.heap.setIfInBounds b _)[b]? = _
              rw [Array.getElem?_setIfInBounds_self]
              simp [hbs]
            · rw [upd_ne _ _ _ hrr] at hy
              exact (hR.root r' y hy).wrote hW hl hC (not_suffix_one hrr)
          rw [pkV_map]
          unfold Instr.mapUpdate
          simp only [Sem.run_bind, run_underlying ht, Result.andThen_ok, MapKept.run_getObj_map hh, Sem.run_pure]
          rw [MapKept.run_checkKey (k := .int .i64 key) hkt rfl]
          simp only [Result.andThen_ok]
          rcases findNow_ok es.toList l key 0 hes with ⟨a1, a2, a3⟩ | ⟨i, v, a1, a2, hi', a3, a4⟩
          · rw [findKey_run hkt a1]
            simp only [Result.andThen_ok]
            rw [MapKept.run_setObj_map _ hh]
            refine ⟨_, rfl, hfin _ _ ?_⟩
            rw [a3]
            simp only [Array.toList_push, List.map_append, hes, entsOf]
            rfl
          · rw [findKey_run hkt a1]
            simp only [Result.andThen_ok, Nat.zero_add]
            have hkey : (es[i]?.map (·.key)).getD (.int .i64 key) = .int .i64 key := by
              have h1 : i < es.size := by simpa using hi'
              rw [Array.getElem?_eq_getElem h1]
              simpa using a3
            rw [hkey]
            have hst : (Instr.keyThatStays (.int .i64 key) (.int .i64 key)).run P w = .ok (.int .i64 key) w := by
              unfold Instr.keyThatStays
              simp [Instr.sameBits]
            simp only [Sem.run_bind]
            rw [hst]
            simp only [Result.andThen_ok]
            rw [MapKept.run_setObj_map _ hh]
            refine ⟨_, rfl, hfin _ _ ?_⟩
            rw [a4]
            simp
      · cases h
  · cases h
end
end Go.Proofs.YtckjagaogcbedaaGreat
namespace Go.Proofs.YtckjagaogcbedaaGreat
open Go.RowKit
set_option linter.unusedVariables false
def keepD (t : TypeId) (d : Nat) : Bool := [].any fun (p : Nat × Nat) => Nat.beq p.1 t && Nat.beq p.2 d
def keepO (dst : Option Tmp) (t : TypeId) : Bool := match dst with
  | some d => keepD t d
  | none => false
def appXK {X : Type} (P : Program) (N : Nat) (σ : S) (d : Nat) (t : TypeId) (x y : A) (k : S -> Option X) : Option X :=
  match elemInfo P t with
  | some (e, tc) => bif Nat.beq (full tc) 0 && (zeroOf P e).any (fun z => Nat.beq z.cells.size (csz tc)) then yvK σ y fun yv => (match yv.els tc with
    | none => none
    | some l2 => match x with
      | .lf (.own [r]) => (match σ.m r with
        | some (.sl (.sl t' (o + 2) true l)) => if h : t' = tc then (bif !isEmp l2 && okLen (l.length + l2.length) then newK N σ d (.sl (.sl tc (o + 2) false ((h ▸ l) ++ l2))) (.lf (.own [d])) k else none) else none
        | _ => none)
      | _ => none) else none
  | none => none
section
variable {P : Program} {w w' : World} {w0 : Wd} {B N : Nat} {lab lab' : Lab} {ρ ρ' : Nat -> Loc} {σ : S} {a : Act} {X : Type} {d : Nat} {r : X}
theorem Rl.appendX {t e ty : TypeId} {tc : TC} {i : TypeInfo} {z : Value} {rr o g : Nat} {qn : Bool} {l l2 : List (T tc)} {u v : Value} {q' : List Nat} {Bx : Nat} {labx : Lab} (h : Rl w0 N lab ρ σ a w) (hF : w0.F d = none) (hut : P.underlying t = some (.slice e)) (ht : tid tc = e) (hi : P.info? e = some i) (hz : i.zero = some z)
    (hsz : i.size = csz tc) (hby : i.bytes <= 65536) (hzs : z.cells.size = csz tc) (hf : full tc = 0) (hd : RV w w0.heap.size lab [rr] (.sl tc (o + 2) true l) u) (hs : RV w Bx labx q' (.sl tc g qn l2) v) (hne : l2 ≠ []) (hlen : l.length + l2.length < 1073741824) :
    ∃ v' w' lab', (Builtin.append_ #[t, t] ty #[u, v]).run P w = .ok v' w' /\ Rl w0 N lab' (upd ρ d (.hdr v')) ((σ.drop d).root d (.sl (.sl tc (o + 2) false (l ++ l2)))) a w' /\ isSl v' = true := by
  subst ht
  obtain ⟨xs, hown, hblk, hqn, hel⟩ := hd.owns hf (B' := 0) (fun b _ => Nat.zero_le b)
  obtain ⟨A, c, news, rfl, hrd, hone, hel2⟩ := hs.reads hf
  have hb2 : (l.length + l2.length) * i.bytes <= 140737488355328 := by
    have h1 : (l.length + l2.length) * i.bytes <= 1073741824 * 65536 := Nat.mul_le_mul (by omega) hby
    omega
  have hpos : 0 < l2.length := List.length_pos_iff.2 hne
  obtain ⟨v', w', hrun, hown', hgr, hbl⟩ := run_append_any (P := P) w 0 t ty (tid tc) i z (csz tc) i.bytes hut hi hz hsz rfl hzs (csz_pos tc) u l.length xs hown _ A l2.length c news hrd hone (by unfold maxLen; omega) hb2 (Nat.zero_le _)
  have hlen' : (l ++ l2).length = l.length + l2.length := List.length_append
  have hex : ∃ b, u = .slice (some ⟨b, 0, none⟩) l.length l.length := by
    cases hd with
    | fro _ _ _ _ _ _ _ _ _ ho => omega
    | slNon _ _ _ _ _ ho => omega
    | own _ _ _ _ _ b cap cs us hl hh hs hn hm hc hr => exact ⟨b, by rw [hm.2 rfl]⟩
  obtain ⟨b, rfl⟩ := hex
  obtain ⟨b', off', rfl, _, hcs⟩ := hrd.2 hpos
  have hnews : ∀ j x, news[j]? = some x -> w.cell? ((⟨b', off', none⟩ : Addr).add j) = some x := by
    intro j x hx
    have hadd : (⟨b', off', none⟩ : Addr).add j = ⟨b', off' + j, none⟩ := by unfold Addr.add; split <;> simp_all
    rw [hadd]
    exact hcs j x hx
  have hgrow := run_append_grow (P := P) w t ty (tid tc) i z hut hi hz ⟨b, 0, none⟩ l.length l.length xs (by rw [hsz]; exact hown.1) (hown.cells (g := b) rfl) ⟨b', off', none⟩ l2.length c news (by rw [hsz]; exact hrd.1) hnews (by omega) (by omega) (growslice_fits (by omega) hb2)
  rw [hrun] at hgrow
  injection hgrow with e1 e2
  have hold : ∀ k, k < w.heap.size -> w'.heap[k]? = w.heap[k]? := by
    intro k hk
    rw [e2]
    exact heap_alloc_old w.drew _ hk
  have hvb : v'.ownBlock = some w.heap.size := by rw [e1]; rfl
  have hlt : w.heap.size < w'.heap.size := by rw [e2]; simp
  rw [<- hlen'] at hown'
  have hel' := hel.append hel2 hown.1
  have hsl : isSl v' = true := by rw [e1]; rfl
  have hbel0 : Below 0 w w' := (Below.refl 0 w).grown hgr (Nat.zero_le _) (fun _ _ => Nat.zero_le _)
  have hbel : BelowS w0 w w' := ⟨hbel0.os, hbel0.tape, hbel0.output, hbel0.size, fun k hk hL => hold k (Nat.lt_of_lt_of_le hk h.below.size)⟩
  refine ⟨v', w', upd lab w.heap.size (some [d]), hrun, h.remake hF hbel ⟨hgr.size, fun b hb _ => hold b hb, fun b hb => upd_ne _ _ _ (by omega), fun b hb => (h.lab_ge b [] hb).2.2 rfl⟩ (fun b k hb hk => ?_) (fun r hr => upd_ne _ _ _ hr) (.sl v' _ (upd_same _ _ _) (owns_RV hown' hel' (fun b hb => ?_))), hsl⟩
  · by_cases e : b = w.heap.size
    · subst e
      rw [upd_same] at hk
      injection hk with hk
      subst hk
      exact ⟨hlt, by simp⟩
    · rw [upd_ne _ _ _ e] at hk
      have := (h.lab_ge b k hk).2.1
      omega
  · rw [hvb] at hb
    injection hb with hb
    subst hb
    exact upd_same _ _ _
theorem appXK_ok {t ty : TypeId} {x y : A} {k : S -> Option X} (h : appXK P N σ d t x y k = some r) : ∃ σ', k σ' = some r /\ ∀ lab ρ a w, Rl w0 N lab ρ σ a w -> ∀ u v, RA w w0.heap.size lab ρ x u -> RA w w0.heap.size lab ρ y v ->
    ∃ w' lab' ρ' z, (Builtin.append_ #[t, t] ty #[u, v]).run P w = .ok z w' /\ Rl w0 N lab' ρ' σ' (a.put (some d) z) w' := by
  unfold appXK at h
  split at h
  · rename_i e tc hei
    obtain ⟨hut, ht, i, hi, hsz, hby⟩ := elemInfo_ok hei
    cases hc : (Nat.beq (full tc) 0 && (zeroOf P e).any (fun z => Nat.beq z.cells.size (csz tc))) with
    | false => rw [hc] at h; cases h
    | true =>
      rw [hc, cond_true] at h
      rw [Bool.and_eq_true] at hc
      have hf := Nat.eq_of_beq_eq_true hc.1
      obtain ⟨z, hz, hzs⟩ := (Option.any_eq_true _ _).1 hc.2
      have hzs := Nat.eq_of_beq_eq_true hzs
      have hzi : i.zero = some z := by unfold zeroOf at hz; simpa [hi] using hz
      obtain ⟨yv, hyv, h2⟩ := yvK_inv (w0 := w0) (N := N) h
      clear h
      split at h2
      · cases h2
      · rename_i l2 hl2
        split at h2
        · rename_i rr
          split at h2
          · rename_i t' o l hm
            split at h2
            · rename_i htt
              subst htt
              cases hL : (!isEmp l2 && okLen (l.length + l2.length)) with
              | false => rw [hL] at h2; cases h2
              | true =>
                rw [hL, cond_true] at h2
                rw [Bool.and_eq_true] at hL
                have hne : l2 ≠ [] := by rintro rfl; cases hL.1
                have hL1 : l.length + l2.length < 1073741824 := by simpa [okLen] using hL.2
                obtain ⟨hd, h3⟩ := newK_ok h2
                refine ⟨_, h3, fun lab ρ a w hR u v hu hv => ?_⟩
                obtain ⟨q', _, _, hv'⟩ := hyv lab ρ a w hR v hv
                obtain ⟨g, qn, hv'⟩ := els_RV hl2 hv'
                have hro := hR.root rr _ hm
                generalize he : Root.sl (.sl t' (o + 2) true l) = x at hro
                cases hro with
                | blk => cases he
                | mp => cases he
                | gh => cases he
                | sl uu y hρ hr =>
                  injection he with he
                  subst he
                  have huu : uu = u := by
                    have h4 := hu.2
                    simp only [valAt, hρ] at h4
                    injection h4
                  subst huu
                  obtain ⟨v', w', lab', hrun, hR', hsl⟩ := hR.appendX (ty := ty) (d := d) (hR.lim d (.inl hd)) hut ht hi hzi hsz hby hzs hf hr hv' hne hL1
                  exact ⟨w', lab', _, v', hrun, hR'.set ⟨hsl, by simp [valAt, upd_same]⟩ hd⟩
            · cases h2
          · cases h2
        · cases h2
  · cases h
theorem appXK_det {t : TypeId} {x y : A} {k : S -> Option X} (h : appXK P N σ d t x y k = some r) : ∃ τ, k τ = some r /\ Det (fun X k => appXK (X := X) P N σ d t x y k) τ := by
  unfold appXK at h
  split at h
  · rename_i e tc hei
    cases hc : (Nat.beq (full tc) 0 && (zeroOf P e).any (fun z => Nat.beq z.cells.size (csz tc))) with
    | false => rw [hc] at h; cases h
    | true =>
      rw [hc, cond_true] at h
      obtain ⟨yv, h2, hd⟩ := yvK_det h
      clear h
      split at h2
      · cases h2
      · rename_i l2 hl2
        split at h2
        · rename_i rr
          split at h2
          · rename_i t' o l hm
            split at h2
            · rename_i htt
              subst htt
              cases hL : (!isEmp l2 && okLen (l.length + l2.length)) with
              | false => rw [hL] at h2; cases h2
              | true =>
                rw [hL, cond_true] at h2
                obtain ⟨h3, h4⟩ := newK_det h2
                exact ⟨_, h3, fun X k => by
                  simp only [appXK, hei, hc, cond_true]
                  exact (hd.at_ _).trans (by simp only [hl2, hm, dif_pos, hL, cond_true]; exact h4 X k)⟩
            · cases h2
          · cases h2
        · cases h2
  · cases h
end
end Go.Proofs.YtckjagaogcbedaaGreat
namespace Go.Proofs.YtckjagaogcbedaaGreat
open Go.RowKit
set_option linter.unusedVariables false
abbrev Ctrs := Nat -> Option CtrX
def CtrsOK (P : Program) (Φ : Ctrs) : Prop := ∀ f c, Φ f = some c -> enters P f /\ CtrXOK P f c
def withD {X : Type} (o : Oper) (k : Nat -> Option X) : Option X :=
  match o.dst with
  | some d => k d
  | none => none
def isV : Op -> Bool
  | .move _ | .assign _ | .pick .. | .build .. | .load .. | .binOp .. | .unOp .. | .convert .. | .fieldAddr .. | .field .. | .indexAddr .. | .index .. | .extract .. | .nilCheck _ => true
  | .call ⟨.builtin .len, _, _⟩ | .call ⟨.builtin .max, _, _⟩ | .call ⟨.builtin .min, _, _⟩ => true
  | .slice _ _ _ _ none => true
  | _ => false
def valK {X : Type} (P : Program) (σ : S) (op : Op) (k : A -> Option X) : Option X :=
  match op with
  | .move x => k (opd σ x)
  | .assign x => k (opd σ x)
  | .pick c x y => (match opd σ c with
    | .lf (.v (.bool b)) => bif b then k (opd σ x) else k (opd σ y)
    | _ => none)
  | .build t parts => buildK P σ t parts.toList k
  | .load t x => loadK P σ t (opd σ x) k
  | .binOp op t x y _ => binAK P σ op t (opd σ x) (opd σ y) k
  | .unOp op _ x => vK (opd σ x) fun a => unK op a fun z => k (.lf (.v z))
  | .convert s d x => convK P σ s d (opd σ x) k
  | .fieldAddr s x f => fieldK P s (opd σ x) f k
  | .field s x f => partK P s (opd σ x) f k
  | .indexAddr t x i => idxK P σ t (opd σ x) (opd σ i) k
  | .index t x i => strIdxK P t (opd σ x) (opd σ i) k
  | .extract x i => extK (opd σ x) i k
  | .nilCheck x => nilK (opd σ x) k
  | .call ⟨.builtin .len, ⟨[x]⟩, ⟨[t]⟩⟩ => lenK P σ t (opd σ x) k
  | .call ⟨.builtin .max, ⟨[x, y]⟩, ⟨[_, _]⟩⟩ => mmK true (opd σ x) (opd σ y) k
  | .call ⟨.builtin .min, ⟨[x, y]⟩, ⟨[_, _]⟩⟩ => mmK false (opd σ x) (opd σ y) k
  | .slice t x lo hi none => slcK P σ t (opd σ x) (lo.map (opd σ)) (hi.map (opd σ)) k
  | _ => none
def memK {X : Type} (P : Program) (N : Nat) (Φ : Ctrs) (σ : S) (o : Oper) (k : S -> Option X) : Option X :=
  match o.op with
  | .alloc e => withD o fun d => allocK P N σ d e k
  | .box e x => withD o fun d => boxK N σ d (opd σ x) k
  | .buildSlice t len parts => withD o fun d => bif nestT t then pkK P N σ d t len parts.toList k else buildSK P N σ d t len parts.toList k
  | .store t x y => (match o.dst with
    | none => bif gives (opd σ x) (opd σ y) then storeNK P σ t (opd σ x) (opd σ y) k else storeK P σ t (opd σ x) (opd σ y) k
    | some _ => none)
  | .makeSlice t l c => withD o fun d => makeK P N σ d t (opd σ l) (opd σ c) k
  | .call ⟨.value (.func f), args, _⟩ => (match Φ f with
    | some (.p c) => withD o fun d => callK N σ d c args.toList k
    | some (.m c) => callMK N σ o.dst c args.toList k
    | some (.v c) => withD o fun d => callVK N σ d c args.toList k
    | some (.n F) => withD o fun d => (match args.toList with
      | [x] => freshK N σ d F (opd σ x) k
      | _ => none)
    | some (.i c) => callIK N σ o.dst c (args.toList.map (opd σ) ++ []) k
    | some (.d c) => deepK N σ o.dst c args.toList k
    | some (.q c) => withD o fun d => callQK N σ d c args.toList k
    | none => none)
  | .call ⟨.builtin .append, ⟨[x, y]⟩, ⟨[t, t']⟩⟩ => bif Nat.beq t t' then withD o fun d => bif nestT t then appNK P N σ d t (opd σ x) (opd σ y) k else bif keepD t d then appXK P N σ d t (opd σ x) (opd σ y) k else appK P N σ d t (opd σ x) (opd σ y) k else withD o fun d => appSK P N σ d t t' (opd σ x) (opd σ y) k
  | .makeMap _ none => withD o fun d => makeMapK N σ d k
  | .lookup t x i false => lookK P σ t (opd σ x) (opd σ i) fun v => putK N σ o.dst v k
  | .mapUpdate t x i v => (match o.dst with
    | none => updK P σ t (opd σ x) (opd σ i) (opd σ v) k
    | some _ => none)
  | .call ⟨.value (.tmp t), args, _⟩ => (match clX (opd σ (.tmp t)) with
    | some (f, ex) => (match Φ f with
      | some (.i c) => callIK N σ o.dst c (args.toList.map (opd σ) ++ ex) k
      | _ => none)
    | none => none)
  | .makeFunc (.func f) ⟨[]⟩ caps => (match capsK σ caps.toList with
    | some ps => putK N σ o.dst (.fn f ps) k
    | none => none)
  | _ => none
def opK {X : Type} (P : Program) (N : Nat) (Φ : Ctrs) (σ : S) (o : Oper) (k : S -> Option X) : Option X :=
  bif isV o.op then valK P σ o.op fun v => putK N σ o.dst v k else memK P N Φ σ o k
def opFK {X : Type} (P : Program) (N : Nat) (Φ : Ctrs) (σ : S) (o : Oper) (k : S -> Option X) : Option X :=
  match o.op, o.dst with
  | .store t x y, none => (match opd σ y with
    | .view [q] s i j => storeVK P σ q s i j t (opd σ x) k
    | _ => opK P N Φ σ o k)
  | .slice _ x _ _ none, some _ => opK P N Φ (iceS σ (opd σ x)) o k
  | _, _ => opK P N Φ σ o k
def wantK (σ : S) (ops : Array Oper) (o : Oper) : Option Bool :=
  match o.guard with
  | none => some true
  | some (j, want) => match (ops[j]?).bind (·.dst) with
    | some t => (match σ.t t with
      | .lf (.v (.bool b)) => some (b == want)
      | .skip => some false
      | _ => none)
    | none => none
def isGuard (ops : Array Oper) (j : Nat) : Bool := ops.toList.any fun o => match o.guard with
  | some (i, _) => Nat.beq i j
  | none => false
def splitK {X : Type} (σ : S) (dst : Option Tmp) (g : Bool) (k : S -> Option X) : Option X :=
  bif g then (match dst with
    | some d => (match σ.t d with
      | .lf (.v (.bool b)) => bif b then k (σ.set d (.lf (.v (.bool true)))) else k (σ.set d (.lf (.v (.bool false))))
      | _ => k σ)
    | none => k σ) else k σ
def regK {X : Type} (P : Program) (N : Nat) (Φ : Ctrs) (ops : Array Oper) : Nat -> List Oper -> S -> (S -> Option X) -> Option X
  | _, [], σ, k => k σ
  | j, o :: rest, σ, k => match wantK σ ops o with
    | some true => opFK P N Φ σ o fun σ' => splitK σ' o.dst (isGuard ops j) fun σ'' => regK P N Φ ops (j + 1) rest σ'' k
    | some false => putK N σ o.dst .skip fun σ' => regK P N Φ ops (j + 1) rest σ' k
    | none => none
/-! Regions whose order is open: what is listed is a set of bits. -/
def doK {X : Type} (P : Program) (N : Nat) (Φ : Ctrs) (ops : Array Oper) (σ : S) (o : Oper) (k : S -> Option X) : Option X :=
  match wantK σ ops o with
  | some true => opK P N Φ σ o k
  | some false => putK N σ o.dst .skip k
  | none => none
def rdB (ops : Array Oper) (L j : Nat) : Bool := !L.testBit j && (match ops[j]? with
  | some o => o.after.toList.all fun e => !Region.binds .any e || L.testBit e.on
  | none => false)
def waitsOn (ops : Array Oper) (i W j : Nat) : Bool := (match ops[j]? with
  | some o => o.after.toList.any fun e => Region.binds .any e && (Nat.beq e.on i || W.testBit e.on)
  | none => false)
def waits (ops : Array Oper) (i : Nat) : Nat -> Nat -> Nat -> Nat
  | 0, _, W => W
  | n + 1, j, W => waits ops i n (j + 1) (bif waitsOn ops i W j then W ||| 2 ^ j else W)
def nmOf (o : Oper) (n : Nat) : Bool := match o.dst with
  | some d => (match o.op with
    | .alloc _ | .box .. | .buildSlice .. | .makeSlice .. => Nat.beq n d
    | .call ⟨.value (.func _), _, _⟩ => Nat.ble (1000000000100000 + 1000 * d) n
    | .call ⟨.builtin .append, _, _⟩ => Nat.beq n d
    | _ => false)
  | none => false
def tame (Φ : Ctrs) (op : Op) : Bool := isV op || (match op with
  | .alloc _ | .box .. | .buildSlice .. | .makeSlice .. => true
  | .call ⟨.value (.func f), _, _⟩ => (match Φ f with
    | some (.p _) => true
    | _ => false)
  | _ => false)
def pendB (g : Oper -> Bool) (ops : Array Oper) (i L W : Nat) : Nat -> Nat -> Bool
  | 0, _ => false
  | f + 1, j => (!(Nat.beq j i || L.testBit j || W.testBit j) && (match ops[j]? with
    | some oj => g oj
    | none => false)) || pendB g ops i L W f (j + 1)
def freeB (g : Oper -> Bool) (ops : Array Oper) (oi : Oper) (i L W : Nat) : Nat -> Nat -> Bool
  | 0, _ => true
  | n + 1, j => (Nat.beq j i || L.testBit j || (bif W.testBit j then waitsOn ops i W j else (match ops[j]? with
    | some oj => g oj && oi.apart ops oj
    | none => true))) && freeB g ops oi i L W n (j + 1)
def flatM (c : CtrM) : Bool := c.ps.all fun p => match p with
  | .v _ _ => true
  | .p _ g _ => Nat.beq g 0
  | .s _ _ => false
def argsB (ok : Nat -> Nat -> Bool) (σ : S) : List PK -> List Operand -> Bool
  | .p _ _ _ :: ps, .tmp t :: xs => (match σ.t t with
    | .bptr r _ => ok t r
    | _ => false) && argsB ok σ ps xs
  | .v _ _ :: ps, _ :: xs => argsB ok σ ps xs
  | [], [] => true
  | _, _ => false
def rootsA (σ : S) : List PK -> List Operand -> List Nat
  | .p _ _ _ :: ps, x :: xs => (match opd σ x with
    | .bptr r _ => r :: rootsA σ ps xs
    | _ => rootsA σ ps xs)
  | _ :: ps, _ :: xs => rootsA σ ps xs
  | _, _ => []
def rootsJ (Φ : Ctrs) (σ : S) (o : Oper) : List Nat := match o.op with
  | .call ⟨.value (.func f), args, _⟩ => (match Φ f with
    | some (.m c) => rootsA σ c.ps args.toList
    | _ => [])
  | _ => []
def dstIs (t : Nat) (o : Oper) : Bool := match o.dst with
  | some d => Nat.beq d t
  | none => false
def isAl (o : Oper) : Bool := (match o.op with
  | .alloc _ => true
  | _ => false) && o.guard.isNone && (match o.dst with
  | some d => Nat.blt d 20000
  | none => false)
def isMk (o : Oper) : Bool := (match o.op with
  | .alloc _ => true
  | .buildSlice t _ _ => !nestT t
  | .makeSlice .. => true
  | _ => false) && (match o.dst with
  | some d => Nat.blt d 20000
  | none => false)
def isApp (o : Oper) : Bool := match o.op with
  | .call ⟨.builtin .append, ⟨[_, _]⟩, ⟨[t, t']⟩⟩ => !nestT t && Nat.beq t t' && !keepO o.dst t
  | _ => false
def flatB (Φ : Ctrs) (ops : Array Oper) (i L W : Nat) (σ : S) (o : Oper) : Bool := match o.op with
  | .call ⟨.value (.func f), args, _⟩ => (match Φ f with
    | some (.m c) => flatM c && argsB (fun t r => !pendB (dstIs t) ops i L W ops.size 0 && !pendB (fun ok => nmOf ok r) ops i L W ops.size 0 && !pendB isApp ops i L W ops.size 0) σ c.ps args.toList
    | _ => false)
  | _ => false
def A.nr2 (p pb : Nat -> Bool) : A -> Bool
  | .lf x => x.nr p
  | .agg cs => cs.all (Lf.nr p)
  | .tup xs => xs.all fun q => q.2.all (Lf.nr p)
  | .ptr k => keyNr p k
  | .bptr r _ => !pb r
  | .pk r _ => !pb r
  | .view k _ _ _ => keyNr p k
  | .fn _ cap => cap.all fun q => !pb q.1
  | _ => true
def storeR (σ : S) (o : Oper) : List Nat := match o.op with
  | .store _ (.tmp t) _ => (match σ.t t with
    | .bptr r _ => [r]
    | _ => [])
  | .call ⟨.builtin .append, ⟨[.tmp t, _]⟩, ⟨[_, _]⟩⟩ => (match σ.t t with
    | .lf (.own [r]) => [r]
    | _ => [])
  | _ => []
def appR (σ : S) (o : Oper) : List Nat := match o.op with
  | .call ⟨.builtin .append, ⟨[.tmp t, _]⟩, ⟨[_, _]⟩⟩ => (match σ.t t with
    | .lf (.own [r]) => [r]
    | _ => [])
  | _ => []
def stTo (t : Nat) (o : Oper) : Bool := match o.op with
  | .store _ (.tmp t') _ => Nat.beq t' t
  | _ => false
def faR (ops : Array Oper) (i L W : Nat) (σ : S) (o : Oper) : List Nat := match o.op, o.dst with
  | .fieldAddr _ (.tmp x) _, some t => bif pendB (stTo t) ops i L W ops.size 0 then (match σ.t x with
    | .bptr r _ => [r]
    | _ => []) else []
  | _, _ => []
def badP0 (Φ : Ctrs) (ops : Array Oper) (i L W : Nat) (σ : S) (n : Nat) : Bool :=
  pendB (fun o => nmOf o n) ops i L W ops.size 0 || pendB (fun o => memB n (rootsJ Φ σ o) || memB n (storeR σ o)) ops i L W ops.size 0
def badP (Φ : Ctrs) (ops : Array Oper) (i L W : Nat) (σ : S) (n : Nat) : Bool :=
  badP0 Φ ops i L W σ n || pendB (fun o => memB n (faR ops i L W σ o)) ops i L W ops.size 0
def badB (σ : S) (ops : Array Oper) (i L W : Nat) (n : Nat) : Bool := pendB (fun o => nmOf o n) ops i L W ops.size 0 || pendB (fun o => memB n (appR σ o)) ops i L W ops.size 0
def isPc (Φ : Ctrs) (o : Oper) : Bool := match o.op with
  | .call ⟨.value (.func f), _, _⟩ => (match Φ f with
    | some (.p _) => true
    | _ => false)
  | _ => false
def okA (Φ : Ctrs) (ops : Array Oper) (i L W : Nat) (t : Nat) : Bool := !pendB (fun ok => dstIs t ok && !(isMk ok || isApp ok || isPc Φ ok)) ops i L W ops.size 0
def appB (Φ : Ctrs) (ops : Array Oper) (i L W : Nat) (o : Oper) : Bool := match o.op with
  | .call ⟨.builtin .append, ⟨[.tmp t, _]⟩, ⟨[ty, ty']⟩⟩ => okA Φ ops i L W t && (!nestT ty && Nat.beq ty ty' && !keepO o.dst ty)
  | _ => false
def okX (Φ : Ctrs) (ops : Array Oper) (i L W : Nat) (σ : S) (x : Nat) : Bool := !pendB (dstIs x) ops i L W ops.size 0 && (match σ.t x with
  | .bptr r _ => badP Φ ops i L W σ r
  | .fptr _ => true
  | _ => false)
def faOk (Φ : Ctrs) (ops : Array Oper) (i L W : Nat) (σ : S) (o : Oper) : Bool := match o.op with
  | .fieldAddr _ (.tmp x) _ => okX Φ ops i L W σ x
  | _ => false
def okSt (Φ : Ctrs) (ops : Array Oper) (i L W : Nat) (σ : S) (t : Nat) : Bool := !pendB (fun ok => dstIs t ok && !(isAl ok || faOk Φ ops i L W σ ok)) ops i L W ops.size 0
def storeB (Φ : Ctrs) (ops : Array Oper) (i L W : Nat) (σ : S) (o : Oper) : Bool := match o.op with
  | .store _ (.tmp t) _ => o.dst.isNone && okSt Φ ops i L W σ t && (match σ.t t with
    | .ptr _ => false
    | _ => true)
  | _ => false
def opsNr (σ : S) (p : Nat -> Bool) (o : Oper) : Bool := o.op.operands.toList.all fun x => (opd σ x).nr p
def opsNr2 (σ : S) (p pb : Nat -> Bool) (o : Oper) : Bool := (o.op.operands.toList.all fun x => (opd σ x).nr2 p pb) && (match o.op with
  | .load _ x => (match opd σ x with
    | .bptr r _ => !p r
    | _ => true)
  | _ => true)
def canTake (Φ : Ctrs) (ops : Array Oper) (L : Nat) (σ : S) (i : Nat) : Bool := match ops[i]? with
  | some oi => (isV oi.op || (match wantK σ ops oi with
    | some b => !b
    | none => false)) && Nat.beq ((L ||| 2 ^ i) &&& waits ops i ops.size 0 0) 0 && freeB (fun oj => tame Φ oj.op || flatB Φ ops i L (waits ops i ops.size 0 0) σ oj || storeB Φ ops i L (waits ops i ops.size 0 0) σ oj || appB Φ ops i L (waits ops i ops.size 0 0) oj) ops oi i L (waits ops i ops.size 0 0) ops.size 0 && opsNr2 σ (badP Φ ops i L (waits ops i ops.size 0 0) σ) (badB σ ops i L (waits ops i ops.size 0 0)) oi
  | none => false
def takeK {X : Type} (P : Program) (N : Nat) (Φ : Ctrs) (ops : Array Oper) (L i : Nat) (σ : S) (o : Oper) (k : S -> Option X) : Option X :=
  match wantK σ ops o with
  | some true => valK P σ o.op fun v => bif v.nr2 (badP Φ ops i L (waits ops i ops.size 0 0) σ) (badB σ ops i L (waits ops i ops.size 0 0)) then putK N σ o.dst v k else none
  | some false => putK N σ o.dst .skip k
  | none => none
/-! A call may be taken first where all that is free beside it are new blocks. -/
def A.isV : A -> Bool
  | .lf (.v _) => true
  | .agg cs => cs.all fun l => match l with
    | .v _ => true
    | _ => false
  | _ => false
def mkB (ops : Array Oper) (i L W : Nat) (σ : S) (o : Oper) : Bool := isMk o && (match wantK σ ops o with
  | some b => b
  | none => false) && (o.op.operands.toList.all fun x => (opd σ x).isV && (match x with
    | .tmp t => !pendB (dstIs t) ops i L W ops.size 0
    | _ => true)) && (match o.guard with
  | some (g, _) => (match (ops[g]?).bind (·.dst) with
    | some t => !pendB (dstIs t) ops i L W ops.size 0
    | none => true)
  | none => true)
def isCl (Φ : Ctrs) (o : Oper) : Bool := match o.op with
  | .call ⟨.value (.func f), _, _⟩ => (match Φ f with
    | some (.p _) => true
    | some (.m _) => true
    | _ => false)
  | _ => false
def isSt (o : Oper) : Bool := (match o.op with
  | .store _ (.tmp _) _ => true
  | _ => false) && o.dst.isNone
def stB (σ : S) (o : Oper) : Bool := match o.op with
  | .store _ (.tmp t) _ => (match σ.t t with
    | .bptr _ _ => true
    | _ => false)
  | _ => true
def isFs (Φ : Ctrs) (o : Oper) : Bool := isCl Φ o || isMk o || isApp o || isSt o
def leavesNr (σ : S) (p : Nat -> Bool) (r : Nat) : Bool := match σ.m r with
  | some (.blk cs) => cs.all (Lf.nr p)
  | _ => true
def alNm (o : Oper) (n : Nat) : Bool := dstIs n o
def canCall (Φ : Ctrs) (ops : Array Oper) (L : Nat) (σ : S) (i : Nat) : Bool := match ops[i]? with
  | some oi => isFs Φ oi && Nat.beq ((L ||| 2 ^ i) &&& waits ops i ops.size 0 0) 0 && freeB (mkB ops i L (waits ops i ops.size 0 0) σ) ops oi i L (waits ops i ops.size 0 0) ops.size 0 &&
      opsNr σ (fun n => pendB (fun o => alNm o n) ops i L (waits ops i ops.size 0 0) ops.size 0) oi && (rootsJ Φ σ oi).all (leavesNr σ (fun n => pendB (fun o => alNm o n) ops i L (waits ops i ops.size 0 0) ops.size 0)) && stB σ oi
  | none => false
def drawK {X : Type} (P : Program) (N : Nat) (Φ : Ctrs) (ops : Array Oper) : Nat -> Nat -> S -> (S -> Option X) -> Option X
  | 0, L, σ, k => (match (List.range ops.size).filter (rdB ops L) with
    | [] => k σ
    | _ => none)
  | f + 1, L, σ, k => (match (List.range ops.size).filter (rdB ops L) with
    | [] => k σ
    | [i] => (match ops[i]? with
      | some o => doK P N Φ ops σ o fun σ' => splitK σ' o.dst (isGuard ops i) fun σ'' => drawK P N Φ ops f (L ||| 2 ^ i) σ'' k
      | none => none)
    | rs => (match rs.find? (canTake Φ ops L σ) with
      | some i => (match ops[i]? with
        | some o => takeK P N Φ ops L i σ o fun σ' => splitK σ' o.dst (isGuard ops i) fun σ'' => drawK P N Φ ops f (L ||| 2 ^ i) σ'' k
        | none => none)
      | none => (match rs.find? (canCall Φ ops L σ) with
        | some i => (match ops[i]? with
          | some o => doK P N Φ ops σ o fun σ' => splitK σ' o.dst (isGuard ops i) fun σ'' => drawK P N Φ ops f (L ||| 2 ^ i) σ'' k
          | none => none)
        | none => none)))
/-! A new slice of constants may come first, beside values and calls of contents. -/
def isE : Op -> Bool
  | .move _ | .assign _ | .load .. | .binOp .. | .unOp .. | .field .. | .fieldAddr .. | .index .. => true
  | .call ⟨.builtin .len, _, _⟩ => true
  | _ => false
def besideE (Φ : Ctrs) (o : Oper) : Bool := isE o.op || (match o.op with
  | .call ⟨.value (.func f), _, _⟩ => (match Φ f with
    | some (.p _) => true
    | _ => false)
  | _ => false)
def early (Φ : Ctrs) (ops : Array Oper) (i : Nat) : Bool := match ops[i]? with
  | some o => (match o.op with
    | .buildSlice .. => true
    | _ => false) && isMk o && o.guard.isNone && rdB ops 0 i && (o.op.operands.toList.all fun x => match x with
    | .const _ => true
    | _ => false) && Nat.beq ((0 ||| 2 ^ i) &&& waits ops i ops.size 0 0) 0 && freeB (besideE Φ) ops o i 0 (waits ops i ops.size 0 0) ops.size 0
  | none => false
def drawE {X : Type} (P : Program) (N : Nat) (Φ : Ctrs) (ops : Array Oper) (σ : S) (k : S -> Option X) : Option X :=
  match (List.range ops.size).find? (early Φ ops) with
  | some i => (match ops[i]? with
    | some o => (match o.dst with
      | some e => doK P N Φ ops (σ.drop e) o fun σ' => drawK P N Φ ops (ops.size - 1) (0 ||| 2 ^ i) σ' k
      | none => none)
    | none => none)
  | none => drawK P N Φ ops ops.size 0 σ k
structure Blk' where
  run : (X : Type) -> S -> (Exit -> S -> Option X) -> Option X
abbrev Blks := Nat -> Option Blk'
def codeK {X : Type} (P : Program) (N : Nat) (Φ : Ctrs) (Λ : Blks) : Code -> S -> (Exit -> S -> Option X) -> Option X
  | .skip, σ, k => k .normal σ
  | .label _, σ, k => k .normal σ
  | .ret, σ, k => k .ret σ
  | .exit id, σ, k => k (.exit id) σ
  | .region _ ops false, σ, k => regK P N Φ ops 0 ops.toList σ fun σ' => k .normal σ'
  | .region _ ops true, σ, k => bif P.follows .mixedOrders then drawE P N Φ ops σ fun σ' => k .normal σ' else none
  | .seq x y, σ, k => codeK P N Φ Λ x σ fun e σ' => match e with
    | .normal => codeK P N Φ Λ y σ' k
    | e => k e σ'
  | .cond c x y, σ, k => match opd σ c with
    | .lf (.v (.bool b)) => bif b then codeK P N Φ Λ x σ k else codeK P N Φ Λ y σ k
    | _ => none
  | .block id c, σ, k => match Λ id with
    | some b => b.run X σ k
    | none => codeK P N Φ Λ c σ fun e σ' => match e with
      | .exit id' => if id' = id then k .normal σ' else k (.exit id') σ'
      | e => k e σ'
  | _, _, _ => none
def AW (P : Program) (w0 : Wd) (N : Nat) (c : Code) (σ : S) (K : Exit -> S -> Prop) : Prop :=
  ∀ a w, R w0 N σ a w -> c.wp P (fun e a' w' => ∃ σ', K e σ' /\ R w0 N σ' a' w') a w
def occs : Code -> List (Nat × Code)
  | .seq x y => occs x ++ occs y
  | .cond _ x y => occs x ++ occs y
  | .block id c => (id, c) :: occs c
  | _ => []
def BlkOK (P : Program) (N : Nat) (c : Code) (b : Blk') : Prop := ∀ (X : Type) σ k (r : X) w0, b.run X σ k = some r -> AW P w0 N c σ fun e σ' => k e σ' = some r
def BlksOK (P : Program) (N : Nat) (Λ : Blks) (l : List (Nat × Code)) : Prop := ∀ p ∈ l, ∀ b, Λ p.1 = some b -> BlkOK P N (.block p.1 p.2) b
section
variable {P : Program} {w w' : World} {w0 : Wd} {B N : Nat} {lab lab' : Lab} {ρ ρ' : Nat -> Loc} {σ : S} {a : Act} {X : Type} {d : Nat} {r : X} {o : Oper} {Φ : Ctrs} {Λ : Blks}
theorem OpS.mem {σ' : S} (hd : o.dst = some d) (h : ∀ lab ρ a w, Rl w0 N lab ρ σ a w -> ∃ w' lab' ρ' v, (execOp a.eval o).run P w = .ok (.value v) w' /\ Rl w0 N lab' ρ' σ' (a.put (some d) v) w') : OpS P w0 N o σ σ' := by
  intro a w K Q hR hK
  obtain ⟨lab, ρ, hR⟩ := hR
  obtain ⟨w', lab', ρ', v, hrun, hR'⟩ := h lab ρ a w hR
  unfold Oper.wp
  rw [hrun, Oper.upon_value, hd]
  exact hK _ _ ⟨lab', ρ', hR'⟩
theorem withD_ok {k : Nat -> Option X} (h : withD o k = some r) : ∃ d, o.dst = some d /\ k d = some r := by
  unfold withD at h
  split at h
  · rename_i d hd; exact ⟨d, hd, h⟩
  · cases h
theorem run_v {s : Sem Value} {v : Value} (h : s.run P w = .ok v w') : (do pure (.value (<- s)) : Sem Next).run P w = .ok (.value v) w' := by
  rw [Sem.run_bind, h]; rfl
theorem valK_ok {op : Op} {k : A -> Option X} (h : valK P σ op k = some r) : ∃ v, k v = some r /\ Det (fun X k => valK (X := X) P σ op k) v /\ ∀ lab ρ a w (o : Oper), o.op = op -> Rl w0 N lab ρ σ a w -> ∃ u, (execOp a.eval o).run P w = .ok (.value u) w /\ RA w w0.heap.size lab ρ v u := by
  unfold valK at h
  split at h
  · rename_i x
    exact ⟨_, h, fun X k => rfl, fun lab ρ a w o ho hR => ⟨a.eval x, by simp [execOp, ho], hR.opd x⟩⟩
  · rename_i x
    exact ⟨_, h, fun X k => rfl, fun lab ρ a w o ho hR => ⟨a.eval x, by simp [execOp, ho], hR.opd x⟩⟩
  · rename_i c x y
    split at h
    · rename_i b hb
      refine ⟨bif b then opd σ x else opd σ y, by cases b <;> exact h, fun X k => by simp only [valK, hb]; cases b <;> rfl, fun lab ρ a w o ho hR => ?_⟩
      have hc := hR.opd c
      rw [hb] at hc
      have hv := hc.2.bool_inv
      cases b with
      | true => exact ⟨a.eval x, by simp [execOp, ho, hv, asBool], hR.opd x⟩
      | false => exact ⟨a.eval y, by simp [execOp, ho, hv, asBool], hR.opd y⟩
    · cases h
  · rename_i t parts
    obtain ⟨y, h1, hd⟩ := buildK_det h
    obtain ⟨y', h1', hs⟩ := buildK_ok (w0 := w0) (N := N) (k := fun z => some z) (r := y) (hd.at_ _)
    injection h1' with h1'
    subst h1'
    refine ⟨_, h1, fun X k => hd.at_ _, fun lab ρ a w o ho hR => ?_⟩
    obtain ⟨v, hrun, hR'⟩ := hs lab ρ a w hR
    exact ⟨v, by simp only [execOp, ho]; exact run_v hrun, hR'⟩
  · rename_i t x
    obtain ⟨y, h1, hd⟩ := loadK_det h
    obtain ⟨y', h1', hs⟩ := loadK_ok (w0 := w0) (N := N) (k := fun z => some z) (r := y) (hd.at_ _)
    injection h1' with h1'
    subst h1'
    refine ⟨_, h1, fun X k => hd.at_ _, fun lab ρ a w o ho hR => ?_⟩
    obtain ⟨v, hrun, hR'⟩ := hs lab ρ a w hR _ (hR.opd x)
    exact ⟨v, by simp only [execOp, ho]; exact run_v hrun, hR'⟩
  · rename_i op t x y yt
    obtain ⟨z, h1, hd⟩ := binAK_det h
    obtain ⟨z', h1', hs⟩ := binAK_ok (w0 := w0) (N := N) (k := fun z => some z) (r := z) (hd.at_ _)
    injection h1' with h1'
    subst h1'
    refine ⟨_, h1, fun X k => hd.at_ _, fun lab ρ a w o ho hR => ?_⟩
    obtain ⟨t', hrun, hr⟩ := hs lab ρ a w hR x y _ _ (hR.opd x) (hR.opd y)
    exact ⟨t', by simp only [execOp, ho]; exact run_v hrun, hr⟩
  · rename_i op t x
    obtain ⟨u, h1, hd1⟩ := vK_det h
    obtain ⟨z, h3, hd3⟩ := unK_det h1
    obtain ⟨u', hx, h1'⟩ := vK_ok (k := fun z => some z) (r := u) (hd1.at_ _)
    injection h1' with h1'
    subst h1'
    obtain ⟨z', h3', hp, hs⟩ := unK_ok (P := P) (k := fun z => some z) (r := z) (hd3.at_ _)
    injection h3' with h3'
    subst h3'
    refine ⟨_, h3, fun X k => (hd1.at_ _).trans (hd3.at_ _), fun lab ρ a w o ho hR => ?_⟩
    have h1 := hR.opd x
    rw [hx] at h1
    obtain ⟨t', hrun, hr⟩ := hs w _ lab [] _ h1.2
    exact ⟨t', by simp only [execOp, ho]; exact run_v hrun, V.plain_fro hp, hr⟩
  · rename_i s d' x
    obtain ⟨y, h1, hd⟩ := convK_det h
    obtain ⟨y', h1', hs⟩ := convK_ok (w0 := w0) (N := N) (k := fun z => some z) (r := y) (hd.at_ _)
    injection h1' with h1'
    subst h1'
    refine ⟨_, h1, fun X k => hd.at_ _, fun lab ρ a w o ho hR => ?_⟩
    obtain ⟨v, hrun, hR'⟩ := hs lab ρ a w hR _ (hR.opd x)
    exact ⟨v, by simp only [execOp, ho]; exact run_v hrun, hR'⟩
  · rename_i s x f
    obtain ⟨y, h1, hd⟩ := fieldK_det h
    obtain ⟨y', h1', hs⟩ := fieldK_ok (k := fun z => some z) (r := y) (hd.at_ _)
    injection h1' with h1'
    subst h1'
    refine ⟨_, h1, fun X k => hd.at_ _, fun lab ρ a w o ho hR => ?_⟩
    obtain ⟨v, hrun, hR'⟩ := hs w _ lab ρ _ (hR.opd x)
    exact ⟨v, by simp only [execOp, ho]; exact run_v hrun, hR'⟩
  · rename_i s x f
    obtain ⟨y, h1, hd⟩ := partK_det h
    obtain ⟨y', h1', hs⟩ := partK_ok (k := fun z => some z) (r := y) (hd.at_ _)
    injection h1' with h1'
    subst h1'
    refine ⟨_, h1, fun X k => hd.at_ _, fun lab ρ a w o ho hR => ?_⟩
    obtain ⟨v, hrun, hR'⟩ := hs w _ lab ρ _ (hR.opd x)
    exact ⟨v, by simp only [execOp, ho]; exact run_v hrun, hR'⟩
  · rename_i t x i
    obtain ⟨y, h1, hd⟩ := idxK_det h
    obtain ⟨y', h1', hs⟩ := idxK_ok (w0 := w0) (N := N) (k := fun z => some z) (r := y) (hd.at_ _)
    injection h1' with h1'
    subst h1'
    refine ⟨_, h1, fun X k => hd.at_ _, fun lab ρ a w o ho hR => ?_⟩
    obtain ⟨v, hrun, hR'⟩ := hs lab ρ a w hR _ _ (hR.opd x) (hR.opd i)
    exact ⟨v, by simp only [execOp, ho]; exact run_v hrun, hR'⟩
  · rename_i t x i
    obtain ⟨y, h1, hd⟩ := strIdxK_det h
    obtain ⟨y', h1', hs⟩ := strIdxK_ok (k := fun z => some z) (r := y) (hd.at_ _)
    injection h1' with h1'
    subst h1'
    refine ⟨_, h1, fun X k => hd.at_ _, fun lab ρ a w o ho hR => ?_⟩
    obtain ⟨v, hrun, hR'⟩ := hs w _ lab ρ _ _ (hR.opd x) (hR.opd i)
    exact ⟨v, by simp only [execOp, ho]; exact run_v hrun, hR'⟩
  · rename_i x i
    obtain ⟨y, h1, hd⟩ := extK_det h
    obtain ⟨y', h1', hs⟩ := extK_ok (P := P) (k := fun z => some z) (r := y) (hd.at_ _)
    injection h1' with h1'
    subst h1'
    refine ⟨_, h1, fun X k => hd.at_ _, fun lab ρ a w o ho hR => ?_⟩
    obtain ⟨v, hrun, hR'⟩ := hs w _ lab ρ _ (hR.opd x)
    exact ⟨v, by simp only [execOp, ho]; exact run_v hrun, hR'⟩
  · rename_i x
    obtain ⟨h1, hd, hs⟩ := nilK_ok (w := default) (B := 0) (lab := fun _ => none) (ρ := fun _ => .hdr undef) h
    refine ⟨_, h1, fun X k => hd.at_ _, fun lab ρ a w o ho hR => ?_⟩
    obtain ⟨_, _, hs⟩ := nilK_ok (w := w) (B := w0.heap.size) (lab := lab) (ρ := ρ) h
    obtain ⟨ad, hu⟩ := hs _ (hR.opd x)
    refine ⟨a.eval x, ?_, hR.opd x⟩
    simp only [execOp, ho, hu]
    rfl
  · rename_i x t
    obtain ⟨y, h1, hd⟩ := lenK_det h
    refine ⟨_, h1, fun X k => hd.at_ _, fun lab ρ a w o ho hR => ?_⟩
    obtain ⟨y', h1', hs⟩ := lenK_ok (w0 := w0) (N := N) (ty := o.type) (k := fun z => some z) (r := y) (hd.at_ _)
    injection h1' with h1'
    subst h1'
    obtain ⟨v, hrun, hR'⟩ := hs lab ρ a w hR _ (hR.opd x)
    exact ⟨v, by simp only [execOp, ho, resolve, Sem.run_bind, Sem.run_pure, Result.andThen_ok, invoke, builtin, List.map_toArray, List.map_cons, List.map_nil]; rw [hrun]; rfl, hR'⟩
  · rename_i x y t t'
    obtain ⟨z, h1, hd⟩ := mmK_det h
    obtain ⟨z', h1', hs⟩ := mmK_ok (P := P) (k := fun z => some z) (r := z) (hd.at_ _)
    injection h1' with h1'
    subst h1'
    refine ⟨_, h1, fun X k => hd.at_ _, fun lab ρ a w o ho hR => ?_⟩
    obtain ⟨v, hrun, hR'⟩ := hs w _ lab ρ t o.type _ _ (hR.opd x) (hR.opd y)
    refine ⟨v, ?_, hR'⟩
    simp only [execOp, ho, resolve, Sem.run_bind, Sem.run_pure, Result.andThen_ok, invoke, builtin, List.map_toArray, List.map_cons, List.map_nil]
    have hrun : (Builtin.max_ #[t, t'] o.type #[a.eval x, a.eval y]).run P w = .ok v w := hrun
    rw [hrun]; rfl
  · rename_i x y t t'
    obtain ⟨z, h1, hd⟩ := mmK_det h
    obtain ⟨z', h1', hs⟩ := mmK_ok (P := P) (k := fun z => some z) (r := z) (hd.at_ _)
    injection h1' with h1'
    subst h1'
    refine ⟨_, h1, fun X k => hd.at_ _, fun lab ρ a w o ho hR => ?_⟩
    obtain ⟨v, hrun, hR'⟩ := hs w _ lab ρ t o.type _ _ (hR.opd x) (hR.opd y)
    refine ⟨v, ?_, hR'⟩
    simp only [execOp, ho, resolve, Sem.run_bind, Sem.run_pure, Result.andThen_ok, invoke, builtin, List.map_toArray, List.map_cons, List.map_nil]
    have hrun : (Builtin.min_ #[t, t'] o.type #[a.eval x, a.eval y]).run P w = .ok v w := hrun
    rw [hrun]; rfl
  · rename_i t x lo hi
    obtain ⟨y, h1, hd⟩ := slcK_det h
    obtain ⟨y', h1', hs⟩ := slcK_ok (w0 := w0) (N := N) (k := fun z => some z) (r := y) (hd.at_ _)
    injection h1' with h1'
    subst h1'
    refine ⟨_, h1, fun X k => hd.at_ _, fun lab ρ a w o ho hR => ?_⟩
    have ob : ∀ z : Option Operand, (∀ b, z.map (opd σ) = some b -> ∃ v, z.map a.eval = some v /\ RA w w0.heap.size lab ρ b v) /\ (z.map (opd σ) = none -> z.map a.eval = none) := by
      intro z
      cases z with
      | none => exact ⟨fun b hb => (by cases hb), fun _ => rfl⟩
      | some z => exact ⟨fun b hb => (by cases hb; exact ⟨_, rfl, hR.opd z⟩), fun hb => (by cases hb)⟩
    obtain ⟨v, hrun, hr⟩ := hs lab ρ a w hR _ _ _ (hR.opd x) (ob lo).1 (ob lo).2 (ob hi).1 (ob hi).2
    exact ⟨v, by simp only [execOp, ho]; exact run_v hrun, hr⟩
  · cases h
theorem memK_ok {k : S -> Option X} (hΦ : CtrsOK P Φ) (h : memK P N Φ σ o k = some r) : ∃ σ', k σ' = some r /\ OpS P w0 N o σ σ' := by
  unfold memK at h
  split at h
  · rename_i e ho
    obtain ⟨d, hd, h⟩ := withD_ok h
    obtain ⟨σ', h, hs⟩ := allocK_ok (w0 := w0) h
    refine ⟨σ', h, .mem hd fun lab ρ a w hR => ?_⟩
    obtain ⟨w', lab', ρ', v, hrun, hR'⟩ := hs lab ρ a w hR
    exact ⟨w', lab', ρ', v, by simp only [execOp, ho]; exact run_v hrun, hR'⟩
  · rename_i e x ho
    obtain ⟨d, hd, h⟩ := withD_ok h
    obtain ⟨σ', h, hs⟩ := boxK_ok (w0 := w0) (e := e) h
    refine ⟨σ', h, .mem hd fun lab ρ a w hR => ?_⟩
    obtain ⟨w', lab', ρ', v, hrun, hR'⟩ := hs lab ρ a w hR _ (hR.opd x)
    exact ⟨w', lab', ρ', v, by simp only [execOp, ho]; exact run_v hrun, hR'⟩
  · rename_i t len parts ho
    obtain ⟨d, hd, h⟩ := withD_ok h
    cases hn : nestT t with
    | true =>
      rw [hn, cond_true] at h
      obtain ⟨σ', h, hs⟩ := pkK_ok (w0 := w0) h
      refine ⟨σ', h, .mem hd fun lab ρ a w hR => ?_⟩
      obtain ⟨w', lab', ρ', v, hrun, hR'⟩ := hs lab ρ a w hR
      exact ⟨w', lab', ρ', v, by simp only [execOp, ho]; exact run_v hrun, hR'⟩
    | false =>
      rw [hn, cond_false] at h
      obtain ⟨σ', h, hs⟩ := buildSK_ok (w0 := w0) h
      refine ⟨σ', h, .mem hd fun lab ρ a w hR => ?_⟩
      obtain ⟨w', lab', ρ', v, hrun, hR'⟩ := hs lab ρ a w hR
      exact ⟨w', lab', ρ', v, by simp only [execOp, ho]; exact run_v hrun, hR'⟩
  · rename_i t x y ho
    split at h
    · rename_i hd
      cases hn : gives (opd σ x) (opd σ y) with
      | true =>
        rw [hn, cond_true] at h
        obtain ⟨σ', h, hs⟩ := storeNK_ok (w0 := w0) (N := N) h
        refine ⟨σ', h, fun a w K Q hR hK => ?_⟩
        obtain ⟨lab, ρ, hR⟩ := hR
        obtain ⟨w', lab', hrun, hR'⟩ := hs lab ρ a w hR _ _ (hR.opd x) (hR.opd y)
        have : (execOp a.eval o).run P w = .ok .skip w' := by
          simp only [execOp, ho]
          rw [Sem.run_bind, hrun]; rfl
        unfold Oper.wp
        rw [this, Oper.upon_skip, hd]
        exact hK _ _ ⟨lab', ρ, hR'⟩
      | false =>
        rw [hn, cond_false] at h
        obtain ⟨σ', h, hs⟩ := storeK_ok (w0 := w0) (N := N) h
        refine ⟨σ', h, fun a w K Q hR hK => ?_⟩
        obtain ⟨lab, ρ, hR⟩ := hR
        obtain ⟨w', hrun, hR'⟩ := hs lab ρ a w hR _ _ (hR.opd x) (hR.opd y)
        have : (execOp a.eval o).run P w = .ok .skip w' := by
          simp only [execOp, ho]
          rw [Sem.run_bind, hrun]; rfl
        unfold Oper.wp
        rw [this, Oper.upon_skip, hd]
        exact hK _ _ ⟨lab, ρ, hR'⟩
    · cases h
  · rename_i t l c ho
    obtain ⟨d, hd, h⟩ := withD_ok h
    obtain ⟨σ', h, hs⟩ := makeK_ok (w0 := w0) h
    refine ⟨σ', h, .mem hd fun lab ρ a w hR => ?_⟩
    obtain ⟨w', lab', ρ', v, hrun, hR'⟩ := hs lab ρ a w hR _ _ (hR.opd l) (hR.opd c)
    exact ⟨w', lab', ρ', v, by simp only [execOp, ho]; exact run_v hrun, hR'⟩
  · rename_i f args tys ho
    split at h
    · rename_i c hc
      obtain ⟨d, hd, h⟩ := withD_ok h
      obtain ⟨he, hok⟩ := hΦ f _ hc
      exact callK_ok ho hd he hok h
    · rename_i c hc
      obtain ⟨he, hok⟩ := hΦ f _ hc
      exact callMK_ok ho he hok h
    · rename_i c hc
      obtain ⟨d, hd, h⟩ := withD_ok h
      obtain ⟨he, hok⟩ := hΦ f _ hc
      exact callVK_ok ho hd he hok h
    · rename_i F hc
      obtain ⟨d, hd, h⟩ := withD_ok h
      obtain ⟨he, hok⟩ := hΦ f _ hc
      split at h
      · rename_i x hx
        exact freshK_ok ho hx hd he hok h
      · cases h
    · rename_i c hc
      obtain ⟨he, hok⟩ := hΦ f _ hc
      exact callIK_ok (ex := []) ho rfl he hok h
    · rename_i c hc
      obtain ⟨he, hok⟩ := hΦ f _ hc
      exact deepK_ok ho he hok h
    · rename_i c hc
      obtain ⟨d, hd, h⟩ := withD_ok h
      obtain ⟨he, hok⟩ := hΦ f _ hc
      exact callQK_ok ho hd he hok h
    · cases h
  · rename_i x y t t' ho
    cases htt : Nat.beq t t' with
    | false =>
      rw [htt, cond_false] at h
      obtain ⟨d, hd, h⟩ := withD_ok h
      obtain ⟨σ', h, hs⟩ := appSK_ok (w0 := w0) (ty := o.type) h
      refine ⟨σ', h, .mem hd fun lab ρ a w hR => ?_⟩
      obtain ⟨w', lab', ρ', v, hrun, hR'⟩ := hs lab ρ a w hR _ _ (hR.opd x) (hR.opd y)
      refine ⟨w', lab', ρ', v, ?_, hR'⟩
      simp only [execOp, ho, resolve, Sem.run_bind, Sem.run_pure, Result.andThen_ok, invoke, builtin, List.map_toArray, List.map_cons, List.map_nil]
      rw [hrun]; rfl
    | true =>
      rw [htt, cond_true] at h
      obtain rfl := Nat.eq_of_beq_eq_true htt
      obtain ⟨d, hd, h⟩ := withD_ok h
      have hh : ∃ σ', k σ' = some r /\ ∀ lab ρ a w, Rl w0 N lab ρ σ a w -> ∀ u v, RA w w0.heap.size lab ρ (opd σ x) u -> RA w w0.heap.size lab ρ (opd σ y) v ->
          ∃ w' lab' ρ' z, (Builtin.append_ #[t, t] o.type #[u, v]).run P w = .ok z w' /\ Rl w0 N lab' ρ' σ' (a.put (some d) z) w' := by
        cases hn : nestT t with
        | true => rw [hn, cond_true] at h; exact appNK_ok h
        | false =>
          rw [hn, cond_false] at h
          cases hk : keepD t d with
          | true => rw [hk, cond_true] at h; exact appXK_ok h
          | false => rw [hk, cond_false] at h; exact appK_ok h
      obtain ⟨σ', h, hs⟩ := hh
      refine ⟨σ', h, .mem hd fun lab ρ a w hR => ?_⟩
      obtain ⟨w', lab', ρ', v, hrun, hR'⟩ := hs lab ρ a w hR _ _ (hR.opd x) (hR.opd y)
      refine ⟨w', lab', ρ', v, ?_, hR'⟩
      simp only [execOp, ho, resolve, Sem.run_bind, Sem.run_pure, Result.andThen_ok, invoke, builtin, List.map_toArray, List.map_cons, List.map_nil]
      rw [hrun]; rfl
  · rename_i t ho
    obtain ⟨d, hd, h⟩ := withD_ok h
    obtain ⟨σ', h, hs⟩ := makeMapK_ok (w0 := w0) (t := t) (P := P) h
    refine ⟨σ', h, .mem hd fun lab ρ a w hR => ?_⟩
    obtain ⟨w', lab', ρ', v, hrun, hR'⟩ := hs lab ρ a w hR
    exact ⟨w', lab', ρ', v, by simp only [execOp, ho]; exact run_v hrun, hR'⟩
  · rename_i t x i ho
    obtain ⟨v, h1, _, hs⟩ := lookK_ok (w0 := w0) (N := N) h
    refine OpS.val h1 fun lab ρ a w hR => ?_
    obtain ⟨y, hrun, hR'⟩ := hs lab ρ a w hR _ _ (hR.opd x) (hR.opd i)
    exact ⟨y, by simp only [execOp, ho]; exact run_v hrun, hR'⟩
  · rename_i t x i v ho
    split at h
    · rename_i hd
      obtain ⟨σ', h, _, hs⟩ := updK_ok (w0 := w0) (N := N) h
      refine ⟨σ', h, fun a w K Q hR hK => ?_⟩
      obtain ⟨lab, ρ, hR⟩ := hR
      obtain ⟨w', hrun, hR'⟩ := hs lab ρ a w hR _ _ _ (hR.opd x) (hR.opd i) (hR.opd v)
      have : (execOp a.eval o).run P w = .ok .skip w' := by
        simp only [execOp, ho]
        rw [Sem.run_bind, hrun]; rfl
      unfold Oper.wp
      rw [this, Oper.upon_skip, hd]
      exact hK _ _ ⟨lab, ρ, hR'⟩
    · cases h
  · rename_i t args tys ho
    split at h
    · rename_i f cap hcl
      split at h
      · rename_i c hc
        obtain ⟨he, hok⟩ := hΦ f _ hc
        exact callIK_ok ho hcl he hok h
      · cases h
    · cases h
  · rename_i f caps ho
    split at h
    · rename_i ps hps
      obtain ⟨h1, h2⟩ := capsK_ok (w0 := w0) (N := N) _ _ hps
      refine OpS.val h fun lab ρ a w hR => ⟨.func (.func f) #[] (caps.map a.eval), by simp [execOp, ho, Instr.makeFunc], _, rfl, by simp [h1], fun j p hp => ?_⟩
      obtain ⟨b, off, e1, e2⟩ := h2 lab ρ a w hR j p hp
      exact ⟨b, off, e1, by simpa using e2⟩
    · cases h
  · cases h
theorem opK_ok {k : S -> Option X} (hΦ : CtrsOK P Φ) (h : opK P N Φ σ o k = some r) : ∃ σ', k σ' = some r /\ OpS P w0 N o σ σ' := by
  unfold opK at h
  cases hv : isV o.op with
  | true =>
    rw [hv, cond_true] at h
    obtain ⟨v, h1, _, hs⟩ := valK_ok (w0 := w0) (N := N) h
    exact OpS.val h1 fun lab ρ a w hR => hs lab ρ a w o rfl hR
  | false =>
    rw [hv, cond_false] at h
    exact memK_ok hΦ h
theorem opFK_ok {k : S -> Option X} (hΦ : CtrsOK P Φ) (h : opFK P N Φ σ o k = some r) : ∃ σ', k σ' = some r /\ OpS P w0 N o σ σ' := by
  unfold opFK at h
  split at h
  · rename_i t x y ho hd
    split at h
    · rename_i q s i j hy
      obtain ⟨σ', h1, hs⟩ := storeVK_ok (w0 := w0) (N := N) h
      refine ⟨σ', h1, fun a w K Q hR hK => ?_⟩
      obtain ⟨lab, ρ, hR⟩ := hR
      have hv := hR.opd y
      rw [hy] at hv
      obtain ⟨w', lab', hrun, hR'⟩ := hs lab ρ a w hR _ _ (hR.opd x) hv
      have : (execOp a.eval o).run P w = .ok .skip w' := by
        simp only [execOp, ho]
        rw [Sem.run_bind, hrun]; rfl
      unfold Oper.wp
      rw [this, Oper.upon_skip, hd]
      exact hK _ _ ⟨lab', ρ, hR'⟩
    · exact opK_ok hΦ h
  · obtain ⟨σ', h1, hs⟩ := opK_ok (w0 := w0) hΦ h
    exact ⟨σ', h1, fun a w K Q hR hK => hs a w K Q hR.iceS hK⟩
  · exact opK_ok hΦ h
end
end Go.Proofs.YtckjagaogcbedaaGreat
