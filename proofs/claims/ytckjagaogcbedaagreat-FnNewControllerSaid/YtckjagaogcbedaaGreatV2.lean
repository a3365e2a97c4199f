/-
  Running the program over pure contents, and that it follows (part 2). Nothing here is a claim.
-/
import Derived.Laws.StructEq
import Derived.Test.YtckjagaogcbedaaGreatV1
set_option linter.unusedSimpArgs false
namespace Go.Proofs.YtckjagaogcbedaaGreat
open Go.RowKit
set_option linter.unusedVariables false
def pickK {X : Type} (N : Nat) (σ : S) (dst : Option Tmp) (c x y : A) (k : S -> Option X) : Option X :=
  match c with
  | .lf (.v (.bool b)) => bif b then putK N σ dst x k else putK N σ dst y k
  | _ => none
def partK {X : Type} (P : Program) (s : TypeId) (x : A) (f : Nat) (k : A -> Option X) : Option X :=
  match fieldT P s f, x with
  | some fd, .agg cs => (match szOf P fd.type, rowT P fd.type with
    | some n, some true => if fd.offset + n <= cs.length then k (.agg ((cs.drop fd.offset).take n)) else none
    | some _, some false => (match cs[fd.offset]? with
      | some y => k (.lf y)
      | none => none)
    | _, _ => none)
  | _, _ => none
def mmK {X : Type} (mx : Bool) (x y : A) (k : A -> Option X) : Option X :=
  match x, y with
  | .lf (.v (.int kx a)), .lf (.v (.int _ b)) => k (.lf (.v (.int kx (bif mx then (if b > a then b else a) else (if b < a then b else a)))))
  | _, _ => none
def strIdxK {X : Type} (P : Program) (t : TypeId) (x i : A) (k : A -> Option X) : Option X :=
  match x, i with
  | .lf (.v (.str s)), .lf (.v (.int _ iv)) => (match P.underlying t with
    | some .string => if h : 0 <= iv /\ iv.toNat < s.size then k (.lf (.v (.int .u8 ((s[iv.toNat]'h.2).toNat : Int)))) else none
    | _ => none)
  | _, _ => none
def bndK {X : Type} (x : Option A) (d : Int) (k : Int -> Option X) : Option X :=
  match x with
  | none => k d
  | some (.lf (.v (.int _ n))) => k n
  | _ => none
def sliceK {X : Type} (P : Program) (t : TypeId) (x : A) (lo hi : Option A) (k : A -> Option X) : Option X :=
  match x with
  | .lf (.v (.str s)) => (match P.underlying t with
    | some .string => bndK lo 0 fun l => bndK hi (s.size : Int) fun h => if 0 <= l /\ l <= h /\ h <= (s.size : Int) then k (.lf (.v (.str (s.extract l.toNat h.toNat)))) else none
    | _ => none)
  | .lf (.v (.sl t' g qn l)) => (match elemT P t with
    | some e => (match szOf P e with
      | some n => if n = csz t' then (bif Nat.blt g 2 then bndK lo 0 fun a => bndK hi (l.length : Int) fun b => if 0 <= a /\ a <= b /\ b <= (l.length : Int) then k (.lf (.v (.sl t' g false ((l.take b.toNat).drop a.toNat)))) else none else none) else none
      | none => none)
    | none => none)
  | _ => none
def strT (P : Program) (src dst : TypeId) : Bool :=
  match P.underlying src, P.underlying dst with
  | some (.slice e), some .string => (match P.underlying e with
    | some (.int .u8) => true
    | _ => false)
  | _, _ => false
def strK {X : Type} (P : Program) (src dst : TypeId) (z : V) (k : A -> Option X) : Option X :=
  match z with
  | .sl .u8 _ _ l => bif strT P src dst then k (.lf (.v (.str (strOfNums l)))) else none
  | .nil => bif strT P src dst then k (.lf (.v (.str (strOfNums [])))) else none
  | _ => none
def convK {X : Type} (P : Program) (σ : S) (src dst : TypeId) (x : A) (k : A -> Option X) : Option X :=
  match x with
  | .lf (.v (.int _ n)) => (match P.underlying src, P.underlying dst with
    | some _, some (.int kd) => k (.lf (.v (.int kd (kd.wrap n))))
    | _, _ => none)
  | .lf y => lfK σ y fun z => strK P src dst z k
  | _ => none
section
variable {P : Program} {w w' : World} {w0 : Wd} {B N : Nat} {lab lab' : Lab} {ρ ρ' : Nat -> Loc} {σ : S} {a : Act} {X : Type} {d : Nat} {r : X} {o : Oper}
theorem fl_len {α : Type} (f : α -> List Value) (s : Nat) (hf : ∀ x, (f x).length = s) (l : List α) : (l.flatMap f).length = l.length * s := by
  induction l with
  | nil => simp
  | cons a l ih => rw [List.flatMap_cons, List.length_append, hf, ih, List.length_cons, Nat.succ_mul]; omega
theorem fl_get {α : Type} (f : α -> List Value) (s : Nat) (hf : ∀ x, (f x).length = s) : ∀ (l : List α) (k : Nat) (hk : k < l.length) (j : Nat), j < s -> (l.flatMap f)[k * s + j]? = (f l[k])[j]? := by
  intro l
  induction l with
  | nil => intro k hk; simp at hk
  | cons a l ih =>
    intro k hk j hj
    rw [List.flatMap_cons]
    cases k with
    | zero => rw [Nat.zero_mul, Nat.zero_add, List.getElem?_append_left (by rw [hf]; exact hj)]; rfl
    | succ k =>
      have e : (k + 1) * s + j = s + (k * s + j) := by rw [Nat.succ_mul]; omega
      rw [e, List.getElem?_append_right (by rw [hf]; omega), hf, Nat.add_sub_cancel_left]
      exact ih k (by simpa using hk) j hj
theorem made_fl (z : Array Value) (s n : Nat) (hs : z.size = s) (h0 : 0 < s) : (madeCells z (n * s)).toList = (List.replicate n z.toList).flatten := by
  have e : (List.replicate n z.toList).flatten = (List.replicate n ()).flatMap (fun _ => z.toList) := by
    rw [List.flatMap_def, List.map_replicate]
  rw [e]
  have hl : ((List.replicate n ()).flatMap (fun _ => z.toList)).length = n * s := by
    rw [fl_len (fun _ => z.toList) s (fun _ => by simpa using hs)]
    simp
  apply List.ext_getElem?
  intro i
  rcases Nat.lt_or_ge i (n * s) with hi | hi
  · have hk : i / s < n := Nat.div_lt_of_lt_mul (by rw [Nat.mul_comm]; exact hi)
    have hj : i % s < s := Nat.mod_lt _ h0
    have ei : i = i / s * s + i % s := by rw [Nat.mul_comm]; exact (Nat.div_add_mod i s).symm
    have h2 := fl_get (fun _ => z.toList) s (fun _ => by simpa using hs) (List.replicate n ()) (i / s) (by simpa using hk) (i % s) hj
    rw [<- ei] at h2
    rw [h2]
    have hz : i % s < z.size := by omega
    simp only [madeCells, Array.toList_map, Array.toList_range, List.getElem?_map, List.getElem?_range hi, Option.map_some, hs]
    simp [hz]
  · rw [List.getElem?_eq_none (by rw [Array.length_toList, size_madeCells]; exact hi), List.getElem?_eq_none (by rw [hl]; exact hi)]
theorem buildSK_ok {t : TypeId} {len : Nat} {parts : Array (Nat × Operand)} {k : S -> Option X} (h : buildSK P N σ d t len parts.toList k = some r) : ∃ σ', k σ' = some r /\ ∀ lab ρ a w, Rl w0 N lab ρ σ a w ->
    ∃ w' lab' ρ' v, (Instr.buildSlice t len (parts.map fun (i, x) => (i, a.eval x))).run P w = .ok v w' /\ Rl w0 N lab' ρ' σ' (a.put (some d) v) w' := by
  unfold buildSK at h
  split at h
  · rename_i e tc hei
    obtain ⟨hut, ht, i, hi, hsz, hby⟩ := elemInfo_ok hei
    split at h
    · rename_i z hz
      cases hc : (Nat.beq (full tc) 0 && Nat.beq z.cells.size (csz tc) && Nat.blt (len * csz tc) 16777217) with
      | false => rw [hc] at h; cases h
      | true =>
        rw [hc, cond_true] at h
        simp only [Bool.and_eq_true] at hc
        have hf := Nat.eq_of_beq_eq_true hc.1.1
        have hzs := Nat.eq_of_beq_eq_true hc.1.2
        have hsm : len * csz tc < 16777217 := by have := Nat.le_of_ble_eq_true hc.2; omega
        have hzi : i.zero = some z := by unfold zeroOf at hz; simpa [hi] using hz
        split at h
        · rename_i cs hcs
          split at h
          · rename_i vs hvs
            split at h
            · rename_i l hl
              obtain ⟨hd, h⟩ := newK_ok h
              refine ⟨_, h, fun lab ρ a w hR => ?_⟩
              obtain ⟨hll, hvl, hel⟩ := cutE_ok tc 0 len vs l hl
              have hinit : RLs w w0.heap.size lab ρ (List.replicate len (z.cells.toList.map zeroLf)).flatten (madeCells z.cells (len * csz tc)) := by
                have e1 : (List.replicate len (z.cells.toList.map zeroLf)).flatten = ((List.replicate len z.cells.toList).flatten).map zeroLf := by
                  rw [List.map_flatten, List.map_replicate]
                rw [e1, <- made_fl z.cells (csz tc) len hzs (csz_pos tc)]
                refine ⟨by simp, fun j x hx => ?_⟩
                rw [List.getElem?_map] at hx
                cases hv : (madeCells z.cells (len * csz tc)).toList[j]? with
                | none => rw [hv] at hx; cases hx
                | some v =>
                  rw [hv] at hx
                  injection hx with hx
                  subst hx
                  exact ⟨v, by simpa using hv, zeroLf_ok v⟩
              obtain ⟨cv', hfill, hR'⟩ := fillA_ok (w := w) (B := w0.heap.size) (lab := lab) (ρ := ρ) _ _ _ (parts.toList.map fun p => (p.1, a.eval p.2)) cs hcs hinit (by simp) (fun j p q hp hq => by
                rw [List.getElem?_map] at hp hq
                cases hx : parts.toList[j]? with
                | none => rw [hx] at hp; cases hp
                | some x =>
                  rw [hx] at hp hq
                  injection hp with hp
                  injection hq with hq
                  subst hp hq
                  exact ⟨rfl, hR.opd x.2⟩)
              have hcsv := lfVs_ok cs vs hvs
              have hcvs : cv'.size = len * csz tc := by rw [hR'.1, hcsv, List.length_map, hvl]
              have hrun : (Instr.buildSlice t len (parts.map fun (i, x) => (i, a.eval x))).run P w = .ok (.slice (some ⟨w.heap.size, 0, none⟩) len len) (w.alloc (.cells cv' e)) := by
                have hparts : (parts.map fun (i, x) => (i, a.eval x)).toList = parts.toList.map fun p => (p.1, a.eval p.2) := by simp
                by_cases h0 : len * csz tc = 0
                · have hm : madeCells z.cells (len * csz tc) = #[] := by rw [h0]; simp [madeCells]
                  rw [hm] at hfill
                  have h00 : len * i.size = 0 := by rw [hsz]; exact h0
                  rw [<- hsz] at hfill
                  have e0 : ∀ f : Nat -> Value, Array.map f (Array.range 0) = #[] := fun f => by simp
                  simp only [Instr.buildSlice, Sem.run_bind, run_underlying hut, Result.andThen_ok, sizeOf, typeInfo]
                  simp [hi, h00]
                  rw [e0, hfill]
                  simp [newRow]
                · exact run_buildSlice (P := P) w t e len _ cv' i z hut hi hzi (by rw [hsz]; omega) (by rw [hsz]; exact h0) (by rw [hsz, hparts]; exact hfill)
              refine ⟨_, upd lab w.heap.size (some [d]), upd ρ d (.hdr (.slice (some ⟨w.heap.size, 0, none⟩) len len)), _, hrun, (hR.newBlk (hR.lim d (.inl hd)) (fun r hr => upd_ne _ _ _ hr) (.sl _ _ (upd_same _ _ _) ?_)).set ⟨rfl, by simp [valAt, upd_same]⟩ hd⟩
              have hget : ∀ i' (h' : i' < l.length) j x, (enc tc 0 l[i'])[j]? = some x -> ∃ v, cv'[i' * csz tc + j]? = some v /\ ∀ (w' : World) (B' : Nat) (lab' : Lab) (q' : List Nat), RV w' B' lab' q' x v := by
                intro i' h' j x hx
                obtain ⟨y, hy, hw⟩ := hel i' h' j x hx
                obtain ⟨v, hv, hr⟩ := hR'.2 (i' * csz tc + j) (.v y) (by rw [hcsv, List.getElem?_map, hy]; rfl)
                exact ⟨v, hv, fun w' B' lab' q' => (hr.2.wk hw).plain_any (enc_plain tc 0 l[i'] hf x (List.mem_of_getElem? hx))⟩
              have := RV.own (w := w.alloc (.cells cv' e)) (B := w0.heap.size) (lab := upd lab w.heap.size (some [d])) [d] tc 0 true l w.heap.size len cv' (fun i j => (cv'[i * csz tc + j]?).getD undef)
                (upd_same _ _ _) (by rw [ht]; exact heap_alloc_new w _) hcvs (by omega) ⟨by have := Nat.le_mul_of_pos_right len (csz_pos tc); unfold maxLen; omega, fun _ => hll.symm⟩ (fun i' h' j x hx => ?_) (fun i' h' j x hx => ?_)
              · rw [hll] at this
                exact this
              · obtain ⟨v, hv, _⟩ := hget i' h' j x hx
                rw [hv]; rfl
              · obtain ⟨v, hv, hr⟩ := hget i' h' j x hx
                rw [hv]; exact hr _ _ _ _
            · cases h
          · cases h
        · cases h
    · cases h
  · cases h
theorem mmK_ok {mx : Bool} {x y : A} {k : A -> Option X} (h : mmK mx x y k = some r) : ∃ z, k z = some r /\ ∀ (w : World) (B : Nat) (lab : Lab) (ρ : Nat -> Loc) (t ty : TypeId) (u v : Value), RA w B lab ρ x u -> RA w B lab ρ y v ->
    ∃ t', ((bif mx then Builtin.max_ #[t, t] ty #[u, v] else Builtin.min_ #[t, t] ty #[u, v]) : Sem Value).run P w = .ok t' w /\ RA w B lab ρ z t' := by
  unfold mmK at h
  split at h
  · refine ⟨_, h, fun w B lab ρ t ty u v hu hv => ?_⟩
    obtain rfl := hu.2.int_inv
    obtain rfl := hv.2.int_inv
    cases mx with
    | true => exact ⟨_, by simp [Builtin.max_, Builtin.max2], rfl, .int _ _ _⟩
    | false => exact ⟨_, by simp [Builtin.min_, Builtin.min2], rfl, .int _ _ _⟩
  · cases h
theorem strIdxK_ok {t : TypeId} {x i : A} {k : A -> Option X} (h : strIdxK P t x i k = some r) : ∃ z, k z = some r /\ ∀ (w : World) (B : Nat) (lab : Lab) (ρ : Nat -> Loc) (u v : Value), RA w B lab ρ x u -> RA w B lab ρ i v ->
    ∃ t', (Instr.index t u v).run P w = .ok t' w /\ RA w B lab ρ z t' := by
  unfold strIdxK at h
  split at h
  · rename_i s kk iv
    split at h
    · rename_i hu
      split at h
      · rename_i hb
        refine ⟨_, h, fun w B lab ρ u v hu' hv => ?_⟩
        obtain rfl := hu'.2.str_inv
        obtain rfl := hv.2.int_inv
        exact ⟨_, by simp [Instr.index, asIntOf, run_underlying hu, hb.1, hb.2], rfl, .int _ _ _⟩
      · cases h
    · cases h
  · cases h
theorem strT_ok {src dst : TypeId} (h : strT P src dst = true) : ∃ e, P.underlying src = some (.slice e) /\ P.underlying dst = some .string /\ P.underlying e = some (.int .u8) := by
  unfold strT at h
  split at h
  · rename_i e h1 h2
    split at h
    · rename_i h3
      exact ⟨e, h1, h2, h3⟩
    · cases h
  · cases h
theorem strOf_nil : strOfNums [] = ByteArray.empty := rfl
theorem getD_at (l : List Int) (i : Nat) (hi : i < l.length) : l.getD i 0 = l[i] := by rw [List.getD_eq_getElem?_getD, List.getElem?_eq_getElem hi]; rfl
theorem RV.toStr {src dst e : TypeId} (hs : P.underlying src = some (.slice e)) (hd : P.underlying dst = some .string) (he : P.underlying e = some (.int .u8)) {o : Nat} {qn : Bool} {l : List (T .u8)} {q : List Nat} {B : Nat} {u : Value} (h : RV w B lab q (.sl .u8 o qn l) u) :
    (convert src dst u).run P w = .ok (.string (strOfNums l)) w := by
  generalize hy : V.sl .u8 o qn l = y at h
  cases h with
  | int => cases hy
  | bool => cases hy
  | str => cases hy
  | nil => cases hy
  | slNil q t o' =>
    injection hy with e1 e2 e3 e4
    subst e1
    obtain rfl := eq_of_heq e4
    rw [run_convert_bytes_nil w src e hs he 0 0 dst hd]; rfl
  | slEmp q t o' A c ho =>
    injection hy with e1 e2 e3 e4
    subst e1
    obtain rfl := eq_of_heq e4
    have hl : (loadCells A 0).run P w = .ok (([] : List Int).map (Value.int .u8)).toArray w := run_loadCells_list (P := P) w A [] (fun j v hj => by simp at hj)
    rw [run_convert_bytes_string w src dst e _ 0 c hs he hd, run_bytesToString w A 0 c [] hl]
    rfl
  | slNon q t o' A c ho =>
    injection hy with e1 e2 e3 e4
    subst e1
    obtain rfl := eq_of_heq e4
    have hl : (loadCells A 0).run P w = .ok (([] : List Int).map (Value.int .u8)).toArray w := run_loadCells_list (P := P) w A [] (fun j v hj => by simp at hj)
    rw [run_convert_bytes_string w src dst e _ 0 c hs he hd, run_bytesToString w A 0 c [] hl]
    rfl
  | fro q t o' qn' l' b off cap uu ho hl hb h1 hcap hc hr =>
    injection hy with e1 e2 e3 e4
    subst e1
    obtain rfl := eq_of_heq e4
    refine run_convert_bytes_arg w src e hs he b off _ cap l rfl (fun i hi => ?_) dst hd
    have h2 := hc i hi 0 (.int .u8 l[i]) rfl
    have h3 := (hr i hi 0 (.int .u8 l[i]) rfl).int_inv
    simp only [csz, Nat.mul_one, Nat.add_zero] at h2
    have hg := getD_at (show List Int from l) i hi
    rw [h2, h3]
    exact congrArg (fun z => some (Value.int .u8 z)) hg.symm
  | own q t o' qn' l' b cap cs uu hl hh hs' hn hm hc hr =>
    injection hy with e1 e2 e3 e4
    subst e1
    obtain rfl := eq_of_heq e4
    refine run_convert_bytes_arg w src e hs he b 0 _ cap l rfl (fun i hi => ?_) dst hd
    have h2 := hc i hi 0 (.int .u8 l[i]) rfl
    have h3 := (hr i hi 0 (.int .u8 l[i]) rfl).int_inv
    simp only [csz, Nat.mul_one, Nat.add_zero] at h2
    have hg := getD_at (show List Int from l) i hi
    rw [h3] at h2
    have h4 : w.cell? ⟨b, 0 + i, none⟩ = some (.int .u8 l[i]) := by simp [World.cell?, hh, h2]
    rw [h4]
    exact congrArg (fun z => some (Value.int .u8 z)) hg.symm
theorem convK_ok {src dst : TypeId} {x : A} {k : A -> Option X} (h : convK P σ src dst x k = some r) : ∃ z, k z = some r /\ ∀ lab ρ a w, Rl w0 N lab ρ σ a w -> ∀ u, RA w w0.heap.size lab ρ x u ->
    ∃ t', (convert src dst u).run P w = .ok t' w /\ RA w w0.heap.size lab ρ z t' := by
  unfold convK at h
  split at h
  · rename_i kk n
    split at h
    · rename_i d1 kd hs hd
      refine ⟨_, h, fun lab ρ a w _ u hu => ?_⟩
      obtain rfl := hu.2.int_inv
      exact ⟨_, by simp [convert, run_underlying hs, run_underlying hd, Conv.intToInt], rfl, .int _ _ _⟩
    · cases h
  · rename_i y _
    have key : ∃ z, (∀ lab ρ a w, Rl w0 N lab ρ σ a w -> ∀ u, RLf w w0.heap.size lab ρ y u -> ∃ q, RV w w0.heap.size lab q z u) /\ strK P src dst z k = some r := by
      cases y with
      | v z => exact ⟨z, fun lab ρ a w _ u hu => ⟨[], hu.2⟩, h⟩
      | dead => cases h
      | own q =>
        obtain ⟨z, hz, h⟩ := getK_ok q _ h
        refine ⟨z, fun lab ρ a w hR u hu => ?_, h⟩
        obtain ⟨v, hv, hr⟩ := hz.ok hR.root
        have h3 := hu.2
        rw [hv] at h3
        injection h3 with h3
        subst h3
        exact ⟨q, hr⟩
    obtain ⟨z, hz, h2⟩ := key
    clear h
    unfold strK at h2
    split at h2
    · rename_i o qn l
      cases ht : strT P src dst with
      | false => rw [ht] at h2; cases h2
      | true =>
        rw [ht, cond_true] at h2
        obtain ⟨e, e1, e2, e3⟩ := strT_ok ht
        refine ⟨_, h2, fun lab ρ a w hR u hu => ?_⟩
        obtain ⟨q, hr⟩ := hz lab ρ a w hR u hu
        exact ⟨_, hr.toStr e1 e2 e3, rfl, .str _ _⟩
    · cases ht : strT P src dst with
      | false => rw [ht] at h2; cases h2
      | true =>
        rw [ht, cond_true] at h2
        obtain ⟨e, e1, e2, e3⟩ := strT_ok ht
        refine ⟨_, h2, fun lab ρ a w hR u hu => ?_⟩
        obtain ⟨q, hr⟩ := hz lab ρ a w hR u hu
        cases hr
        exact ⟨_, by rw [run_convert_bytes_nil w src e e1 e3 0 0 dst e2]; rfl, rfl, .str _ _⟩
    · cases h2
  · cases h
theorem partK_ok {s : TypeId} {x : A} {f : Nat} {k : A -> Option X} (h : partK P s x f k = some r) : ∃ z, k z = some r /\ ∀ (w : World) (B : Nat) (lab : Lab) (ρ : Nat -> Loc) (u : Value), RA w B lab ρ x u ->
    ∃ t', (Instr.field s u f).run P w = .ok t' w /\ RA w B lab ρ z t' := by
  unfold partK at h
  split at h
  · rename_i fd cs hfd
    have hst : ∃ fs, P.underlying s = some (.struct fs) /\ fs[f]? = some fd := by
      unfold fieldT at hfd
      split at hfd
      · rename_i fs hu; exact ⟨fs, hu, hfd⟩
      · cases hfd
    obtain ⟨fs, hus, hfs⟩ := hst
    split at h
    · rename_i n hn hrow
      split at h
      · rename_i hle
        refine ⟨_, h, fun w B lab ρ u hu => ?_⟩
        obtain ⟨us, rfl, hR⟩ := hu
        have hagg : (isAgg fd.type).run P w = .ok true w := by
          unfold rowT at hrow
          split at hrow
          · rename_i fs' hu; unfold isAgg; rw [Sem.run_bind, run_underlying hu w]; rfl
          · rename_i c e hu; unfold isAgg; rw [Sem.run_bind, run_underlying hu w]; rfl
          · cases hrow
          · cases hrow
        unfold szOf at hn
        cases hi : P.info? fd.type with
        | none => simp [hi] at hn
        | some i =>
          have hin : i.size = n := by simpa [hi] using hn
          refine ⟨.agg (us.extract fd.offset (fd.offset + n)), by simp [Instr.field, run_underlying hus, hfs, asAgg, part, Sem.run_bind, hagg, sizeOf, typeInfo, hi, hin], _, rfl, ?_, fun j y hy => ?_⟩
          · have := hR.1
            simp
            omega
          · obtain ⟨hj, hy'⟩ := take_drop_get _ _ _ _ _ hy
            obtain ⟨v, hv, hr⟩ := hR.2 _ y hy'
            refine ⟨v, ?_, hr⟩
            rw [Array.getElem?_extract]
            have := hR.1
            rw [if_pos (by omega)]
            exact hv
      · cases h
    · rename_i n hn hrow
      split at h
      · rename_i y hy
        refine ⟨_, h, fun w B lab ρ u hu => ?_⟩
        obtain ⟨us, rfl, hR⟩ := hu
        obtain ⟨v, hv, hr⟩ := hR.2 _ y hy
        have hagg : (isAgg fd.type).run P w = .ok false w := by
          unfold rowT at hrow
          split at hrow
          · cases hrow
          · cases hrow
          · rename_i d hs ha hu
            unfold isAgg
            rw [Sem.run_bind, run_underlying hu w]
            cases d <;> first | rfl | (rename_i x; exact absurd rfl (hs x)) | (rename_i x y; exact absurd rfl (ha x y)) | simp_all
          · cases hrow
        exact ⟨v, by simp [Instr.field, run_underlying hus, hfs, asAgg, part, Sem.run_bind, hagg, hv], hr⟩
      · cases h
    · cases h
  · cases h
theorem pickK_ok {c x y : Operand} {k : S -> Option X} (ho : o.op = .pick c x y) (h : pickK N σ o.dst (opd σ c) (opd σ x) (opd σ y) k = some r) : ∃ σ', k σ' = some r /\ OpS P w0 N o σ σ' := by
  unfold pickK at h
  split at h
  · rename_i b hb
    cases b with
    | true =>
      refine OpS.val h fun lab ρ a w hR => ⟨a.eval x, ?_, hR.opd x⟩
      have hc := hR.opd c
      rw [hb] at hc
      have := hc.2.bool_inv
      simp [execOp, ho, this, asBool]
    | false =>
      refine OpS.val h fun lab ρ a w hR => ⟨a.eval y, ?_, hR.opd y⟩
      have hc := hR.opd c
      rw [hb] at hc
      have := hc.2.bool_inv
      simp [execOp, ho, this, asBool]
  · cases h
end
end Go.Proofs.YtckjagaogcbedaaGreat
namespace Go.Proofs.YtckjagaogcbedaaGreat
open Go.RowKit
set_option linter.unusedVariables false
def V.val : V -> Value
  | .int k n => .int k n
  | .bool b => .bool b
  | .str s => .string s
  | _ => undef
def eqL : TypeDesc -> V -> V -> Option Bool
  | .int _, .int k a, .int k' b => if k = k' then some (a == b) else none
  | .bool, .bool a, .bool b => some (a == b)
  | .string, .str a, .str b => some (a.toList == b.toList)
  | _, _, _ => none
def eqFs (P : Program) (g : TypeId -> List V -> List V -> Option Bool) (xs ys : List V) : List Field -> Option Bool
  | [] => some true
  | f :: fs => bif f.name == "_" then eqFs P g xs ys fs else (match szOf P f.type with
    | some n => bif Nat.ble (f.offset + n) xs.length then (match g f.type ((xs.drop f.offset).take n) ((ys.drop f.offset).take n), eqFs P g xs ys fs with
      | some a, some b => some (a && b)
      | _, _ => none) else none
    | none => none)
def eqP (P : Program) : Nat -> TypeId -> List V -> List V -> Option Bool
  | 0, _, _, _ => none
  | n + 1, t, xs, ys => match P.underlying t with
    | some (.struct fs) => bif P.stoodInHeld t || !Nat.beq xs.length ys.length then none else eqFs P (eqP P n) xs ys fs.toList
    | some d => (match xs, ys with
      | [x], [y] => eqL d x y
      | _, _ => none)
    | none => none
def cmpOf : BinOp -> Option Bool
  | .eql => some false
  | .neq => some true
  | _ => none
def isEmp {α : Type} : List α -> Bool
  | [] => true
  | _ => false
def isStr (P : Program) (t : TypeId) : Bool := match P.underlying t with
  | some (.struct _) => true
  | _ => false
def binAK {X : Type} (P : Program) (σ : S) (op : BinOp) (t : TypeId) (x y : A) (k : A -> Option X) : Option X :=
  match cmpOf op, x, y with
  | some ng, .agg cs, .agg ds => (match plains cs, plains ds with
    | some xs, some ys => bif P.eqGuardType P.depth t || !isStr P t then none else (match eqP P 20 t xs ys with
      | some b => k (.lf (.v (.bool (bif ng then !b else b))))
      | none => none)
    | _, _ => none)
  | some ng, .lf l, .lf (.v .nil) => (match elemT P t with
    | some _ => lfK σ l fun z => (match z with
      | .nil => k (.lf (.v (.bool (bif ng then false else true))))
      | .sl _ _ true _ => k (.lf (.v (.bool (bif ng then true else false))))
      | .sl _ _ false l => bif isEmp l then none else k (.lf (.v (.bool (bif ng then true else false))))
      | _ => none)
    | none => none)
  | _, _, _ => vK x fun a => vK y fun b => binK P t op a b fun z => k (.lf (.v z))
section
variable {P : Program} {w w' : World} {w0 : Wd} {B N : Nat} {lab lab' : Lab} {ρ ρ' : Nat -> Loc} {σ : S} {a : Act} {X : Type} {d : Nat} {r : X} {o : Oper}
theorem eqL_ok {ds : TypeDesc} {x y : V} {b : Bool} {t : TypeId} {n : Nat} (ht : P.underlying t = some ds) (h : eqL ds x y = some b) : (Op.equalIn (n + 1) t x.val y.val).run P w = .ok b w := by
  unfold eqL at h
  split at h
  · split at h
    · rename_i k' _ a k b' hk
      subst hk
      injection h with h
      subst h
      exact run_equalIn_int w n t _ _ _ _ ht
    · cases h
  · injection h with h
    subst h
    exact run_equalIn_bool' w n t _ _ ht
  · injection h with h
    subst h
    exact run_equalIn_string w n t _ _ ht
  · cases h
def VOf (P : Program) (t : TypeId) (xs : List V) (u : Value) : Prop :=
  match P.underlying t with
  | some (.struct _) => u = .agg (xs.map V.val).toArray
  | _ => ∃ x, xs = [x] /\ u = x.val
theorem run_part {t : TypeId} {n off : Nat} {xs : List V} (hn : szOf P t = some n) (hle : off + n <= xs.length) (hu : ∃ d, P.underlying t = some d /\ (∀ c e, d ≠ .array c e) /\ ((∀ fs, d ≠ .struct fs) -> n = 1)) :
    ∃ u, (part t (xs.map V.val).toArray off).run P w = .ok u w /\ VOf P t ((xs.drop off).take n) u := by
  obtain ⟨d, hd, ha, h1⟩ := hu
  unfold szOf at hn
  cases hi : P.info? t with
  | none => simp [hi] at hn
  | some i =>
    have hin : i.size = n := by simpa [hi] using hn
    by_cases hs : ∃ fs, d = .struct fs
    · obtain ⟨fs, rfl⟩ := hs
      have hagg : (isAgg t).run P w = .ok true w := by
        unfold isAgg; rw [Sem.run_bind, run_underlying hd w]; rfl
      refine ⟨.agg ((xs.map V.val).toArray.extract off (off + n)), by simp [part, Sem.run_bind, hagg, sizeOf, typeInfo, hi, hin], ?_⟩
      unfold VOf
      rw [hd]
      simp only
      congr 1
      apply Array.ext'
      simp [List.map_drop, List.map_take]
    · have hagg : (isAgg t).run P w = .ok false w := by
        unfold isAgg
        rw [Sem.run_bind, run_underlying hd w]
        cases d <;> first | rfl | (exfalso; exact hs ⟨_, rfl⟩) | (exfalso; exact ha _ _ rfl)
      have hn1 : n = 1 := h1 fun fs e => hs ⟨fs, e⟩
      subst hn1
      have hlt : off < xs.length := by omega
      have hget : (xs.map V.val).toArray[off]? = some (xs[off]).val := by simp [hlt]
      refine ⟨(xs[off]).val, by simp [part, Sem.run_bind, hagg, hget], ?_⟩
      have e1 : (xs.drop off).take 1 = [xs[off]] := by
        rw [List.drop_eq_getElem_cons hlt]; rfl
      unfold VOf
      rw [hd]
      split
      · rename_i fs e; injection e with e; exact absurd ⟨fs, e⟩ hs
      · exact ⟨_, e1, rfl⟩
theorem eqP_under {n : Nat} {t : TypeId} {xs ys : List V} {b : Bool} (h : eqP P n t xs ys = some b) : ∃ d, P.underlying t = some d /\ (∀ c e, d ≠ .array c e) /\ ((∀ fs, d ≠ .struct fs) -> xs.length = 1) := by
  cases n with
  | zero => cases h
  | succ n =>
    unfold eqP at h
    split at h
    · rename_i fs hfs
      exact ⟨_, hfs, (fun c e h => by cases h), fun h => absurd rfl (h fs)⟩
    · rename_i d hns hd
      split at h
      · rename_i x y
        exact ⟨d, hd, (fun c e he => by subst he; simp [eqL] at h), fun _ => rfl⟩
      · cases h
    · cases h
theorem eqFs_ok {n : Nat} {xs ys : List V} (hlen : xs.length = ys.length) (IH : ∀ t xs ys b, eqP P n t xs ys = some b -> ∀ u v, VOf P t xs u -> VOf P t ys v -> ∀ k, (Op.equalIn (k + n) t u v).run P w = .ok b w) (k : Nat) : ∀ (fs : List Field) (b : Bool), eqFs P (eqP P n) xs ys fs = some b ->
    (Op.eqFields (k + n) (xs.map V.val).toArray (ys.map V.val).toArray fs).run P w = .ok b w
  | [], b, h => by
    injection h with h
    subst h
    simp [Op.eqFields]
  | f :: fs, b, h => by
    unfold eqFs at h
    cases hnm : f.name == "_" with
    | true =>
      rw [hnm, cond_true] at h
      have : f.name = "_" := by simpa using hnm
      simp only [Op.eqFields, this, ne_eq, not_true, if_false]
      exact eqFs_ok hlen IH k fs b h
    | false =>
      rw [hnm, cond_false] at h
      have hne : f.name ≠ "_" := by simpa using hnm
      split at h
      · rename_i s hs
        cases hle : Nat.ble (f.offset + s) xs.length with
        | false => rw [hle] at h; cases h
        | true =>
          rw [hle, cond_true] at h
          have hle := Nat.le_of_ble_eq_true hle
          split at h
          · rename_i c e h1 h2
            injection h with h
            subst h
            obtain ⟨d1, hd1, ha1, hb1⟩ := eqP_under h1
            have hl1 : ((xs.drop f.offset).take s).length = s := by simp; omega
            obtain ⟨u, hu1, hu2⟩ := run_part (w := w) hs hle ⟨d1, hd1, ha1, fun h => hl1.symm.trans (hb1 h)⟩
            obtain ⟨v, hv1, hv2⟩ := run_part (w := w) (xs := ys) (off := f.offset) hs (by omega) ⟨d1, hd1, ha1, fun h => hl1.symm.trans (hb1 h)⟩
            have hr := IH _ _ _ c h1 u v hu2 hv2 k
            have hrest := eqFs_ok hlen IH k fs e h2
            simp only [Op.eqFields, hne, ne_eq, not_false_eq_true, if_true, Sem.run_bind, hu1, hv1, hr, Result.andThen_ok]
            cases c
            · simp
            · simpa using hrest
          · cases h
      · cases h
theorem eqP_ok : ∀ (n : Nat) (t : TypeId) (xs ys : List V) (b : Bool), eqP P n t xs ys = some b -> ∀ u v, VOf P t xs u -> VOf P t ys v -> ∀ k, (Op.equalIn (k + n) t u v).run P w = .ok b w
  | 0, t, xs, ys, b, h => by cases h
  | n + 1, t, xs, ys, b, h => by
    intro u v hu hv k
    unfold eqP at h
    split at h
    · rename_i fs hfs
      cases hc : (P.stoodInHeld t || !Nat.beq xs.length ys.length) with
      | true => rw [hc] at h; cases h
      | false =>
        rw [hc, cond_false] at h
        rw [Bool.or_eq_false_iff, Bool.not_eq_false'] at hc
        have hlen := Nat.eq_of_beq_eq_true hc.2
        unfold VOf at hu hv
        rw [hfs] at hu hv
        simp only at hu hv
        subst hu hv
        have hf : P.fieldsOf t = fs := by simp [Program.fieldsOf, hfs]
        rw [<- Nat.add_assoc, run_equalIn_struct w (k + n) t _ _ (by rw [hf]; exact hfs) hc.1, hf]
        exact eqFs_ok hlen (eqP_ok n) k fs.toList b h
    · rename_i d hns hd
      split at h
      · rename_i x y
        unfold VOf at hu hv
        rw [hd] at hu hv
        split at hu
        · rename_i fs e; injection e with e; exact absurd e (hns fs)
        · split at hv
          · rename_i fs e; injection e with e; exact absurd e (hns fs)
          · obtain ⟨x', e1, rfl⟩ := hu
            obtain ⟨y', e2, rfl⟩ := hv
            injection e1 with e1
            injection e2 with e2
            subst e1 e2
            exact eqL_ok hd h
      · cases h
    · cases h
theorem plains_val {cs : List Lf} {xs : List V} (h : plains cs = some xs) {u : Value} (hu : RA w B lab ρ (.agg cs) u) : u = .agg (xs.map V.val).toArray := by
  obtain ⟨e, hp⟩ := plains_ok _ _ h
  obtain ⟨us, rfl, hs, hr⟩ := hu
  congr 1
  apply Array.ext'
  apply List.ext_getElem?
  intro j
  rw [List.toList_toArray, List.getElem?_map, Array.getElem?_toList]
  cases hx : xs[j]? with
  | none =>
    rw [Option.map_none]
    refine Array.getElem?_eq_none ?_
    rw [hs, e, List.length_map]
    exact List.getElem?_eq_none_iff.1 hx
  | some x =>
    obtain ⟨v, hv, hrl⟩ := hr j (.v x) (by rw [e, List.getElem?_map, hx]; rfl)
    rw [hv, Option.map_some]
    congr 1
    have := hp x (List.mem_of_getElem? hx)
    have h2 := hrl.2
    cases h2 <;> first | rfl | cases this
theorem run_eq_nil {op : BinOp} {ng : Bool} (hop : cmpOf op = some ng) {t e : TypeId} (ht : P.underlying t = some (.slice e)) (xo yo : Operand) (A : Option Addr) (n c : Nat) :
    (do eqGuard op t xo yo (.slice A n c) (.slice none 0 0); binOp op t (.slice A n c) (.slice none 0 0) : Sem Value).run P w = .ok (.bool (bif ng then !A.isNone else A.isNone)) w := by
  have he : (Op.equal t (.slice A n c) (.slice none 0 0)).run P w = .ok A.isNone w := by
    have h : ∀ d, (Op.equalIn (d + 1) t (.slice A n c) (.slice none 0 0)).run P w = .ok A.isNone w := by
      intro d
      cases A <;> simp [Op.equalIn, run_underlying ht]
    exact h 9999
  cases op <;> simp [cmpOf] at hop <;> subst hop <;> simp [eqGuard, binOp, he]
theorem binAK_ok {op : BinOp} {t : TypeId} {x y : A} {k : A -> Option X} (h : binAK P σ op t x y k = some r) : ∃ z, k z = some r /\ ∀ lab ρ a w, Rl w0 N lab ρ σ a w -> ∀ xo yo u v, RA w w0.heap.size lab ρ x u -> RA w w0.heap.size lab ρ y v ->
    ∃ t', (do eqGuard op t xo yo u v; binOp op t u v : Sem Value).run P w = .ok t' w /\ RA w w0.heap.size lab ρ z t' := by
  unfold binAK at h
  split at h
  · rename_i ng cs ds hop
    split at h
    · rename_i xs ys hxs hys
      cases hg : (P.eqGuardType P.depth t || !isStr P t) with
      | true => rw [hg] at h; cases h
      | false =>
        rw [hg, cond_false] at h
        rw [Bool.or_eq_false_iff, Bool.not_eq_false'] at hg
        obtain ⟨hg, hst⟩ := hg
        split at h
        · rename_i b hb
          refine ⟨_, h, fun lab ρ a w hR xo yo u v hu hv => ?_⟩
          have hu := plains_val hxs hu
          have hv := plains_val hys hv
          subst hu hv
          have hs : ∃ fs, P.underlying t = some (.struct fs) := by
            unfold isStr at hst
            split at hst
            · rename_i fs hfs; exact ⟨fs, hfs⟩
            · cases hst
          obtain ⟨fs, hfs⟩ := hs
          have hr := eqP_ok (w := w) 20 t xs ys b hb (.agg (xs.map V.val).toArray) (.agg (ys.map V.val).toArray) (by unfold VOf; rw [hfs]) (by unfold VOf; rw [hfs]) 9980
          refine ⟨.bool (bif ng then !b else b), ?_, rfl, .bool _ _⟩
          rw [Sem.run_bind, run_eqGuard_agg w op t xo yo _ _ hg, Result.andThen_ok]
          cases op <;> simp [cmpOf] at hop <;> subst hop
          · rw [run_eql_struct, hr]; rfl
          · rw [run_neq_struct, hr]; rfl
        · cases h
    · cases h
  · rename_i ng l hop
    split at h
    · rename_i e he
      have ht : P.underlying t = some (.slice e) := by
        unfold elemT at he
        split at he
        · rename_i e' hu; injection he with he; rw [<- he]; exact hu
        · cases he
      obtain ⟨z, hz, h2⟩ := lfK_inv (w0 := w0) (N := N) h
      clear h
      split at h2
      · refine ⟨_, h2, fun lab ρ a w hR xo yo u v hu hv => ?_⟩
        obtain ⟨q, hq⟩ := hz lab ρ a w hR u hu
        cases hq
        cases hv.2
        exact ⟨_, run_eq_nil hop ht xo yo none 0 0, rfl, by cases ng <;> exact .bool _ _⟩
      · refine ⟨_, h2, fun lab ρ a w hR xo yo u v hu hv => ?_⟩
        obtain ⟨q, hq⟩ := hz lab ρ a w hR u hu
        cases hv.2
        cases hq with
        | fro _ _ _ _ _ b off cap us ho hl hb h1 hcap hc hr => exact ⟨_, run_eq_nil hop ht xo yo _ _ _, rfl, by cases ng <;> exact .bool _ _⟩
        | own => exact ⟨_, run_eq_nil hop ht xo yo _ _ _, rfl, by cases ng <;> exact .bool _ _⟩
        | slNon => exact ⟨_, run_eq_nil hop ht xo yo _ _ _, rfl, by cases ng <;> exact .bool _ _⟩
      · rename_i t' o' l'
        cases hl : isEmp l' with
        | true => rw [hl] at h2; cases h2
        | false =>
          rw [hl, cond_false] at h2
          refine ⟨_, h2, fun lab ρ a w hR xo yo u v hu hv => ?_⟩
          obtain ⟨q, hq⟩ := hz lab ρ a w hR u hu
          cases hv.2
          cases hq with
          | slNil => cases hl
          | slEmp => cases hl
          | fro _ _ _ _ _ b off cap us ho hl' hb h1 hcap hc hr => exact ⟨_, run_eq_nil hop ht xo yo _ _ _, rfl, by cases ng <;> exact .bool _ _⟩
          | own => exact ⟨_, run_eq_nil hop ht xo yo _ _ _, rfl, by cases ng <;> exact .bool _ _⟩
      · cases h2
    · cases h
  · obtain ⟨u0, hx, h1⟩ := vK_ok h
    obtain ⟨v0, hy, h2⟩ := vK_ok h1
    obtain ⟨z, h3, hp, hs⟩ := binK_ok h2
    subst hx hy
    refine ⟨_, h3, fun lab ρ a w hR xo yo u v hu hv => ?_⟩
    obtain ⟨t', hrun, hr⟩ := hs w _ lab xo yo [] [] _ _ hu.2 hv.2
    exact ⟨t', hrun, V.plain_fro hp, hr⟩
/-! Parts of slices that nobody writes. -/
theorem bndK_ok {x : Option A} {dflt : Int} {k : Int -> Option X} (h : bndK x dflt k = some r) : ∃ n, k n = some r /\ (∀ (X' : Type) (k' : Int -> Option X'), bndK x dflt k' = k' n) /\ ((x = none /\ n = dflt) \/ ∃ kd, x = some (.lf (.v (.int kd n)))) := by
  unfold bndK at h
  split at h
  · exact ⟨_, h, fun _ _ => rfl, .inl ⟨rfl, rfl⟩⟩
  · exact ⟨_, h, fun _ _ => rfl, .inr ⟨_, rfl⟩⟩
  · cases h
theorem sliceK_inv {t : TypeId} {x : A} {lo hi : Option A} {k : A -> Option X} (h : sliceK P t x lo hi k = some r) : ∃ y, k y = some r /\ (∀ (X' : Type) (k' : A -> Option X'), sliceK P t x lo hi k' = k' y) /\
    ((∃ (s : ByteArray) (l h : Int), x = .lf (.v (.str s)) /\ P.underlying t = some .string /\ ((lo = none /\ l = 0) \/ ∃ kd, lo = some (.lf (.v (.int kd l)))) /\ ((hi = none /\ h = s.size) \/ ∃ kd, hi = some (.lf (.v (.int kd h)))) /\ 0 <= l /\ l <= h /\ h <= (s.size : Int) /\ y = .lf (.v (.str (s.extract l.toNat h.toNat)))) \/
     ∃ (tc : TC) (g : Nat) (qn : Bool) (xs : List (T tc)) (e : TypeId) (l h : Int), x = .lf (.v (.sl tc g qn xs)) /\ elemT P t = some e /\ szOf P e = some (csz tc) /\ g < 2 /\ ((lo = none /\ l = 0) \/ ∃ kd, lo = some (.lf (.v (.int kd l)))) /\ ((hi = none /\ h = xs.length) \/ ∃ kd, hi = some (.lf (.v (.int kd h)))) /\ 0 <= l /\ l <= h /\ h <= (xs.length : Int) /\ y = .lf (.v (.sl tc g false ((xs.take h.toNat).drop l.toNat)))) := by
  unfold sliceK at h
  split at h
  · rename_i s
    split at h
    · rename_i hu
      obtain ⟨l, h1, d1, e1⟩ := bndK_ok h
      obtain ⟨m, h2, d2, e2⟩ := bndK_ok h1
      split at h2
      · rename_i hb
        refine ⟨_, h2, fun X' k' => ?_, .inl ⟨s, l, m, rfl, hu, e1, e2, hb.1, hb.2.1, hb.2.2, rfl⟩⟩
        simp only [sliceK, hu]
        rw [d1, d2, if_pos hb]
      · cases h2
    · cases h
  · rename_i tc g qn xs
    split at h
    · rename_i e he
      split at h
      · rename_i n hn
        split at h
        · rename_i hnc
          subst hnc
          cases hg : Nat.blt g 2 with
          | false => rw [hg] at h; cases h
          | true =>
            rw [hg, cond_true] at h
            obtain ⟨l, h1, d1, e1⟩ := bndK_ok h
            obtain ⟨m, h2, d2, e2⟩ := bndK_ok h1
            split at h2
            · rename_i hb
              refine ⟨_, h2, fun X' k' => ?_, .inr ⟨tc, g, qn, xs, e, l, m, rfl, he, hn, Nat.le_of_ble_eq_true hg, e1, e2, hb.1, hb.2.1, hb.2.2, rfl⟩⟩
              simp only [sliceK, he, hn, if_true, hg, cond_true]
              rw [d1, d2, if_pos hb]
            · cases h2
        · cases h
      · cases h
    · cases h
  · cases h
theorem sliceK_ok {t : TypeId} {x : A} {lo hi : Option A} {k : A -> Option X} (h : sliceK P t x lo hi k = some r) : ∃ y, k y = some r /\ (∀ (X' : Type) (k' : A -> Option X'), sliceK P t x lo hi k' = k' y) /\
    ∀ (w : World) (B : Nat) (lab : Lab) (ρ : Nat -> Loc) (u : Value) (lv hv : Option Value), RA w B lab ρ x u -> (∀ a, lo = some a -> ∃ v, lv = some v /\ RA w B lab ρ a v) -> (lo = none -> lv = none) -> (∀ a, hi = some a -> ∃ v, hv = some v /\ RA w B lab ρ a v) -> (hi = none -> hv = none) ->
      ∃ t', (Instr.sliceAt t u lv hv none).run P w = .ok t' w /\ RA w B lab ρ y t' := by
  obtain ⟨y, h1, hd, hc⟩ := sliceK_inv h
  refine ⟨y, h1, hd, fun w B lab ρ u lv hv hu hl1 hl2 hh1 hh2 => ?_⟩
  have bl : ∀ {o : Option A} {ov : Option Value} {n dflt : Int}, (∀ a, o = some a -> ∃ v, ov = some v /\ RA w B lab ρ a v) -> (o = none -> ov = none) -> ((o = none /\ n = dflt) \/ ∃ kd, o = some (.lf (.v (.int kd n)))) -> (ov = none /\ n = dflt) \/ ∃ kd, ov = some (.int kd n) := by
    intro o ov n dflt g1 g2 g3
    rcases g3 with ⟨e, e'⟩ | ⟨kd, e⟩
    · exact .inl ⟨g2 e, e'⟩
    · obtain ⟨v, hv, hr⟩ := g1 _ e
      exact .inr ⟨kd, by rw [hv, hr.2.int_inv]⟩
  rcases hc with ⟨s, l, m, rfl, hut, e1, e2, b1, b2, b3, rfl⟩ | ⟨tc, g, qn, xs, e, l, m, rfl, he, hn, hg, e1, e2, b1, b2, b3, rfl⟩
  · have h5 := bl hl1 hl2 e1
    have h6 := bl hh1 hh2 e2
    obtain rfl := hu.2.str_inv
    have em : (m.toNat : Int) = m := Int.toNat_of_nonneg (by omega)
    refine ⟨.string (s.extract l.toNat m.toNat), ?_, rfl, .str _ _⟩
    rw [run_sliceAt_string w t _ _ _ _ hut]
    have hb0 : 0 <= m := by omega
    rcases h5 with ⟨rfl, h7⟩ | ⟨kl, rfl⟩ <;> rcases h6 with ⟨rfl, h8⟩ | ⟨kh, rfl⟩
    all_goals simp_all [Instr.slice, run_underlying hut, Instr.sliceBounds, run_sliceBound]
  · have h5 := bl hl1 hl2 e1
    have h6 := bl hh1 hh2 e2
    have hut : P.underlying t = some (.slice e) := by
      unfold elemT at he
      split at he
      · rename_i e' hu'; injection he with he; rw [<- he]; exact hu'
      · cases he
    have hel : P.elem t = e := by simp [Program.elem, hut]
    have hut' : P.underlying t = some (.slice (P.elem t)) := by rw [hel]; exact hut
    have hss : (sizeOf (P.elem t)).run P w = .ok (csz tc) w := by
      unfold szOf at hn
      cases hi : P.info? e with
      | none => simp [hi] at hn
      | some i =>
        have : i.size = csz tc := by simpa [hi] using hn
        simp [sizeOf, typeInfo, hel, hi, this]
    have hus : ∃ A n c, u = .slice A n c := by
      cases hu.2 with
      | slNil => exact ⟨_, _, _, rfl⟩
      | slEmp => exact ⟨_, _, _, rfl⟩
      | slNon => exact ⟨_, _, _, rfl⟩
      | fro => exact ⟨_, _, _, rfl⟩
      | own => exact ⟨_, _, _, rfl⟩
    obtain ⟨A, n, c, rfl⟩ := hus
    obtain ⟨hp, hn1, hn2⟩ := hu.2.part (a := l.toNat) (h := m.toNat) hg (by omega) (by omega)
    refine ⟨_, ?_, by simp [V.fro, hg], hp⟩
    rw [run_sliceAt_slice w t _ _ _ _ hut']
    rcases h5 with ⟨rfl, rfl⟩ | ⟨kl, rfl⟩ <;> rcases h6 with ⟨rfl, rfl⟩ | ⟨kh, rfl⟩
    · rw [run_slice_all w t A n c hut', hss, hn1]
      simp
    · rw [run_slice_h w t A n c hut' kh m (by omega) (by omega), hss]
      simp
    · rw [run_slice_l w t A n c hut' kl l (by omega) (by omega), hss, hn1]
      simp
    · rw [run_slice_lh w t A n c hut' kl kh l m (by omega) (by omega) (by omega), hss]
      simp
/-! Parts of slices that are owned. -/
def viewF {X : Type} (n : Nat) (q : List Nat) (lo hi : Option A) (y : V) (k : A -> Option X) : Option X :=
  match y with
  | .sl t' _ _ l => if n = csz t' then bndK lo 0 fun a => bndK hi (l.length : Int) fun b => if 0 <= a /\ a <= b /\ b <= (l.length : Int) then k (.view q n a.toNat b.toNat) else none else none
  | _ => none
def viewK {X : Type} (P : Program) (σ : S) (t : TypeId) (q : List Nat) (lo hi : Option A) (k : A -> Option X) : Option X :=
  match elemT P t with
  | some e => (match szOf P e with
    | some n => getK σ.m q fun y => viewF n q lo hi y k
    | none => none)
  | none => none
def slcK {X : Type} (P : Program) (σ : S) (t : TypeId) (x : A) (lo hi : Option A) (k : A -> Option X) : Option X :=
  match x with
  | .lf (.own q) => viewK P σ t q lo hi k
  | x => sliceK P t x lo hi k
theorem viewF_inv {n : Nat} {q : List Nat} {lo hi : Option A} {y : V} {k : A -> Option X} (h : viewF n q lo hi y k = some r) : ∃ (tc : TC) (g : Nat) (qn : Bool) (xs : List (T tc)) (l h : Int), y = .sl tc g qn xs /\ n = csz tc /\
    ((lo = none /\ l = 0) \/ ∃ kd, lo = some (.lf (.v (.int kd l)))) /\ ((hi = none /\ h = xs.length) \/ ∃ kd, hi = some (.lf (.v (.int kd h)))) /\ 0 <= l /\ l <= h /\ h <= (xs.length : Int) /\ k (.view q n l.toNat h.toNat) = some r /\
    ∀ (X' : Type) (k' : A -> Option X'), viewF n q lo hi y k' = k' (.view q n l.toNat h.toNat) := by
  unfold viewF at h
  split at h
  · rename_i tc g qn xs
    split at h
    · rename_i hnc
      obtain ⟨l, h1, d1, e1⟩ := bndK_ok h
      obtain ⟨m, h2, d2, e2⟩ := bndK_ok h1
      split at h2
      · rename_i hb
        refine ⟨tc, g, qn, xs, l, m, rfl, hnc, e1, e2, hb.1, hb.2.1, hb.2.2, h2, fun X' k' => ?_⟩
        simp only [viewF, if_pos hnc]
        rw [d1, d2, if_pos hb]
      · cases h2
    · cases h
  · cases h
theorem slcK_ok {t : TypeId} {x : A} {lo hi : Option A} {k : A -> Option X} (h : slcK P σ t x lo hi k = some r) : ∃ y, k y = some r /\
    ∀ lab ρ a w, Rl w0 N lab ρ σ a w -> ∀ (u : Value) (lv hv : Option Value), RA w w0.heap.size lab ρ x u -> (∀ a, lo = some a -> ∃ v, lv = some v /\ RA w w0.heap.size lab ρ a v) -> (lo = none -> lv = none) -> (∀ a, hi = some a -> ∃ v, hv = some v /\ RA w w0.heap.size lab ρ a v) -> (hi = none -> hv = none) ->
      ∃ t', (Instr.sliceAt t u lv hv none).run P w = .ok t' w /\ RA w w0.heap.size lab ρ y t' := by
  unfold slcK at h
  split at h
  · rename_i q
    unfold viewK at h
    split at h
    · rename_i e he
      split at h
      · rename_i n hn
        obtain ⟨y0, hy0, h2⟩ := getK_ok q _ h
        obtain ⟨tc, g, qn, xs, l, m, rfl, hnc, e1, e2, b1, b2, b3, h3, _⟩ := viewF_inv h2
        refine ⟨_, h3, fun lab ρ a w hR u lv hv hu hl1 hl2 hh1 hh2 => ?_⟩
        have bl : ∀ {o : Option A} {ov : Option Value} {n dflt : Int}, (∀ a, o = some a -> ∃ v, ov = some v /\ RA w w0.heap.size lab ρ a v) -> (o = none -> ov = none) -> ((o = none /\ n = dflt) \/ ∃ kd, o = some (.lf (.v (.int kd n)))) -> (ov = none /\ n = dflt) \/ ∃ kd, ov = some (.int kd n) := by
          intro o ov n dflt g1 g2 g3
          rcases g3 with ⟨e, e'⟩ | ⟨kd, e⟩
          · exact .inl ⟨g2 e, e'⟩
          · obtain ⟨v, hv, hr⟩ := g1 _ e
            exact .inr ⟨kd, by rw [hv, hr.2.int_inv]⟩
        have h5 := bl hl1 hl2 e1
        have h6 := bl hh1 hh2 e2
        have hut : P.underlying t = some (.slice e) := by
          unfold elemT at he
          split at he
          · rename_i e' hu'; injection he with he; rw [<- he]; exact hu'
          · cases he
        have hel : P.elem t = e := by simp [Program.elem, hut]
        have hut' : P.underlying t = some (.slice (P.elem t)) := by rw [hel]; exact hut
        have hss : (sizeOf (P.elem t)).run P w = .ok n w := by
          unfold szOf at hn
          cases hi : P.info? e with
          | none => simp [hi] at hn
          | some i =>
            have : i.size = n := by simpa [hi] using hn
            simp [sizeOf, typeInfo, hel, hi, this]
        obtain ⟨v0, hv0, hr0⟩ := hy0.ok hR.root
        have huv := hu.2
        rw [hv0] at huv
        injection huv with huv
        subst huv
        have hf : RV w 0 (fun _ => none) [] (.sl tc 0 qn xs) v0 := hr0.frz
        have hus : ∃ A n c, v0 = .slice A n c := by
          cases hf with
          | slNil => exact ⟨_, _, _, rfl⟩
          | slEmp => exact ⟨_, _, _, rfl⟩
          | slNon => exact ⟨_, _, _, rfl⟩
          | fro => exact ⟨_, _, _, rfl⟩
        obtain ⟨A, n', c, rfl⟩ := hus
        obtain ⟨hp, hn1, hn2⟩ := hf.part (a := l.toNat) (h := m.toNat) (by omega) (by omega) (by omega)
        refine ⟨sliced A l.toNat m.toNat c n, ?_, A, n', c, hv0, by omega, by omega, rfl⟩
        rw [run_sliceAt_slice w t _ _ _ _ hut']
        rcases h5 with ⟨rfl, rfl⟩ | ⟨kl, rfl⟩ <;> rcases h6 with ⟨rfl, rfl⟩ | ⟨kh, rfl⟩
        · rw [run_slice_all w t A n' c hut', hss, hn1]
          simp
        · rw [run_slice_h w t A n' c hut' kh m (by omega) (by omega), hss]
          simp
        · rw [run_slice_l w t A n' c hut' kl l (by omega) (by omega), hss, hn1]
          simp
        · rw [run_slice_lh w t A n' c hut' kl kh l m (by omega) (by omega) (by omega), hss]
          simp
      · cases h
    · cases h
  · obtain ⟨y, h1, _, hs⟩ := sliceK_ok h
    exact ⟨y, h1, fun lab ρ a w _ u lv hv => hs w _ lab ρ u lv hv⟩
end
end Go.Proofs.YtckjagaogcbedaaGreat
namespace Go.Proofs.YtckjagaogcbedaaGreat
open Go.RowKit
set_option linter.unusedVariables false
abbrev Pt := Bool × List V
def PV (w : World) (B : Nat) (lab : Lab) (key : Nat -> List Nat) (p : Pt) (u : Value) : Prop :=
  ∃ us : Array Value, (match p.1 with | true => u = .agg us | false => us = #[u]) /\ us.size = p.2.length /\ ∀ (j : Nat) x, p.2[j]? = some x -> ∃ v, us[j]? = some v /\ RV w B lab (key j) x v
def FPt (w : World) (cs : List V) (u : Value) : Prop :=
  ∃ b off, u = .pointer (some ⟨b, off, none⟩) /\ b < w.heap.size /\ ∀ (j : Nat) x, cs[j]? = some x -> ∃ v, w.cell? ⟨b, off + j, none⟩ = some v /\ RV w w.heap.size (fun _ => none) [] x v
inductive PA (w : World) : Pt -> Value -> Prop
  | v (p : Pt) (u : Value) (h : PV w w.heap.size (fun _ => none) (fun _ => []) p u) : PA w p u
  | p (c : V) (cs : List V) (u : Value) (h : FPt w (c :: cs) u) : PA w (false, .bool true :: c :: cs) u
  | f (g : Nat) (c : V) (cs : List V) (u : Value) (h : FPt w (c :: cs) u) : PA w (false, .bool false :: .int .i64 (g : Int) :: c :: cs) (.func (.func g) #[] #[u])
def ArgsOK (w : World) (args : List Pt) (vals : Array Value) : Prop :=
  vals.size = args.length /\ ∀ (i : Nat) p, args[i]? = some p -> ∃ u, vals[i]? = some u /\ PA w p u
theorem PA.pv {w : World} {x : V} {u : Value} (h : PA w (false, [x]) u) : PV w w.heap.size (fun _ => none) (fun _ => []) (false, [x]) u := by
  cases h with
  | v _ _ h => exact h
theorem PA.pvS {w : World} {xs : List V} {u : Value} (h : PA w (true, xs) u) : PV w w.heap.size (fun _ => none) (fun _ => []) (true, xs) u := by
  cases h with
  | v _ _ h => exact h
inductive Res where
  | one (p : Pt)
  | tup (ps : List Pt)
def locG (t : TC) : Nat -> Bool
  | 0 => false
  | 1 => true
  | o + 2 => Nat.ble (full t) o || Nat.beq (o % 2) 1
def V.loc : V -> Bool
  | .sl t o _ _ => locG t o
  | _ => true
def ResL (w : World) (B : Nat) (lab : Lab) (nm : Nat -> Nat) : Nat -> List Pt -> List Value -> Prop
  | _, [], [] => True
  | off, p :: ps, v :: vs => (p.2.all V.loc = true /\ PV w B lab (fun j => [nm (off + j)]) p v) /\ ResL w B lab nm (off + p.2.length) ps vs
  | _, _, _ => False
def ResOK (w : World) (B : Nat) (lab : Lab) (nm : Nat -> Nat) : Res -> Value -> Prop
  | .one p, v => ResL w B lab nm 0 [p] [v]
  | .tup ps, v => ∃ vs : Array Value, v = .tuple vs /\ ResL w B lab nm 0 ps vs.toList
structure Ctr where
  run : (X : Type) -> List Pt -> (Res -> Option X) -> Option X
def CtrOK (P : Program) (f : Nat) (c : Ctr) : Prop :=
  ∀ (X : Type) (args : List Pt) (k : Res -> Option X) (r : X), c.run X args k = some r -> ∃ res, k res = some r /\ (∀ (X' : Type) (k' : Res -> Option X'), c.run X' args k' = k' res) /\ ∀ (nm : Nat -> Nat) (w : World) (vals : Array Value), ArgsOK w args vals -> Hd w (fun _ => none) ->
    Calls P f vals w fun e w' => ∃ v lab', e = .returned v /\ Below w.heap.size w w' /\ (∀ b k, lab' b = some k -> w.heap.size <= b /\ b < w'.heap.size /\ k ≠ []) /\ ResOK w' w.heap.size lab' nm res v
def lvK {X : Type} (σ : S) : List Lf -> (List V -> Option X) -> Option X
  | [], k => k []
  | x :: xs, k => lfK σ x fun y => lvK σ xs fun ys => k (y.frz :: ys)
def argK {X : Type} (σ : S) (x : A) (k : Pt -> Option X) : Option X :=
  match x with
  | .lf y => lvK σ [y] fun vs => k (false, vs)
  | .agg ys => lvK σ ys fun vs => k (true, vs)
  | .view q s i j => viewV σ q s i j fun y => k (false, [y])
  | _ => none
def argQK {X : Type} (σ : S) (x : A) (k : Pt -> Option X) : Option X :=
  match x with
  | .fptr (c :: cs) => k (false, .bool true :: c.frz :: cs.map V.frz)
  | .ffn f (c :: cs) => k (false, .bool false :: .int .i64 (f : Int) :: c.frz :: cs.map V.frz)
  | .bptr r j => (match σ.m r with
    | some (.blk cs) => lvK σ (cs.drop j) fun vs => (match vs with
      | c :: cs => k (false, .bool true :: c :: cs)
      | [] => none)
    | _ => none)
  | .fn f [(r, j)] => (match σ.m r with
    | some (.blk cs) => lvK σ (cs.drop j) fun vs => (match vs with
      | c :: cs => k (false, .bool false :: .int .i64 (f : Int) :: c :: cs)
      | [] => none)
    | _ => none)
  | x => argK σ x k
def argsQK {X : Type} (σ : S) : List Operand -> (List Pt -> Option X) -> Option X
  | [], k => k []
  | x :: xs, k => argQK σ (opd σ x) fun p => argsQK σ xs fun ps => k (p :: ps)
def argsK {X : Type} (σ : S) : List Operand -> (List Pt -> Option X) -> Option X
  | [], k => k []
  | x :: xs, k => argK σ (opd σ x) fun p => argsK σ xs fun ps => k (p :: ps)
def resLf (c : Nat) : List V -> List Lf
  | [] => []
  | x :: xs => (bif x.fro then .v x else .own [c]) :: resLf (c + 1) xs
def resRt (c : Nat) (σ : S) : List V -> S
  | [] => σ
  | x :: xs => resRt (c + 1) (bif x.fro then σ else (σ.drop c).root c (.sl x)) xs
def resLs (c : Nat) : List Pt -> List (Bool × List Lf)
  | [] => []
  | p :: ps => (p.1, resLf c p.2) :: resLs (c + p.2.length) ps
def resRs (c : Nat) (σ : S) : List Pt -> S
  | [] => σ
  | p :: ps => resRs (c + p.2.length) (resRt c σ p.2) ps
def callQK {X : Type} (N : Nat) (σ : S) (d : Nat) (c : Ctr) (args : List Operand) (k : S -> Option X) : Option X :=
  bif Nat.blt d N then argsQK σ args fun ps => c.run X ps fun res => (match res with
    | .one p => (match partA (p.1, resLf (1000000000100000 + 1000 * d) p.2) with
      | some y => k ((resRt (1000000000100000 + 1000 * d) σ p.2).set d y)
      | none => none)
    | .tup ps => k ((resRs (1000000000100000 + 1000 * d) σ ps).set d (.tup (resLs (1000000000100000 + 1000 * d) ps)))) else none
def callK {X : Type} (N : Nat) (σ : S) (d : Nat) (c : Ctr) (args : List Operand) (k : S -> Option X) : Option X :=
  bif Nat.blt d N then argsK σ args fun ps => c.run X ps fun res => (match res with
    | .one p => (match partA (p.1, resLf (1000000000100000 + 1000 * d) p.2) with
      | some y => k ((resRt (1000000000100000 + 1000 * d) σ p.2).set d y)
      | none => none)
    | .tup ps => k ((resRs (1000000000100000 + 1000 * d) σ ps).set d (.tup (resLs (1000000000100000 + 1000 * d) ps)))) else none
section
variable {P : Program} {w w' : World} {w0 : Wd} {B N : Nat} {lab lab' : Lab} {ρ ρ' : Nat -> Loc} {σ : S} {a : Act} {X : Type} {d : Nat} {r : X} {o : Oper}
theorem lvK_ok : ∀ (xs : List Lf) (k : List V -> Option X), lvK σ xs k = some r -> ∃ vs, k vs = some r /\ vs.length = xs.length /\ ∀ lab ρ a w, Rl w0 N lab ρ σ a w -> ∀ (j : Nat) x y u, xs[j]? = some x -> vs[j]? = some y -> RLf w w0.heap.size lab ρ x u -> RV w w.heap.size (fun _ => none) [] y u
  | [], k, h => ⟨[], h, rfl, fun _ _ _ _ _ j x y u hx => by simp at hx⟩
  | x :: xs, k, h => by
    unfold lvK at h
    obtain ⟨y, hy, h2⟩ := lfK_inv (w0 := w0) (N := N) h
    obtain ⟨ys, h3, hl, hr⟩ := lvK_ok xs _ h2
    refine ⟨y.frz :: ys, h3, by simp [hl], fun lab ρ a w hR j x' y' u hx' hy' hu => ?_⟩
    cases j with
    | zero =>
      simp at hx' hy'
      subst hx' hy'
      obtain ⟨q, hq⟩ := hy lab ρ a w hR u hu
      exact hq.frz
    | succ j => exact hr lab ρ a w hR j x' y' u (by simpa using hx') (by simpa using hy') hu
theorem blk_FPt {r' j' : Nat} {cs : List Lf} {vs : List V} (hm : σ.m r' = some (.blk cs)) (hl : vs.length = (cs.drop j').length)
    (hr : ∀ lab ρ a w, Rl w0 N lab ρ σ a w -> ∀ (j : Nat) x y u, (cs.drop j')[j]? = some x -> vs[j]? = some y -> RLf w w0.heap.size lab ρ x u -> RV w w.heap.size (fun _ => none) [] y u)
    {lab : Lab} {ρ : Nat -> Loc} {a : Act} {w : World} {u : Value} (hR : Rl w0 N lab ρ σ a w) (hu : RA w w0.heap.size lab ρ (.bptr r' j') u) : FPt w vs u := by
  obtain ⟨b, off, e1, rfl⟩ := hu
  cases hR.root r' _ hm with
  | blk b' off' cells e _ us hρ hlab hh hs hc =>
    rw [e1] at hρ
    injection hρ with q1 q2
    subst q1 q2
    refine ⟨b, off + j', rfl, (Array.getElem?_eq_some_iff.1 hh).1, fun j x hx => ?_⟩
    have hj : j < (cs.drop j').length := by rw [<- hl]; exact (List.getElem?_eq_some_iff.1 hx).1
    have hcd := List.getElem?_eq_getElem hj
    have hcd' : cs[j' + j]? = some (cs.drop j')[j] := by rw [<- List.getElem?_drop]; exact hcd
    obtain ⟨k1, k2⟩ := hc _ _ hcd'
    refine ⟨us (j' + j), ?_, hr lab ρ a w hR j _ x _ hcd hx k2⟩
    rw [Nat.add_assoc, cell_of_row w b _ cells _ _ hh]
    exact k1
theorem argK_ok {x : A} {k : Pt -> Option X} (h : argK σ x k = some r) : ∃ p, k p = some r /\ ∀ lab ρ a w, Rl w0 N lab ρ σ a w -> ∀ u, RA w w0.heap.size lab ρ x u -> PA w p u := by
  unfold argK at h
  split at h
  · rename_i y
    obtain ⟨vs, h2, hl, hr⟩ := lvK_ok (w0 := w0) (N := N) _ _ h
    refine ⟨_, h2, fun lab ρ a w hR u hu => .v _ _ ⟨#[u], rfl, by simp [hl], fun j x hx => ?_⟩⟩
    have hj : j = 0 := by
      have := (List.getElem?_eq_some_iff.1 hx).1
      simp only [hl] at this
      simpa using this
    subst hj
    exact ⟨u, rfl, hr lab ρ a w hR 0 y x u rfl hx hu⟩
  · rename_i ys
    obtain ⟨vs, h2, hl, hr⟩ := lvK_ok (w0 := w0) (N := N) _ _ h
    refine ⟨_, h2, fun lab ρ a w hR u hu => ?_⟩
    obtain ⟨us, rfl, hs⟩ := hu
    refine .v _ _ ⟨us, rfl, by rw [hl]; exact hs.1, fun j x hx => ?_⟩
    have hj : j < ys.length := by rw [<- hl]; exact (List.getElem?_eq_some_iff.1 hx).1
    obtain ⟨v, hv, hr'⟩ := hs.2 j _ (List.getElem?_eq_getElem hj)
    exact ⟨v, hv, hr lab ρ a w hR j _ x v (List.getElem?_eq_getElem hj) hx hr'⟩
  · obtain ⟨z, h2, _, hz⟩ := viewV_ok h
    refine ⟨_, h2, fun lab ρ a w hR u hu => .v _ _ ⟨#[u], rfl, rfl, fun j x hx => ?_⟩⟩
    cases j with
    | zero =>
      simp at hx
      subst hx
      exact ⟨u, rfl, hz _ _ _ _ _ _ hR u hu _⟩
    | succ j => simp at hx
  · cases h
theorem RF_FPt {cs : List V} {u : Value} (hu : RF w B lab cs u) : FPt w (cs.map V.frz) u := by
  obtain ⟨b, off, rfl, h1, h2, h3⟩ := hu
  refine ⟨b, off, rfl, h1, fun j x hx => ?_⟩
  rw [List.getElem?_map] at hx
  cases hy : cs[j]? with
  | none => rw [hy] at hx; cases hx
  | some y =>
    rw [hy] at hx
    injection hx with hx
    subst hx
    obtain ⟨_, v, h4, h5⟩ := h3 j y hy
    exact ⟨v, h4, h5.frz⟩
theorem argQK_ok {x : A} {k : Pt -> Option X} (h : argQK σ x k = some r) : ∃ p, k p = some r /\ ∀ lab ρ a w, Rl w0 N lab ρ σ a w -> ∀ u, RA w w0.heap.size lab ρ x u -> PA w p u := by
  unfold argQK at h
  split at h
  · rename_i c cs
    refine ⟨_, h, fun lab ρ a w hR u hu => ?_⟩
    exact .p _ _ _ (RF_FPt hu)
  · rename_i f c cs
    refine ⟨_, h, fun lab ρ a w hR u hu => ?_⟩
    obtain ⟨pv, rfl, hp⟩ := hu
    exact .f _ _ _ _ (RF_FPt hp)
  · rename_i r' j'
    split at h
    · rename_i cs hm
      obtain ⟨vs, h2, hl, hr⟩ := lvK_ok (w0 := w0) (N := N) _ _ h
      split at h2
      · rename_i c cs'
        refine ⟨_, h2, fun lab ρ a w hR u hu => ?_⟩
        exact .p _ _ _ (blk_FPt hm hl hr hR hu)
      · cases h2
    · cases h
  · rename_i f r' j'
    split at h
    · rename_i cs hm
      obtain ⟨vs, h2, hl, hr⟩ := lvK_ok (w0 := w0) (N := N) _ _ h
      split at h2
      · rename_i c cs'
        refine ⟨_, h2, fun lab ρ a w hR u hu => ?_⟩
        obtain ⟨ps, rfl, hs, hp⟩ := hu
        obtain ⟨b, off, e1, e2⟩ := hp 0 _ rfl
        have e : ps = #[.pointer (some ⟨b, off + j', none⟩)] := by
          apply Array.ext (by simpa using hs)
          intro i h1 h2
          have : i = 0 := by simp at h2; omega
          subst this
          rw [Array.getElem?_eq_getElem h1] at e2
          injection e2
        subst e
        exact .f _ _ _ _ (blk_FPt hm hl hr hR ⟨b, off, e1, rfl⟩)
      · cases h2
    · cases h
  · exact argK_ok h
theorem argsQK_ok : ∀ (xs : List Operand) (k : List Pt -> Option X), argsQK σ xs k = some r -> ∃ ps, k ps = some r /\ ∀ lab ρ a w, Rl w0 N lab ρ σ a w -> ArgsOK w ps (xs.map a.eval).toArray
  | [], k, h => ⟨[], h, fun _ _ _ _ _ => ⟨rfl, fun i p hp => by simp at hp⟩⟩
  | x :: xs, k, h => by
    unfold argsQK at h
    obtain ⟨p, h2, hp⟩ := argQK_ok (w0 := w0) (N := N) h
    obtain ⟨ps, h3, hps⟩ := argsQK_ok xs _ h2
    refine ⟨p :: ps, h3, fun lab ρ a w hR => ⟨?_, fun i q hq => ?_⟩⟩
    · have := (hps lab ρ a w hR).1
      simp at this
      simp [this]
    · cases i with
      | zero =>
        simp at hq
        subst hq
        exact ⟨_, rfl, hp lab ρ a w hR _ (hR.opd x)⟩
      | succ i =>
        obtain ⟨u, hu, hr⟩ := (hps lab ρ a w hR).2 i q (by simpa using hq)
        exact ⟨u, by simpa using hu, hr⟩
theorem argsK_ok : ∀ (xs : List Operand) (k : List Pt -> Option X), argsK σ xs k = some r -> ∃ ps, k ps = some r /\ ∀ lab ρ a w, Rl w0 N lab ρ σ a w -> ArgsOK w ps (xs.map a.eval).toArray
  | [], k, h => ⟨[], h, fun _ _ _ _ _ => ⟨rfl, fun i p hp => by simp at hp⟩⟩
  | x :: xs, k, h => by
    unfold argsK at h
    obtain ⟨p, h2, hp⟩ := argK_ok (w0 := w0) (N := N) h
    obtain ⟨ps, h3, hps⟩ := argsK_ok xs _ h2
    refine ⟨p :: ps, h3, fun lab ρ a w hR => ⟨?_, fun i q hq => ?_⟩⟩
    · have := (hps lab ρ a w hR).1
      simp at this
      simp [this]
    · cases i with
      | zero =>
        simp at hq
        subst hq
        exact ⟨_, rfl, hp lab ρ a w hR _ (hR.opd x)⟩
      | succ i =>
        obtain ⟨u, hu, hr⟩ := (hps lab ρ a w hR).2 i q (by simpa using hq)
        exact ⟨u, by simpa using hu, hr⟩
theorem loc_inner {t : TC} {o : Nat} (h : locG t (o + 2) = true) (x : T t) : ∀ y ∈ enc t o x, y.loc = true := by
  intro y hy
  have hg := enc_gr t o x y hy
  cases y with
  | sl t' o' q l =>
    have ho : o' = o := by simpa [V.gr] using hg
    subst ho
    have hf : full t' + 2 <= full t := Nat.le_of_ble_eq_true (enc_full t o' x _ hy)
    show locG t' o' = true
    simp only [locG, Bool.or_eq_true] at h
    rcases h with h | h
    · have h := Nat.le_of_ble_eq_true h
      match o', h with
      | 0, h => omega
      | 1, h => rfl
      | n + 2, h =>
        simp only [locG, Bool.or_eq_true]
        left
        exact Nat.ble_eq_true_of_le (by omega)
    · have h := Nat.eq_of_beq_eq_true h
      match o', h with
      | 0, h => omega
      | 1, h => rfl
      | n + 2, h =>
        simp only [locG, Bool.or_eq_true]
        right
        have : n % 2 = 1 := by omega
        rw [this]
        rfl
  | _ => rfl
theorem RV.home {q : List Nat} {x : V} {v : Value} (h : RV w B lab q x v) {B' : Nat} (hB : B' <= B) (hl : ∀ b, B <= b -> lab' b = lab b) (hg : ∀ b k, lab b = some k -> B <= b) (hx : x.loc = true) : RV w B' lab' q x v := by
  induction h with
  | int => exact .int _ _ _
  | bool => exact .bool _ _
  | str => exact .str _ _
  | nil => exact .nil _
  | slNil => exact .slNil _ _ _
  | slEmp => exact .slEmp _ _ _ _ _ (by first | assumption | omega)
  | slNon => exact .slNon _ _ _ _ _ (by first | assumption | omega)
  | fro q t o qn l b off cap u ho hlb hb h1 hcap hc hr ih =>
    have ho1 : o = 1 := by
      match o, ho, hx with
      | 0, _, hx => cases hx
      | 1, _, _ => rfl
      | n + 2, ho, _ => omega
    subst ho1
    have hBb := h1 rfl
    refine .fro _ _ _ _ _ _ _ _ u ho ((hl b hBb).trans hlb) hb (fun _ => Nat.le_trans hB hBb) hcap hc (fun i h j x hx' => ih i h j x hx' ?_)
    have := enc_gr t 1 l[i] x (List.mem_of_getElem? hx')
    cases x with
    | sl t' o' q' l' =>
      have : o' = 1 := by simpa [V.gr] using this
      subst this
      rfl
    | _ => rfl
  | own q t o qn l b cap cs u hlb hh hs hn hm hc hr ih =>
    exact .own _ _ _ _ _ _ _ cs u ((hl b (hg b q hlb)).trans hlb) hh hs hn hm hc (fun i h j x hx' => ih i h j x hx' (loc_inner hx l[i] x (List.mem_of_getElem? hx')))
theorem addRt : ∀ (xs : List V) (c : Nat) (σ : S) (ρ : Nat -> Loc) (us : List Value), 60000 <= c -> Rl w0 N lab ρ σ a w -> us.length = xs.length -> (∀ (j : Nat) x u, xs[j]? = some x -> us[j]? = some u -> RV w w0.heap.size lab [c + j] x u) ->
    ∃ ρ', Rl w0 N lab ρ' (resRt c σ xs) a w /\ (∀ r, r < c -> ρ' r = ρ r) /\ ∀ (j : Nat) x u, (resLf c xs)[j]? = some x -> us[j]? = some u -> RLf w w0.heap.size lab ρ' x u
  | [], c, σ, ρ, us, _, h, hl, hr => ⟨ρ, h, fun _ _ => rfl, fun j x u hx => by simp [resLf] at hx⟩
  | x :: xs, c, σ, ρ, us, hc, h, hl, hr => by
    cases us with
    | nil => simp at hl
    | cons u us =>
      have hr0 := hr 0 x u rfl rfl
      rw [Nat.add_zero] at hr0
      have hrest : ∀ (j : Nat) x' u', xs[j]? = some x' -> us[j]? = some u' -> RV w w0.heap.size lab [c + 1 + j] x' u' := fun j x' u' hx hu => by
        have := hr (j + 1) x' u' (by simpa using hx) (by simpa using hu)
        rw [show c + 1 + j = c + (j + 1) by omega]
        exact this
      cases hf : x.fro with
      | true =>
        obtain ⟨ρ', hR', hρ, hlf⟩ := addRt xs (c + 1) σ ρ us (by omega) h (by simpa using hl) hrest
        refine ⟨ρ', ?_, fun r hr => hρ r (by omega), fun j y v hy hv => ?_⟩
        · simp only [resRt, hf, cond_true]
          exact hR'
        · simp only [resLf, hf, cond_true] at hy
          cases j with
          | zero =>
            simp at hy hv
            subst hy hv
            exact ⟨hf, hr0.key hf⟩
          | succ j => exact hlf j y v (by simpa using hy) (by simpa using hv)
      | false =>
        have hsl := hr0.notfro hf
        obtain ⟨ρ', hR', hρ, hlf⟩ := addRt xs (c + 1) _ _ us (by omega) (h.new (d := c) (x := .sl x) (.hdr u) (.sl u x (upd_same _ _ _) hr0) (h.lim c (.inr hc))) (by simpa using hl) hrest
        refine ⟨ρ', ?_, fun r hr => ?_, fun j y v hy hv => ?_⟩
        · simp only [resRt, hf, cond_false]
          exact hR'
        · rw [hρ r (by omega)]
          exact upd_ne _ _ _ (by omega)
        · simp only [resLf, hf, cond_false] at hy
          cases j with
          | zero =>
            simp at hy hv
            subst hy hv
            refine ⟨hsl, ?_⟩
            have : ρ' c = .hdr u := by rw [hρ c (by omega)]; exact upd_same _ _ _
            simp [valAt, this]
          | succ j => exact hlf j y v (by simpa using hy) (by simpa using hv)
theorem resLf_length (xs : List V) : ∀ c, (resLf c xs).length = xs.length := by
  induction xs with
  | nil => intro c; rfl
  | cons x xs ih => intro c; simp [resLf, ih]
end
end Go.Proofs.YtckjagaogcbedaaGreat
namespace Go.Proofs.YtckjagaogcbedaaGreat
open Go.RowKit
set_option linter.unusedVariables false
def enters (P : Program) (f : Nat) : Prop := ∃ fn, P.funcs[f]? = some fn /\ (fn.name == "runtime.NumGoroutine") = false /\ fn.body.isNone = false
/-! What a function gives back. -/
def partOfA : A -> Option (Bool × List Lf)
  | .lf x => some (false, [x])
  | .agg xs => some (true, xs)
  | _ => none
def resVarK {X : Type} (P : Program) (σ : S) : List ResultVar -> (List (Bool × List Lf) -> Option X) -> Option X
  | [], k => k []
  | .tmp t :: rest, k => (match partOfA (σ.t t) with
    | some p => resVarK P σ rest fun ps => k (p :: ps)
    | none => none)
  | .cell p ty :: rest, k => loadK P σ ty (σ.t p) fun x => (match partOfA x with
    | some p => resVarK P σ rest fun ps => k (p :: ps)
    | none => none)
def cellV (m : Nat -> Option Root) : Lf -> Option (V × Option Nat)
  | .v x => bif x.loc && x.fro then some (x, none) else none
  | .own [r] => match m r with
    | some (.sl y) => bif y.loc then some (y, some r) else none
    | _ => none
  | _ => none
def cellsV (m : Nat -> Option Root) (off : Nat) : List Lf -> Option (List V × List (Nat × Nat))
  | [] => some ([], [])
  | x :: xs => match cellV m x, cellsV m (off + 1) xs with
    | some (y, none), some (ys, rs) => some (y :: ys, rs)
    | some (y, some r), some (ys, rs) => some (y :: ys, (r, off) :: rs)
    | _, _ => none
def partsV (m : Nat -> Option Root) (off : Nat) : List (Bool × List Lf) -> Option (List Pt × List (Nat × Nat))
  | [] => some ([], [])
  | p :: ps => match cellsV m off p.2, partsV m (off + p.2.length) ps with
    | some (vs, rs), some (qs, rs') => some ((p.1, vs) :: qs, rs ++ rs')
    | _, _ => none
def once (rs : List (Nat × Nat)) : Bool := rs.all fun p => (rs.lookup p.1).any fun n => Nat.beq n p.2
def endK {X : Type} (P : Program) (σ : S) (fn : Array ResultVar) (k : Res -> Option X) : Option X :=
  resVarK P σ fn.toList fun ps => match partsV σ.m 0 ps with
    | some (qs, rs) => bif once rs then (match qs with
      | [p] => k (.one p)
      | qs => k (.tup qs)) else none
    | none => none
section
variable {P : Program} {w w' : World} {w0 : Wd} {B N : Nat} {lab lab' : Lab} {ρ ρ' : Nat -> Loc} {σ : S} {a : Act} {X : Type} {d : Nat} {r : X} {o : Oper}
theorem resLf_agree : ∀ (xs : List V) (c : Nat) (j : Nat) x u, (resLf c xs)[j]? = some x -> RLf w B lab ρ x u -> (∀ r, r < c + xs.length -> ρ' r = ρ r) -> RLf w B lab ρ' x u
  | [], c, j, x, u, hx, _, _ => by simp [resLf] at hx
  | y :: ys, c, j, x, u, hx, hr, hρ => by
    cases j with
    | zero =>
      simp only [resLf, List.getElem?_cons_zero, Option.some.injEq] at hx
      subst hx
      cases hf : y.fro with
      | true => rw [hf, cond_true] at hr; simp only [cond_true]; exact hr
      | false =>
        rw [hf, cond_false] at hr
        simp only [cond_false]
        refine ⟨hr.1, ?_⟩
        have := hr.2
        simp only [valAt, hρ c (by simp)] at this ⊢
        exact this
    | succ j =>
      simp only [resLf, List.getElem?_cons_succ] at hx
      exact resLf_agree ys (c + 1) j x u hx hr (fun r h => hρ r (by simp; omega))
theorem PV.cells {key : Nat -> List Nat} {p : Pt} {u : Value} (h : PV w B lab key p u) : ∃ us : List Value, us.length = p.2.length /\ (∀ (j : Nat) x v, p.2[j]? = some x -> us[j]? = some v -> RV w B lab (key j) x v) /\
    ∀ (ρ : Nat -> Loc) (ls : List Lf), ls.length = p.2.length -> (∀ (j : Nat) x v, ls[j]? = some x -> us[j]? = some v -> RLf w B lab ρ x v) -> RP w B lab ρ (p.1, ls) u := by
  obtain ⟨us, hu, hs, hr⟩ := h
  obtain ⟨b, xs⟩ := p
  refine ⟨us.toList, by simpa using hs, fun j x v hx hv => ?_, fun ρ ls hl hls => ?_⟩
  · obtain ⟨v', hv', hr'⟩ := hr j x hx
    have : v' = v := by
      rw [Array.getElem?_toList] at hv
      rw [hv'] at hv
      injection hv
    subst this
    exact hr'
  · have hrl : RLs w B lab ρ ls us := ⟨by rw [hs, hl], fun j x hx => by
      have hj : j < us.size := by rw [hs, <- hl]; exact (List.getElem?_eq_some_iff.1 hx).1
      exact ⟨us[j], Array.getElem?_eq_getElem hj, hls j x _ hx (by rw [Array.getElem?_toList, Array.getElem?_eq_getElem hj])⟩⟩
    cases b with
    | true => exact ⟨us, hu, hrl⟩
    | false => have hu : us = #[u] := hu; subst hu; exact hrl
theorem addRs : ∀ (ps : List Pt) (c0 off : Nat) (σ : S) (ρ : Nat -> Loc) (vs : List Value), 60000 <= c0 -> Rl w0 N lab ρ σ a w -> ResL w w0.heap.size lab (fun n => c0 + n) off ps vs ->
    ∃ ρ', Rl w0 N lab ρ' (resRs (c0 + off) σ ps) a w /\ (∀ r, r < c0 + off -> ρ' r = ρ r) /\ vs.length = (resLs (c0 + off) ps).length /\ ∀ (i : Nat) p v, (resLs (c0 + off) ps)[i]? = some p -> vs[i]? = some v -> RP w w0.heap.size lab ρ' p v
  | [], c0, off, σ, ρ, vs, _, h, hr => by
    cases vs with
    | nil => exact ⟨ρ, h, fun _ _ => rfl, rfl, fun i p v hp => by simp [resLs] at hp⟩
    | cons v vs => exact hr.elim
  | p :: ps, c0, off, σ, ρ, vs, hc, h, hr => by
    cases vs with
    | nil => exact hr.elim
    | cons v vs =>
      obtain ⟨⟨_, hp⟩, hr⟩ := hr
      obtain ⟨us, hl, hrv, hmk⟩ := hp.cells
      obtain ⟨ρ1, h1, hρ1, hlf⟩ := addRt p.2 (c0 + off) σ ρ us (by omega) h hl (fun j x u hx hu => by
        have : RV w w0.heap.size lab [c0 + (off + j)] x u := hrv j x u hx hu
        rw [<- Nat.add_assoc] at this
        exact this)
      obtain ⟨ρ2, h2, hρ2, hlen, hps⟩ := addRs ps c0 (off + p.2.length) (resRt (c0 + off) σ p.2) ρ1 vs hc h1 hr
      rw [<- Nat.add_assoc] at h2 hρ2 hlen hps
      refine ⟨ρ2, h2, fun r hr => (hρ2 r (by omega)).trans (hρ1 r hr), by simp [resLs, hlen], fun i q u hq hu => ?_⟩
      cases i with
      | zero =>
        simp only [resLs, List.getElem?_cons_zero, Option.some.injEq] at hq hu
        subst hq hu
        refine hmk ρ2 _ (resLf_length _ _) (fun j x u hx hu => resLf_agree p.2 (c0 + off) j x u hx (hlf j x u hx hu) hρ2)
      | succ i =>
        simp only [resLs, List.getElem?_cons_succ] at hq hu
        exact hps i q u hq hu
theorem ResL.home {nm : Nat -> Nat} : ∀ (ps : List Pt) (off : Nat) (vs : List Value) {B' : Nat}, ResL w B lab nm off ps vs -> B' <= B -> (∀ b, B <= b -> lab' b = lab b) -> (∀ b k, lab b = some k -> B <= b) -> ResL w B' lab' nm off ps vs
  | [], _, [], _, h, _, _, _ => h
  | [], _, _ :: _, _, h, _, _, _ => h
  | _ :: _, _, [], _, h, _, _, _ => h
  | p :: ps, off, v :: vs, B', h, hB, hl, hg => by
    obtain ⟨⟨hloc, us, hu, hs, hr⟩, hrest⟩ := h
    refine ⟨⟨hloc, us, hu, hs, fun j x hx => ?_⟩, ResL.home ps _ vs hrest hB hl hg⟩
    obtain ⟨v', hv', hr'⟩ := hr j x hx
    exact ⟨v', hv', hr'.home hB hl hg (List.all_eq_true.1 hloc x (List.mem_of_getElem? hx))⟩
theorem run_call (w : World) (o : Oper) (a : Act) (f : Nat) (args : Array Operand) (tys : Array TypeId) (ho : o.op = .call { callee := .value (.func f), args, argTypes := tys }) (he : enters P f) : (execOp a.eval o).run P w = .ok (.enter f (args.map a.eval)) w := by
  obtain ⟨fn, h1, h2, h3⟩ := he
  have h2' : ¬ fn.name = "runtime.NumGoroutine" := by simpa using h2
  have h3' : ¬ fn.body = none := by intro e; rw [e] at h3; cases h3
  simp [execOp, ho, resolve, Act.eval, Deferred.ofValue, invoke, callFunc, Sem.run_bind, Sem.run, program, h1, h2', h3']
theorem callR_ok {f : Nat} {args : Array Operand} {tys : Array TypeId} {c : Ctr} {k : S -> Option X} (ho : o.op = .call { callee := .value (.func f), args, argTypes := tys }) (hd : o.dst = some d) (he : enters P f) (hc : CtrOK P f c) (hdN : d < N) {ps : List Pt} (hargs : ∀ lab ρ a w, Rl w0 N lab ρ σ a w -> ArgsOK w ps (args.toList.map a.eval).toArray)
    (h2 : (c.run X ps fun res => (match res with
    | .one p => (match partA (p.1, resLf (1000000000100000 + 1000 * d) p.2) with
      | some y => k ((resRt (1000000000100000 + 1000 * d) σ p.2).set d y)
      | none => none)
    | .tup ps => k ((resRs (1000000000100000 + 1000 * d) σ ps).set d (.tup (resLs (1000000000100000 + 1000 * d) ps))))) = some r) : ∃ σ', k σ' = some r /\ OpS P w0 N o σ σ' := by
  obtain ⟨res, h3, _, hcall⟩ := hc X ps _ r h2
  have step : ∀ a w K Q lab ρ, Rl w0 N lab ρ σ a w -> (∀ v w' lab', Below w.heap.size w w' -> Rl w0 N lab' ρ σ a w' -> ResOK w' w0.heap.size lab' (fun n => 1000000000100000 + 1000 * d + n) res v -> K (a.put o.dst v) w') -> o.wp P a w K Q := by
    intro a w K Q lab ρ hR hK
    unfold Oper.wp
    rw [run_call w o a f args tys ho he, Oper.upon_enter]
    have hvals : (args.map a.eval) = (args.toList.map a.eval).toArray := by apply Array.ext'; rw [Array.toList_map]
    rw [hvals]
    refine (hcall (fun n => 1000000000100000 + 1000 * d + n) w _ (hargs lab ρ a w hR) (w0.on hR.below (fun _ _ h => by cases h))).mono fun e w' hpost => ?_
    obtain ⟨v, lab1, rfl, hbel, hlab, hres⟩ := hpost
    have hB := hR.below.size
    let lab2 : Lab := fun b => if b < w.heap.size then lab b else lab1 b
    have e1 : ∀ b, b < w.heap.size -> lab2 b = lab b := fun b hb => if_pos hb
    have e2 : ∀ b, w.heap.size <= b -> lab2 b = lab1 b := fun b hb => if_neg (by omega)
    refine hK v w' lab2 hbel (hR.grow hbel e1 (fun b k hb hk => ?_)) ?_
    · rw [e2 b hb] at hk
      exact (hlab b k hk).2
    · cases res with
      | one p => exact ResL.home [p] 0 [v] hres hB e2 (fun b k hk => (hlab b k hk).1)
      | tup ps' =>
        obtain ⟨vs, e, hv⟩ := hres
        exact ⟨vs, e, ResL.home ps' 0 vs.toList hv hB e2 (fun b k hk => (hlab b k hk).1)⟩
  cases res with
  | one p =>
    simp only at h3
    split at h3
    · rename_i y hy
      refine ⟨_, h3, fun a w K Q hR hK => ?_⟩
      obtain ⟨lab, ρ, hR⟩ := hR
      refine step a w K Q lab ρ hR fun v w' lab' hbel hR' hres => ?_
      obtain ⟨ρ', hR2, _, _, hps⟩ := addRs [p] (1000000000100000 + 1000 * d) 0 σ ρ [v] (by omega) hR' hres
      rw [hd]
      have hRP := hps 0 _ v rfl rfl
      exact hK _ _ ⟨lab', ρ', hR2.set (partA_ok hy hRP) hdN⟩
    · cases h3
  | tup ps' =>
    refine ⟨_, h3, fun a w K Q hR hK => ?_⟩
    obtain ⟨lab, ρ, hR⟩ := hR
    refine step a w K Q lab ρ hR fun v w' lab' hbel hR' hres => ?_
    obtain ⟨vs, rfl, hv⟩ := hres
    obtain ⟨ρ', hR2, _, hlen, hps⟩ := addRs ps' (1000000000100000 + 1000 * d) 0 σ ρ vs.toList (by omega) hR' hv
    rw [hd]
    refine hK _ _ ⟨lab', ρ', hR2.set ⟨vs, rfl, by simpa using hlen, fun j p hp => ?_⟩ hdN⟩
    have hj : j < vs.size := by
      have := (List.getElem?_eq_some_iff.1 hp).1
      rw [Nat.add_zero] at hlen
      rw [<- hlen] at this
      simpa using this
    exact ⟨vs[j], Array.getElem?_eq_getElem hj, hps j p _ hp (by rw [Array.getElem?_toList, Array.getElem?_eq_getElem hj])⟩
theorem callK_ok {f : Nat} {args : Array Operand} {tys : Array TypeId} {c : Ctr} {k : S -> Option X} (ho : o.op = .call { callee := .value (.func f), args, argTypes := tys }) (hd : o.dst = some d) (he : enters P f) (hc : CtrOK P f c) (h : callK N σ d c args.toList k = some r) : ∃ σ', k σ' = some r /\ OpS P w0 N o σ σ' := by
  unfold callK at h
  cases hN : Nat.blt d N with
  | false => rw [hN] at h; cases h
  | true =>
    rw [hN, cond_true] at h
    obtain ⟨ps, h2, hargs⟩ := argsK_ok (w0 := w0) (N := N) _ _ h
    exact callR_ok ho hd he hc (Nat.le_of_ble_eq_true hN) hargs h2
theorem callQK_ok {f : Nat} {args : Array Operand} {tys : Array TypeId} {c : Ctr} {k : S -> Option X} (ho : o.op = .call { callee := .value (.func f), args, argTypes := tys }) (hd : o.dst = some d) (he : enters P f) (hc : CtrOK P f c) (h : callQK N σ d c args.toList k = some r) : ∃ σ', k σ' = some r /\ OpS P w0 N o σ σ' := by
  unfold callQK at h
  cases hN : Nat.blt d N with
  | false => rw [hN] at h; cases h
  | true =>
    rw [hN, cond_true] at h
    obtain ⟨ps, h2, hargs⟩ := argsQK_ok (w0 := w0) (N := N) _ _ h
    exact callR_ok ho hd he hc (Nat.le_of_ble_eq_true hN) hargs h2
end
end Go.Proofs.YtckjagaogcbedaaGreat
namespace Go.Proofs.YtckjagaogcbedaaGreat
open Go.RowKit
set_option linter.unusedVariables false
def relab (lab : Lab) (rs : List (Nat × Nat)) (nm : Nat -> Nat) : Lab := fun b =>
  match lab b with
  | none => none
  | some k => match k.getLast? with
    | none => none
    | some r => (rs.lookup r).map fun n => k.dropLast ++ [nm n]
section
variable {P : Program} {w w' : World} {w0 : Wd} {B N : Nat} {lab lab' : Lab} {ρ ρ' : Nat -> Loc} {σ : S} {a : Act} {X : Type} {d : Nat} {r : X} {rs : List (Nat × Nat)} {nm : Nat -> Nat}
theorem RV.froR {q : List Nat} {x : V} {v : Value} (h : RV w B lab q x v) (hf : x.fro = true) (hl : ∀ b, lab b = none -> lab' b = none) : RV w B lab' q x v := by
  induction h with
  | int => exact .int _ _ _
  | bool => exact .bool _ _
  | str => exact .str _ _
  | nil => exact .nil _
  | slNil => exact .slNil _ _ _
  | slEmp => exact .slEmp _ _ _ _ _ (by first | assumption | omega)
  | slNon => exact .slNon _ _ _ _ _ (by first | assumption | omega)
  | fro q t o qn l b off cap u ho hlb hb h1 hcap hc hr ih =>
    exact .fro _ _ _ _ _ _ _ _ u ho (hl b hlb) hb h1 hcap hc (fun i h j x hx => ih i h j x hx (enc_fro t o l[i] ho j x hx))
  | own q t o qn l b cap cs u hlb hh hs hn hm hc hr ih => simp [V.fro] at hf; omega
theorem relab_none {b : Nat} (h : lab b = none) : relab lab rs nm b = none := by simp [relab, h]
theorem RV.relab {p : List Nat} {r n : Nat} {x : V} {v : Value} (h : RV w B lab (p ++ [r]) x v) (hr : rs.lookup r = some n) : RV w B (relab lab rs nm) (p ++ [nm n]) x v := by
  generalize hq : p ++ [r] = q at h
  induction h generalizing p with
  | int => exact .int _ _ _
  | bool => exact .bool _ _
  | str => exact .str _ _
  | nil => exact .nil _
  | slNil => exact .slNil _ _ _
  | slEmp => exact .slEmp _ _ _ _ _ (by first | assumption | omega)
  | slNon => exact .slNon _ _ _ _ _ (by first | assumption | omega)
  | fro q t o qn l b off cap u ho hlb hb h1 hcap hc hr' ih =>
    exact .fro _ _ _ _ _ _ _ _ u ho (relab_none hlb) hb h1 hcap hc (fun i h j x hx => (hr' i h j x hx).froR (enc_fro t o l[i] ho j x hx) (fun b => relab_none))
  | own q t o qn l b cap cs u hlb hh hs hn hm hc hr' ih =>
    subst hq
    refine .own _ _ _ _ _ _ _ cs u ?_ hh hs hn hm hc (fun i h j x hx => ih i h j x hx (p := j :: i :: csz t :: p) rfl)
    simp [Proofs.YtckjagaogcbedaaGreat.relab, hlb, hr]
theorem cellsV_ok {m : Nat -> Option Root} : ∀ (xs : List Lf) (off : Nat) (ys : List V) (rs0 : List (Nat × Nat)), cellsV m off xs = some (ys, rs0) -> ys.length = xs.length /\ ∀ (j : Nat) x, xs[j]? = some x -> ∃ y, ys[j]? = some y /\ y.loc = true /\ ((x = .v y /\ y.fro = true) \/ ∃ r, x = .own [r] /\ m r = some (.sl y) /\ (r, off + j) ∈ rs0)
  | [], off, ys, rs0, h => by
    simp only [cellsV, Option.some.injEq, Prod.mk.injEq] at h
    obtain ⟨rfl, rfl⟩ := h
    exact ⟨rfl, fun j x hx => by simp at hx⟩
  | x :: xs, off, ys, rs0, h => by
    have hc : ∀ y z, cellV m x = some (y, z) -> y.loc = true /\ ((z = none /\ x = .v y /\ y.fro = true) \/ ∃ r, z = some r /\ x = .own [r] /\ m r = some (.sl y)) := by
      intro y z hz
      unfold cellV at hz
      split at hz
      · rename_i x'
        cases hl : (x'.loc && x'.fro) with
        | false => rw [hl] at hz; cases hz
        | true =>
          rw [hl, cond_true] at hz
          simp only [Option.some.injEq, Prod.mk.injEq] at hz
          obtain ⟨rfl, rfl⟩ := hz
          rw [Bool.and_eq_true] at hl
          exact ⟨hl.1, .inl ⟨rfl, rfl, hl.2⟩⟩
      · rename_i r
        split at hz
        · rename_i y' hy'
          cases hl : y'.loc with
          | false => rw [hl] at hz; cases hz
          | true =>
            rw [hl, cond_true] at hz
            simp only [Option.some.injEq, Prod.mk.injEq] at hz
            obtain ⟨rfl, rfl⟩ := hz
            exact ⟨hl, .inr ⟨r, rfl, rfl, hy'⟩⟩
        · cases hz
      · cases hz
    unfold cellsV at h
    split at h
    · rename_i y ys' rs' hy hys
      simp only [Option.some.injEq, Prod.mk.injEq] at h
      obtain ⟨rfl, rfl⟩ := h
      obtain ⟨h1, h2⟩ := cellsV_ok xs (off + 1) ys' rs' hys
      refine ⟨by simp [h1], fun j x' hx => ?_⟩
      cases j with
      | zero =>
        simp at hx
        subst hx
        obtain ⟨hl, hz | ⟨r, hz, _⟩⟩ := hc y none hy
        · exact ⟨y, rfl, hl, .inl hz.2⟩
        · cases hz
      | succ j =>
        obtain ⟨y', hy', hl, hz⟩ := h2 j x' (by simpa using hx)
        refine ⟨y', by simpa using hy', hl, hz.imp id fun ⟨r, e1, e2, e3⟩ => ⟨r, e1, e2, by rw [show off + (j + 1) = off + 1 + j by omega]; exact e3⟩⟩
    · rename_i y r ys' rs' hy hys
      simp only [Option.some.injEq, Prod.mk.injEq] at h
      obtain ⟨rfl, rfl⟩ := h
      obtain ⟨h1, h2⟩ := cellsV_ok xs (off + 1) ys' rs' hys
      refine ⟨by simp [h1], fun j x' hx => ?_⟩
      cases j with
      | zero =>
        simp at hx
        subst hx
        obtain ⟨hl, hz | ⟨r', hz, e1, e2⟩⟩ := hc y (some r) hy
        · cases hz.1
        · injection hz with hz
          subst hz
          exact ⟨y, rfl, hl, .inr ⟨r, e1, e2, .head _⟩⟩
      | succ j =>
        obtain ⟨y', hy', hl, hz⟩ := h2 j x' (by simpa using hx)
        refine ⟨y', by simpa using hy', hl, hz.imp id fun ⟨r, e1, e2, e3⟩ => ⟨r, e1, e2, by rw [show off + (j + 1) = off + 1 + j by omega]; exact .tail _ e3⟩⟩
    · cases h
theorem partsV_ok {m : Nat -> Option Root} (hm : ∀ r x, m r = some x -> RootOK w B lab ρ r x) : ∀ (ps : List (Bool × List Lf)) (off : Nat) (qs : List Pt) (rs0 : List (Nat × Nat)) (vs : List Value), partsV m off ps = some (qs, rs0) -> (∀ p ∈ rs0, rs.lookup p.1 = some p.2) -> vs.length = ps.length ->
    (∀ (i : Nat) p v, ps[i]? = some p -> vs[i]? = some v -> RP w B lab ρ p v) -> ResL w B (relab lab rs nm) nm off qs vs
  | [], off, qs, rs0, vs, h, _, hl, _ => by
    have : vs = [] := List.eq_nil_of_length_eq_zero hl
    subst this
    simp only [partsV, Option.some.injEq, Prod.mk.injEq] at h
    obtain ⟨rfl, rfl⟩ := h
    trivial
  | p :: ps, off, qs, rs0, vs, h, hrs, hl, hp => by
    cases vs with
    | nil => simp at hl
    | cons v vs =>
      unfold partsV at h
      split at h
      · rename_i ys rs1 qs' rs2 h1 h2
        simp only [Option.some.injEq, Prod.mk.injEq] at h
        obtain ⟨rfl, rfl⟩ := h
        obtain ⟨hlen, hcells⟩ := cellsV_ok _ _ _ _ h1
        have hrest := partsV_ok hm ps _ qs' rs2 vs h2 (fun q hq => hrs q (List.mem_append_right _ hq)) (by simpa using hl) (fun i q u hq hu => hp (i + 1) q u (by simpa using hq) (by simpa using hu))
        have hp0 := hp 0 p v rfl rfl
        have key : ∀ us : Array Value, RLs w B lab ρ p.2 us -> (us.size = ys.length /\ ∀ (j : Nat) x, ys[j]? = some x -> ∃ u, us[j]? = some u /\ RV w B (relab lab rs nm) [nm (off + j)] x u) := by
          intro us hus
          refine ⟨by rw [hlen]; exact hus.1, fun j y hy => ?_⟩
          have hj : j < p.2.length := by rw [<- hlen]; exact (List.getElem?_eq_some_iff.1 hy).1
          obtain ⟨y', hy', hloc, hz⟩ := hcells j _ (List.getElem?_eq_getElem hj)
          rw [hy] at hy'
          injection hy' with hy'
          subst hy'
          obtain ⟨u, hu, hr⟩ := hus.2 j _ (List.getElem?_eq_getElem hj)
          refine ⟨u, hu, ?_⟩
          rcases hz with ⟨e, hf⟩ | ⟨r, e, hmr, hmem⟩
          · rw [e] at hr
            exact (hr.2.froR hf (fun b => relab_none)).key hf
          · rw [e] at hr
            have hro := hm r _ hmr
            generalize he : Root.sl y = z at hro
            cases hro with
            | blk => cases he
            | mp => cases he
            | gh => cases he
            | sl v' y' hρ hrv =>
              injection he with he
              subst he
              have huv : v' = u := by
                have h4 := hr.2
                simp only [valAt, hρ] at h4
                injection h4
              subst huv
              exact RV.relab (p := []) hrv (hrs (r, off + j) (List.mem_append_left _ hmem))
        refine ⟨⟨?_, ?_⟩, ?_⟩
        · rw [List.all_eq_true]
          intro y hy
          obtain ⟨j, hj⟩ := List.mem_iff_getElem?.1 hy
          have hjl : j < p.2.length := by rw [<- hlen]; exact (List.getElem?_eq_some_iff.1 hj).1
          obtain ⟨y', hy', hloc, _⟩ := hcells j _ (List.getElem?_eq_getElem hjl)
          rw [hj] at hy'
          injection hy' with hy'
          subst hy'
          exact hloc
        · obtain ⟨b, xs⟩ := p
          cases b with
          | true =>
            obtain ⟨us, e, hus⟩ := hp0
            obtain ⟨k1, k2⟩ := key us hus
            exact ⟨us, e, k1, k2⟩
          | false =>
            obtain ⟨k1, k2⟩ := key #[v] hp0
            exact ⟨#[v], rfl, k1, k2⟩
        · rw [hlen]
          exact hrest
      · cases h
theorem loadK_ptr {t : TypeId} {x : A} {k : A -> Option X} (h : loadK P σ t x k = some r) {u : Value} (hu : RA w B lab ρ x u) : ∃ ad, u = .pointer (some ad) := by
  unfold loadK at h
  split at h
  · cases h
  · split at h
    · obtain ⟨b, off, _, rfl⟩ := hu; exact ⟨_, rfl⟩
    · obtain ⟨b, off, rfl, _⟩ := hu; exact ⟨_, rfl⟩
    · obtain ⟨ad, rfl, _⟩ := hu; exact ⟨_, rfl⟩
    · cases h
theorem partOfA_ok {x : A} {p : Bool × List Lf} (h : partOfA x = some p) {u : Value} (hu : RA w B lab ρ x u) : RP w B lab ρ p u := by
  unfold partOfA at h
  split at h
  · injection h with h
    subst h
    refine ⟨rfl, fun j y hy => ?_⟩
    cases j with
    | zero => simp at hy; subst hy; exact ⟨u, rfl, hu⟩
    | succ j => simp at hy
  · injection h with h
    subst h
    exact hu
  · cases h
def resOf (tmps : Array Value) : ResultVar -> Sem Value
  | .tmp t => pure (tmps.getD t undef)
  | .cell a t => do loadVar t (<- asAddr (tmps.getD a undef))
theorem resVarK_ok : ∀ (l : List ResultVar) (k : List (Bool × List Lf) -> Option X), resVarK P σ l k = some r -> ∃ ps, k ps = some r /\ ∀ lab ρ a w, Rl w0 N lab ρ σ a w -> ∃ vs, (l.mapM (resOf a.tmps)).run P w = .ok vs w /\ vs.length = ps.length /\ ∀ (i : Nat) p v, ps[i]? = some p -> vs[i]? = some v -> RP w w0.heap.size lab ρ p v
  | [], k, h => ⟨[], h, fun _ _ _ _ _ => ⟨[], rfl, rfl, fun i p v hp => by simp at hp⟩⟩
  | .tmp t :: rest, k, h => by
    simp only [resVarK] at h
    split at h
    · rename_i p hp
      obtain ⟨ps, h2, hps⟩ := resVarK_ok rest _ h
      refine ⟨p :: ps, h2, fun lab ρ a w hR => ?_⟩
      obtain ⟨vs, hrun, hl, hv⟩ := hps lab ρ a w hR
      refine ⟨a.tmps.getD t undef :: vs, ?_, by simp [hl], fun i q u hq hu => ?_⟩
      · rw [List.mapM_cons, Sem.run_bind]
        simp only [resOf, Sem.run_pure, Result.andThen_ok, Sem.run_bind, hrun]
      · cases i with
        | zero => simp only [List.getElem?_cons_zero, Option.some.injEq] at hq hu; subst hq hu; exact partOfA_ok hp (hR.tmp t)
        | succ i => exact hv i q u (by simpa using hq) (by simpa using hu)
    · cases h
  | .cell c ty :: rest, k, h => by
    simp only [resVarK] at h
    obtain ⟨y, hy, hld⟩ := loadK_ok (w0 := w0) (N := N) h
    split at hy
    · rename_i p hp
      obtain ⟨ps, h2, hps⟩ := resVarK_ok rest _ hy
      refine ⟨p :: ps, h2, fun lab ρ a w hR => ?_⟩
      obtain ⟨vs, hrun, hl, hv⟩ := hps lab ρ a w hR
      obtain ⟨v, hv1, hv2⟩ := hld lab ρ a w hR _ (hR.tmp c)
      obtain ⟨ad, had⟩ := loadK_ptr h (hR.tmp c)
      rw [had] at hv1
      have hv1 : (loadVar ty ad).run P w = .ok v w := by
        simpa [Instr.loadAt, Instr.sureAddr] using hv1
      refine ⟨v :: vs, ?_, by simp [hl], fun i q u hq hu => ?_⟩
      · rw [List.mapM_cons, Sem.run_bind]
        simp only [resOf, had, asAddr, Sem.run_pure, Result.andThen_ok, Sem.run_bind, hrun, hv1]
      · cases i with
        | zero => simp only [List.getElem?_cons_zero, Option.some.injEq] at hq hu; subst hq hu; exact partOfA_ok hp hv2
        | succ i => exact hv i q u (by simpa using hq) (by simpa using hu)
    · cases hy
theorem endK_ok {fn : Func} {k : Res -> Option X} (h : endK P σ fn.results k = some r) : ∃ res, k res = some r /\ ∀ lab ρ a w, Rl w0 N lab ρ σ a w -> ∀ nm, ∃ v lab', (results fn a.tmps).run P w = .ok v w /\ (∀ b k, lab' b = some k -> (w0.heap.size <= b \/ w0.L b ≠ none) /\ b < w.heap.size /\ k ≠ []) /\ ResOK w w0.heap.size lab' nm res v := by
  unfold endK at h
  obtain ⟨ps, h2, hps⟩ := resVarK_ok (w0 := w0) (N := N) _ _ h
  clear h
  split at h2
  · rename_i qs rs hqs
    cases ho : once rs with
    | false => rw [ho] at h2; cases h2
    | true =>
      rw [ho, cond_true] at h2
      have hrs : ∀ p ∈ rs, rs.lookup p.1 = some p.2 := by
        intro p hp
        have := List.all_eq_true.1 ho p hp
        obtain ⟨n, hn, he⟩ := (Option.any_eq_true _ _).1 this
        rw [hn, Nat.eq_of_beq_eq_true he]
      have core : ∀ lab ρ a w, Rl w0 N lab ρ σ a w -> ∀ nm : Nat -> Nat, ∃ vs : List Value, (fn.results.mapM (resOf a.tmps)).run P w = .ok vs.toArray w /\ (∀ b k, relab lab rs nm b = some k -> (w0.heap.size <= b \/ w0.L b ≠ none) /\ b < w.heap.size /\ k ≠ []) /\ ResL w w0.heap.size (relab lab rs nm) nm 0 qs vs := by
        intro lab ρ a w hR nm
        obtain ⟨vs, hrun, hl, hv⟩ := hps lab ρ a w hR
        refine ⟨vs, ?_, fun b k hk => ?_, partsV_ok hR.root ps 0 qs rs vs hqs hrs hl hv⟩
        · rw [Array.mapM_eq_mapM_toList]
          simp [hrun]
        · unfold relab at hk
          split at hk
          · cases hk
          · rename_i k' hk'
            have := hR.lab_ge b k' hk'
            split at hk
            · cases hk
            · cases hlk : rs.lookup _ with
              | none => rw [hlk] at hk; cases hk
              | some n =>
                rw [hlk] at hk
                injection hk with hk
                subst hk
                exact ⟨this.1, this.2.1, by simp⟩
      have hres : ∀ (tmps : Array Value), results fn tmps = (do let vs <- fn.results.mapM (resOf tmps); pure (if h : vs.size = 1 then vs[0] else .tuple vs)) := fun tmps => by
        unfold results
        congr 1
      split at h2
      · rename_i p
        refine ⟨_, h2, fun lab ρ a w hR nm => ?_⟩
        obtain ⟨vs, hrun, hlab, hR'⟩ := core lab ρ a w hR nm
        match vs, hR' with
        | [v], hR' => exact ⟨v, _, by rw [hres, Sem.run_bind, hrun]; rfl, hlab, hR'⟩
        | [], hR' => exact hR'.elim
        | _ :: _ :: _, hR' => exact hR'.2.elim
      · rename_i hne
        refine ⟨_, h2, fun lab ρ a w hR nm => ?_⟩
        obtain ⟨vs, hrun, hlab, hR'⟩ := core lab ρ a w hR nm
        have hsz : vs.toArray.size ≠ 1 := by
          intro e
          match qs, vs, hR', hne with
          | [q], [v], _, hne => exact hne q rfl
          | [], [v], hR', _ => exact hR'.elim
          | _ :: _ :: _, [v], hR', _ => exact hR'.2.elim
        refine ⟨.tuple vs.toArray, _, ?_, hlab, vs.toArray, rfl, hR'⟩
        rw [hres, Sem.run_bind, hrun, Result.andThen_ok]
        simp only [hsz, dif_neg, not_false_eq_true, Sem.run_pure]
  · cases h2
end
end Go.Proofs.YtckjagaogcbedaaGreat
namespace Go.Proofs.YtckjagaogcbedaaGreat
open Go.RowKit
set_option linter.unusedVariables false
inductive In where
  | blk (cs : List V)
  | sl (y : V)
def nF (i : Nat) : Nat := 20000 + 1000 * i
def nC (i j : Nat) (x : V) : Nat := bif x.fro then 20001 + 1000 * i + j else 60000 + 1000 * i + j
def inLf (i j : Nat) (x : V) : Lf := bif x.plain then .v x else .own [nC i j x]
def inLfs (i : Nat) : Nat -> List V -> List Lf
  | _, [] => []
  | j, x :: xs => inLf i j x :: inLfs i (j + 1) xs
def cellRt (i : Nat) : Nat -> List V -> (Nat -> Option Root) -> (Nat -> Option Root)
  | _, [], m => m
  | j, x :: xs, m => cellRt i (j + 1) xs (bif x.plain then m else upd m (nC i j x) (some (.sl x)))
def inM : Nat -> List In -> (Nat -> Option Root) -> (Nat -> Option Root)
  | _, [], m => m
  | i, .blk cs :: r, m => inM (i + 1) r (cellRt i 0 cs (upd m (nF i) (some (.blk (inLfs i 0 cs)))))
  | i, .sl y :: r, m => inM (i + 1) r (upd m (nF i) (some (.sl y)))
inductive Ar where
  | pt (p : Pt)
  | mut (i off : Nat)
def arA (ins : List In) : Ar -> A
  | .pt (false, [x]) => .lf (.v x)
  | .pt (true, xs) => .agg (xs.map .v)
  | .pt _ => .undef
  | .mut i off => match ins[i]? with
    | some (.blk _) => .bptr (nF i) off
    | some (.sl _) => .lf (.own [nF i])
    | none => .undef
def startM (ins : List In) (args : List Ar) : S := ⟨fun k => match args[k]? with
  | some x => arA ins x
  | none => .undef, inM 0 ins (fun _ => none)⟩
def OutsOK (w w' : World) (lab' : Lab) (ρ : Nat -> Loc) (nm : Nat -> Nat) : Nat -> Nat -> List In -> List In -> Prop
  | _, _, [], [] => True
  | i, pos, .blk cs :: r, .blk cs' :: r' => (∃ b off cells cells' e e', ρ (nF i) = .blk b off /\ w.heap[b]? = some (.cells cells e (0, 0)) /\ w'.heap[b]? = some (.cells cells' e' (0, 0)) /\ lab' b = some [nm pos] /\ off + cs'.length <= cells'.size /\ cs'.length = cs.length /\
      ∀ (j : Nat) x', cs'[j]? = some x' -> ∃ u, cells'[off + j]? = some u /\ ((x'.plain = true /\ ∀ (w : World) (B : Nat) (lab : Lab) (q : List Nat), RV w B lab q x' u) \/ (x' = .nil /\ u = .slice none 0 0 /\ ∃ x0, cs[j]? = some x0 /\ x0.fro = false) \/ (x'.plain = false /\ x'.fro = true /\ x'.nonnil = true /\ (∃ x0, cs[j]? = some x0 /\ Wk x0 x') /\ cells[off + j]? = some u) \/ (x'.fro = false /\ RV w' w.heap.size lab' [nm (pos + 1 + j)] x' u))) /\
      OutsOK w w' lab' ρ nm (i + 1) (pos + 1 + cs.length) r r'
  | i, pos, .sl y :: r, .sl y' :: r' => (∃ v, ρ (nF i) = .hdr v /\ RV w' w.heap.size lab' [nm pos] y' v) /\ OutsOK w w' lab' ρ nm (i + 1) (pos + 1) r r'
  | _, _, _, _ => False
def OutsT (w w' : World) (lab' : Lab) (ρ : Nat -> Loc) (nm : Nat -> Nat) : Nat -> Nat -> List In -> List In -> Prop
  | _, _, [], [] => True
  | i, pos, .blk cs :: r, .blk cs' :: r' => (∃ b off cells cells' e e', ρ (nF i) = .blk b off /\ w.heap[b]? = some (.cells cells e (0, 0)) /\ w'.heap[b]? = some (.cells cells' e' (0, 0)) /\ lab' b = some [nm pos] /\ off + cs'.length <= cells'.size /\ cs'.length = cs.length /\
      ∀ (j : Nat) x', cs'[j]? = some x' -> ∃ u, cells'[off + j]? = some u /\ ((x'.plain = true /\ ∀ (w : World) (B : Nat) (lab : Lab) (q : List Nat), RV w B lab q x' u) \/ (x'.plain = false /\ x'.fro = true /\ cells[off + j]? = some u) \/ (x'.fro = false /\ RV w' w.heap.size lab' [nm (pos + 1 + j)] x' u))) /\
      OutsT w w' lab' ρ nm (i + 1) (pos + 1 + cs.length) r r'
  | i, pos, .sl y :: r, .sl y' :: r' => (∃ v, ρ (nF i) = .hdr v /\ RV w' w.heap.size lab' [nm pos] y' v) /\ OutsT w w' lab' ρ nm (i + 1) (pos + 1) r r'
  | _, _, _, _ => False
def Res.len : Res -> Nat
  | .one p => p.2.length
  | .tup ps => (ps.map fun p => p.2.length).sum
def EntR (w : World) (B : Nat) (lab : Lab) (ρ : Nat -> Loc) : Nat -> List In -> Prop
  | _, [] => True
  | i, .blk cs :: r => RootOK w B lab ρ (nF i) (.blk (inLfs i 0 cs)) /\ (∀ (j : Nat) x, cs[j]? = some x -> x.plain = false -> RootOK w B lab ρ (nC i j x) (.sl x)) /\ EntR w B lab ρ (i + 1) r
  | i, .sl y :: r => RootOK w B lab ρ (nF i) (.sl y) /\ EntR w B lab ρ (i + 1) r
/-! The end: what is given back, and what the written parameters hold. -/
def outCell (m : Nat -> Option Root) (i j : Nat) (x0 : V) : Lf -> Option (V × Option Nat)
  | .v x => bif x.plain then some (x, none) else (bif !x.nonnil && !x0.fro then some (.nil, none) else none)
  | .own [r] => match m r with
    | some (.sl y) => bif y.fro then (bif !x0.plain && (x0.fro && x0.nonnil) && Nat.beq r (20001 + 1000 * i + j) && Nat.blt r 60000 then some (x0, none) else none) else (bif y.loc then some (y, some r) else none)
    | _ => none
  | _ => none
def outCells (m : Nat -> Option Root) (i pos : Nat) : Nat -> List V -> List Lf -> Option (List V × List (Nat × Nat))
  | _, [], [] => some ([], [])
  | j, x0 :: xs, l :: ls => match outCell m i j x0 l, outCells m i pos (j + 1) xs ls with
    | some (y, none), some (ys, rs) => some (y :: ys, rs)
    | some (y, some r), some (ys, rs) => some (y :: ys, (r, pos + 1 + j) :: rs)
    | _, _ => none
  | _, _, _ => none
def outsV (m : Nat -> Option Root) : Nat -> Nat -> List In -> Option (List In × List (Nat × Nat))
  | _, _, [] => some ([], [])
  | i, pos, .blk cs :: r => match bif Nat.blt (nF i) 60000 then m (nF i) else none with
    | some (.blk ls) => match outCells m i pos 0 cs ls, outsV m (i + 1) (pos + 1 + cs.length) r with
      | some (cs', rs), some (os, rs') => some (.blk cs' :: os, (nF i, pos) :: (rs ++ rs'))
      | _, _ => none
    | _ => none
  | i, pos, .sl _ :: r => match bif Nat.blt (nF i) 60000 then m (nF i) else none with
    | some (.sl y') => bif y'.loc && !y'.fro then (match outsV m (i + 1) (pos + 1) r with
      | some (os, rs') => some (.sl y' :: os, (nF i, pos) :: rs')
      | none => none) else none
    | _ => none
def endMK {X : Type} (P : Program) (σ : S) (fn : Array ResultVar) (ins : List In) (k : List In -> Res -> Option X) : Option X :=
  resVarK P σ fn.toList fun ps => match partsV σ.m 0 ps with
    | some (qs, rs) => match outsV σ.m 0 (qs.map fun p => p.2.length).sum ins with
      | some (os, rs') => bif once (rs ++ rs') then (match qs with
        | [p] => k os (.one p)
        | qs => k os (.tup qs)) else none
      | none => none
    | none => none
/-! Types of parameters and results. -/
def OutT : List (Bool × TC × Nat) -> Type
  | [] => Unit
  | [(_, t, _)] => T t
  | (_, t, _) :: r => T t × OutT r
def outMk : (l : List (Bool × TC × Nat)) -> OutT l -> List Pt
  | [], _ => []
  | [(b, t, g)], x => [(b, enc t g x)]
  | (b, t, g) :: q :: r, x => (b, enc t g x.1) :: outMk (q :: r) x.2
def outRd : (l : List (Bool × TC × Nat)) -> List Pt -> Option (OutT l)
  | [], [] => some ()
  | [(b, t, g)], [(b', vs)] => bif b == b' then dec t g vs else none
  | (b, t, g) :: q :: r, (b', vs) :: ps => bif b == b' then (match dec t g vs, outRd (q :: r) ps with
    | some x, some xs => some (x, xs)
    | _, _ => none) else none
  | _, _ => none
def resRd (l : List (Bool × TC × Nat)) : Res -> Option (OutT l)
  | .one p => outRd l [p]
  | .tup ps => bif Nat.beq ps.length 1 then none else outRd l ps
def resMk (l : List (Bool × TC × Nat)) (x : OutT l) : Res :=
  match outMk l x with
  | [p] => .one p
  | ps => .tup ps
inductive PK where
  | v (b : Bool) (t : TC)
  | p (t : TC) (g off : Nat)
  | s (t : TC) (g : Nat)
def ParT : List PK -> Type
  | [] => Unit
  | .v _ t :: r => T t × ParT r
  | .p t _ _ :: r => T t × ParT r
  | .s t _ :: r => List (T t) × ParT r
def InsT : List (Bool × TC × Nat) -> Type
  | [] => Unit
  | (true, t, _) :: r => T t × InsT r
  | (false, t, _) :: r => List (T t) × InsT r
def insMk : (l : List (Bool × TC × Nat)) -> InsT l -> List In
  | [], _ => []
  | (true, t, g) :: r, x => .blk (enc t g x.1) :: insMk r x.2
  | (false, t, g) :: r, x => .sl (.sl t (g + 2) false x.1) :: insMk r x.2
def mutT : List PK -> List (Bool × TC × Nat)
  | [] => []
  | .v _ _ :: r => mutT r
  | .p t g _ :: r => (true, t, g) :: mutT r
  | .s t g :: r => (false, t, g) :: mutT r
def insOf : (l : List PK) -> ParT l -> List In
  | [], _ => []
  | .v _ _ :: r, x => insOf r x.2
  | .p t g _ :: r, x => .blk (enc t g x.1) :: insOf r x.2
  | .s t g :: r, x => .sl (.sl t (g + 2) false x.1) :: insOf r x.2
def arsOf : (l : List PK) -> Nat -> ParT l -> List Ar
  | [], _, _ => []
  | .v b t :: r, i, x => .pt (b, enc t 0 x.1) :: arsOf r i x.2
  | .p _ _ off :: r, i, x => .mut i off :: arsOf r (i + 1) x.2
  | .s _ _ :: r, i, x => .mut i 0 :: arsOf r (i + 1) x.2
structure CtrM where
  ps : List PK
  ro : List (Bool × TC × Nat)
  F : ParT ps -> Option (OutT ro × InsT (mutT ps))
def CtrMOK (P : Program) (f : Nat) (c : CtrM) : Prop :=
  ∀ x y, c.F x = some y -> ∀ (nm : Nat -> Nat) (w : World) (lab : Lab) (ρ : Nat -> Loc) (vals : Array Value), EntR w w.heap.size lab ρ 0 (insOf c.ps x) -> (∀ b k, lab b = some k -> b < w.heap.size /\ k ≠ []) ->
      vals.size = c.ps.length -> (∀ i, RA w w.heap.size lab ρ ((startM (insOf c.ps x) (arsOf c.ps 0 x)).t i) (vals.getD i undef)) -> ∀ hQ : Hd w lab,
      Calls P f vals w fun e w' => ∃ v lab', e = .returned v /\ BelowS ⟨w, lab, fun _ => none, hQ, fun _ _ => rfl⟩ w w' /\ (∀ b k, lab' b = some k -> (w.heap.size <= b \/ lab b ≠ none) /\ b < w'.heap.size /\ k ≠ []) /\ ResOK w' w.heap.size lab' nm (resMk c.ro y.1) v /\ OutsT w w' lab' ρ nm 0 (resMk c.ro y.1).len (insOf c.ps x) (insMk (mutT c.ps) y.2)
end Go.Proofs.YtckjagaogcbedaaGreat
namespace Go.Proofs.YtckjagaogcbedaaGreat
open Go.RowKit
set_option linter.unusedVariables false
def EntOK (w : World) (ρ : Nat -> Loc) : Nat -> List In -> Prop
  | _, [] => True
  | i, .blk cs :: r => (∃ b off cells e, ρ (nF i) = .blk b off /\ w.heap[b]? = some (.cells cells e (0, 0)) /\ ∀ (j : Nat) x, cs[j]? = some x -> x.plain = false -> x.fro = true -> ∃ u, cells[off + j]? = some u /\ ρ (20001 + 1000 * i + j) = .hdr u) /\ EntOK w ρ (i + 1) r
  | i, .sl y :: r => (∃ v, ρ (nF i) = .hdr v) /\ EntOK w ρ (i + 1) r
section
variable {P : Program} {w w' : World} {w0 : Wd} {B N : Nat} {lab lab' : Lab} {ρ ρ' : Nat -> Loc} {σ : S} {a : Act} {X : Type} {d : Nat} {r : X} {rs : List (Nat × Nat)} {nm : Nat -> Nat}
theorem outCells_ok {m : Nat -> Option Root} {i pos : Nat} : ∀ (xs : List V) (ls : List Lf) (j0 : Nat) (ys : List V) (rs0 : List (Nat × Nat)), outCells m i pos j0 xs ls = some (ys, rs0) -> ys.length = xs.length /\ ls.length = xs.length /\
    ∀ (j : Nat) y, ys[j]? = some y -> ∃ l x0, ls[j]? = some l /\ xs[j]? = some x0 /\ ((l = .v y /\ y.plain = true) \/ (l = .v .nil /\ y = .nil /\ x0.fro = false) \/ (l = .own [20001 + 1000 * i + (j0 + j)] /\ y = x0 /\ y.plain = false /\ (y.fro && y.nonnil) = true /\ 20001 + 1000 * i + (j0 + j) < 60000) \/ (∃ q, l = .own [q] /\ m q = some (.sl y) /\ y.fro = false /\ (q, pos + 1 + (j0 + j)) ∈ rs0))
  | [], [], j0, ys, rs0, h => by
    simp only [outCells, Option.some.injEq, Prod.mk.injEq] at h
    obtain ⟨rfl, rfl⟩ := h
    exact ⟨rfl, rfl, fun j y hy => by simp at hy⟩
  | [], _ :: _, j0, ys, rs0, h => by simp [outCells] at h
  | _ :: _, [], j0, ys, rs0, h => by simp [outCells] at h
  | x0 :: xs, l :: ls, j0, ys, rs0, h => by
    have hc : ∀ y z, outCell m i j0 x0 l = some (y, z) -> (z = none /\ l = .v y /\ y.plain = true) \/ (z = none /\ l = .v .nil /\ y = .nil /\ x0.fro = false) \/ (z = none /\ l = .own [20001 + 1000 * i + j0] /\ y = x0 /\ y.plain = false /\ (y.fro && y.nonnil) = true /\ 20001 + 1000 * i + j0 < 60000) \/ (∃ q, z = some q /\ l = .own [q] /\ m q = some (.sl y) /\ y.fro = false) := by
      intro y z hz
      unfold outCell at hz
      split at hz
      · rename_i x
        cases hp : x.plain with
        | false =>
          rw [hp, cond_false] at hz
          cases hb : (!x.nonnil && !x0.fro) with
          | false => rw [hb] at hz; cases hz
          | true =>
            rw [hb, cond_true] at hz
            simp only [Option.some.injEq, Prod.mk.injEq] at hz
            obtain ⟨rfl, rfl⟩ := hz
            rw [Bool.and_eq_true, Bool.not_eq_true', Bool.not_eq_true'] at hb
            have hx : x = .nil := by
              cases x <;> first | rfl | (exact absurd hb.1 (by simp [V.nonnil]))
            subst hx
            exact .inr (.inl ⟨rfl, rfl, rfl, hb.2⟩)
        | true =>
          rw [hp, cond_true] at hz
          simp only [Option.some.injEq, Prod.mk.injEq] at hz
          obtain ⟨rfl, rfl⟩ := hz
          exact .inl ⟨rfl, rfl, hp⟩
      · rename_i q
        split at hz
        · rename_i y1 hy1
          cases hf : y1.fro with
          | true =>
            rw [hf, cond_true] at hz
            cases hb : (!x0.plain && (x0.fro && x0.nonnil) && Nat.beq q (20001 + 1000 * i + j0) && Nat.blt q 60000) with
            | false => rw [hb] at hz; cases hz
            | true =>
              rw [hb, cond_true] at hz
              simp only [Option.some.injEq, Prod.mk.injEq] at hz
              obtain ⟨rfl, rfl⟩ := hz
              rw [Bool.and_eq_true, Bool.and_eq_true, Bool.and_eq_true, Bool.not_eq_true'] at hb
              obtain ⟨⟨⟨b1, b2⟩, b3⟩, b4⟩ := hb
              obtain rfl := Nat.eq_of_beq_eq_true b3
              exact .inr (.inr (.inl ⟨rfl, rfl, rfl, b1, b2, by have := Nat.le_of_ble_eq_true b4; omega⟩))
          | false =>
            rw [hf, cond_false] at hz
            cases hl : y1.loc with
            | false => rw [hl] at hz; cases hz
            | true =>
              rw [hl, cond_true] at hz
              simp only [Option.some.injEq, Prod.mk.injEq] at hz
              obtain ⟨rfl, rfl⟩ := hz
              exact .inr (.inr (.inr ⟨q, rfl, rfl, hy1, hf⟩))
        · cases hz
      · cases hz
    unfold outCells at h
    split at h
    · rename_i y ys' rs' hy hys
      simp only [Option.some.injEq, Prod.mk.injEq] at h
      obtain ⟨rfl, rfl⟩ := h
      obtain ⟨h1, h2, h3⟩ := outCells_ok xs ls (j0 + 1) ys' rs' hys
      refine ⟨by simp [h1], by simp [h2], fun j y' hy' => ?_⟩
      cases j with
      | zero =>
        simp at hy'
        subst hy'
        refine ⟨l, x0, rfl, rfl, ?_⟩
        rcases hc y none hy with ⟨_, e1, e2⟩ | ⟨_, e1, e2, e3⟩ | ⟨_, e1, e2, e3, e4, e5⟩ | ⟨q, hq, _⟩
        · exact .inl ⟨e1, e2⟩
        · exact .inr (.inl ⟨e1, e2, e3⟩)
        · exact .inr (.inr (.inl ⟨e1, e2, e3, e4, e5⟩))
        · cases hq
      | succ j =>
        obtain ⟨l', x', g1, g2, g3⟩ := h3 j y' (by simpa using hy')
        rw [show j0 + 1 + j = j0 + (j + 1) by omega] at g3
        exact ⟨l', x', by simpa using g1, by simpa using g2, g3⟩
    · rename_i y q ys' rs' hy hys
      simp only [Option.some.injEq, Prod.mk.injEq] at h
      obtain ⟨rfl, rfl⟩ := h
      obtain ⟨h1, h2, h3⟩ := outCells_ok xs ls (j0 + 1) ys' rs' hys
      refine ⟨by simp [h1], by simp [h2], fun j y' hy' => ?_⟩
      cases j with
      | zero =>
        simp at hy'
        subst hy'
        refine ⟨l, x0, rfl, rfl, ?_⟩
        rcases hc y (some q) hy with ⟨e0, _⟩ | ⟨e0, _⟩ | ⟨e0, _⟩ | ⟨q', hq, e1, e2, e3⟩
        · cases e0
        · cases e0
        · cases e0
        · injection hq with hq
          subst hq
          exact .inr (.inr (.inr ⟨q, e1, e2, e3, .head _⟩))
      | succ j =>
        obtain ⟨l', x', g1, g2, g3⟩ := h3 j y' (by simpa using hy')
        rw [show j0 + 1 + j = j0 + (j + 1) by omega] at g3
        exact ⟨l', x', by simpa using g1, by simpa using g2, g3.imp id (fun g => g.imp id (fun g => g.imp id fun ⟨q', e1, e2, e3, e4⟩ => ⟨q', e1, e2, e3, .tail _ e4⟩))⟩
    · cases h
theorem outsV_ok {w1 : World} {ρ0 : Nat -> Loc} {m : Nat -> Option Root} (hfix : ∀ r, 20000 <= r -> r < 60000 -> ρ r = ρ0 r) (hm : ∀ r x, m r = some x -> RootOK w w1.heap.size lab ρ r x) :
    ∀ (ins : List In) (i pos : Nat) (outs : List In) (rs0 : List (Nat × Nat)), outsV m i pos ins = some (outs, rs0) -> (∀ p ∈ rs0, rs.lookup p.1 = some p.2) -> EntOK w1 ρ0 i ins -> OutsOK w1 w (relab lab rs nm) ρ0 nm i pos ins outs
  | [], i, pos, outs, rs0, h, hrs, he => by
    simp only [outsV, Option.some.injEq, Prod.mk.injEq] at h
    obtain ⟨rfl, rfl⟩ := h
    trivial
  | .blk cs :: r, i, pos, outs, rs0, h, hrs, he => by
    unfold outsV at h
    cases hi : Nat.blt (nF i) 60000 with
    | false => rw [hi] at h; cases h
    | true =>
      rw [hi, cond_true] at h
      have hi := Nat.le_of_ble_eq_true hi
      split at h
      · rename_i ls hls
        split at h
        · rename_i cs' rs1 os rs2 h1 h2
          simp only [Option.some.injEq, Prod.mk.injEq] at h
          obtain ⟨rfl, rfl⟩ := h
          obtain ⟨⟨b, off, cells, e, hρ0, hh0, hc0⟩, he'⟩ := he
          obtain ⟨k1, k2, k3⟩ := outCells_ok _ _ _ _ _ h1
          refine ⟨?_, outsV_ok hfix hm r (i + 1) _ os rs2 h2 (fun p hp => hrs p (.tail _ (List.mem_append_right _ hp))) he'⟩
          have hro := hm _ _ hls
          have hfi := hfix (nF i) (by unfold nF; omega) (by omega)
          generalize hx : Root.blk ls = x at hro
          cases hro with
          | sl => cases hx
          | mp => cases hx
          | gh => cases hx
          | blk b' off' cells' e' ls' us hρ hl hh hs hc =>
            injection hx with hx
            subst hx
            rw [hfi, hρ0] at hρ
            injection hρ with e1 e2
            subst e1 e2
            refine ⟨b, off, cells, cells', e, e', hρ0, hh0, hh, ?_, by rw [k1, <- k2]; exact hs, k1, fun j y hy => ?_⟩
            · have := hrs _ (List.Mem.head _)
              simp [relab, hl, this]
            · obtain ⟨l, x0, g1, g2, g3⟩ := k3 j y hy
              obtain ⟨c1, c2⟩ := hc j l g1
              refine ⟨_, c1, ?_⟩
              rw [Nat.zero_add] at g3
              rcases g3 with ⟨rfl, hp⟩ | ⟨rfl, rfl, hf0⟩ | ⟨rfl, rfl, hp, hfs, hlt⟩ | ⟨q, rfl, hq, hf, hmem⟩
              · exact .inl ⟨hp, fun _ _ _ _ => c2.2.plain_any hp⟩
              · exact .inr (.inl ⟨rfl, by have h9 := c2.2; generalize us j = u9 at h9 ⊢; cases h9; rfl, x0, g2, hf0⟩)
              · rw [Bool.and_eq_true] at hfs
                obtain ⟨hf, hs0⟩ := hfs
                obtain ⟨u, hu, hρu⟩ := hc0 j y g2 hp hf
                refine .inr (.inr (.inl ⟨hp, hf, hs0, ⟨y, g2, .same _⟩, ?_⟩))
                have h3 := c2.2
                have hfx := hfix (20001 + 1000 * i + j) (by omega) hlt
                simp only [valAt, hfx, hρu] at h3
                injection h3 with h3
                rw [<- h3]
                exact hu
              · refine .inr (.inr (.inr ⟨hf, ?_⟩))
                have hro := hm _ _ hq
                generalize hx : Root.sl y = x at hro
                cases hro with
                | blk => cases hx
                | mp => cases hx
                | gh => cases hx
                | sl v y' hρ hr =>
                  injection hx with hx
                  subst hx
                  have h3 := c2.2
                  simp only [valAt, hρ] at h3
                  injection h3 with h3
                  rw [<- h3]
                  exact RV.relab (p := []) hr (hrs _ (.tail _ (List.mem_append_left _ hmem)))
        · cases h
      · cases h
  | .sl y :: r, i, pos, outs, rs0, h, hrs, he => by
    unfold outsV at h
    cases hi : Nat.blt (nF i) 60000 with
    | false => rw [hi] at h; cases h
    | true =>
      rw [hi, cond_true] at h
      have hi := Nat.le_of_ble_eq_true hi
      split at h
      · rename_i y' hy'
        cases hl : (y'.loc && !y'.fro) with
        | false => rw [hl] at h; cases h
        | true =>
          rw [hl, cond_true] at h
          split at h
          · rename_i os rs2 h2
            simp only [Option.some.injEq, Prod.mk.injEq] at h
            obtain ⟨rfl, rfl⟩ := h
            obtain ⟨⟨v, hv⟩, he'⟩ := he
            refine ⟨⟨v, hv, ?_⟩, outsV_ok hfix hm r (i + 1) _ os rs2 h2 (fun p hp => hrs p (.tail _ hp)) he'⟩
            have hfi := hfix (nF i) (by unfold nF; omega) (by omega)
            have hro := hm _ _ hy'
            generalize hx : Root.sl y' = x at hro
            cases hro with
            | blk => cases hx
            | mp => cases hx
            | gh => cases hx
            | sl v' y'' hρ hr =>
              injection hx with hx
              subst hx
              rw [hfi, hv] at hρ
              injection hρ with hρ
              subst hρ
              exact RV.relab (p := []) hr (hrs _ (.head _))
          · cases h
      · cases h
theorem endMK_ok {w1 : World} {ρ0 : Nat -> Loc} {fn : Func} {ins : List In} {k : List In -> Res -> Option X} (hw : w0.w = w1) (hF : ∀ r, 20000 <= r -> r < 60000 -> w0.F r = some (ρ0 r)) (he : EntOK w1 ρ0 0 ins) (h : endMK P σ fn.results ins k = some r) :
    ∃ outs res, k outs res = some r /\ ∀ lab ρ a w, Rl w0 N lab ρ σ a w -> ∀ nm, ∃ v lab', (results fn a.tmps).run P w = .ok v w /\ (∀ b k, lab' b = some k -> (w0.heap.size <= b \/ w0.L b ≠ none) /\ b < w.heap.size /\ k ≠ []) /\ ResOK w w0.heap.size lab' nm res v /\ OutsOK w1 w lab' ρ0 nm 0 res.len ins outs := by
  unfold endMK at h
  obtain ⟨ps, h2, hps⟩ := resVarK_ok (w0 := w0) (N := N) _ _ h
  clear h
  split at h2
  · rename_i qs rsA hqs
    split at h2
    · rename_i os rsB hos
      cases ho : once (rsA ++ rsB) with
      | false => rw [ho] at h2; cases h2
      | true =>
        rw [ho, cond_true] at h2
        generalize hrsd : rsA ++ rsB = rs at ho
        have hrs : ∀ p ∈ rs, rs.lookup p.1 = some p.2 := by
          intro p hp
          have := List.all_eq_true.1 ho p hp
          obtain ⟨n, hn, he⟩ := (Option.any_eq_true _ _).1 this
          rw [hn, Nat.eq_of_beq_eq_true he]
        have core : ∀ lab ρ a w, Rl w0 N lab ρ σ a w -> ∀ nm : Nat -> Nat, ∃ vs : List Value, (fn.results.mapM (resOf a.tmps)).run P w = .ok vs.toArray w /\ (∀ b k, relab lab rs nm b = some k -> (w0.heap.size <= b \/ w0.L b ≠ none) /\ b < w.heap.size /\ k ≠ []) /\ ResL w w0.heap.size (relab lab rs nm) nm 0 qs vs /\
            OutsOK w1 w (relab lab rs nm) ρ0 nm 0 (qs.map fun p => p.2.length).sum ins os := by
          intro lab ρ a w hR nm
          obtain ⟨vs, hrun, hl, hv⟩ := hps lab ρ a w hR
          refine ⟨vs, ?_, fun b k hk => ?_, partsV_ok hR.root ps 0 qs rsA vs hqs (fun p hp => hrs p (by rw [<- hrsd]; exact List.mem_append_left _ hp)) hl hv,
            outsV_ok (fun r h1 h2 => hR.fix r _ (hF r h1 h2)) (by rw [<- hw]; exact hR.root) ins 0 _ os rsB hos (fun p hp => hrs p (by rw [<- hrsd]; exact List.mem_append_right _ hp)) he⟩
          · rw [Array.mapM_eq_mapM_toList]
            simp [hrun]
          · unfold relab at hk
            split at hk
            · cases hk
            · rename_i k' hk'
              have := hR.lab_ge b k' hk'
              split at hk
              · cases hk
              · cases hlk : rs.lookup _ with
                | none => rw [hlk] at hk; cases hk
                | some n =>
                  rw [hlk] at hk
                  injection hk with hk
                  subst hk
                  exact ⟨this.1, this.2.1, by simp⟩
        have hres : ∀ (tmps : Array Value), results fn tmps = (do let vs <- fn.results.mapM (resOf tmps); pure (if h : vs.size = 1 then vs[0] else .tuple vs)) := fun tmps => by
          unfold results
          congr 1
        split at h2
        · rename_i p
          refine ⟨_, _, h2, fun lab ρ a w hR nm => ?_⟩
          obtain ⟨vs, hrun, hlab, hR', hO⟩ := core lab ρ a w hR nm
          have hO : OutsOK w1 w (relab lab rs nm) ρ0 nm 0 (Res.one p).len ins os := by simpa [Res.len] using hO
          match vs, hR' with
          | [v], hR' => exact ⟨v, _, by rw [hres, Sem.run_bind, hrun]; rfl, hlab, hR', hO⟩
          | [], hR' => exact hR'.elim
          | _ :: _ :: _, hR' => exact hR'.2.elim
        · rename_i hne
          refine ⟨_, _, h2, fun lab ρ a w hR nm => ?_⟩
          obtain ⟨vs, hrun, hlab, hR', hO⟩ := core lab ρ a w hR nm
          have hsz : vs.toArray.size ≠ 1 := by
            intro e
            clear hO
            have e : vs.length = 1 := by simpa using e
            match qs, vs, hR', hne, e with
            | [q], [v], _, hne, _ => exact hne q rfl
            | [], [v], hR', _, _ => exact hR'.elim
            | _ :: _ :: _, [v], hR', _, _ => exact hR'.2.elim
          refine ⟨.tuple vs.toArray, _, ?_, hlab, ⟨vs.toArray, rfl, hR'⟩, hO⟩
          rw [hres, Sem.run_bind, hrun, Result.andThen_ok]
          simp only [hsz, dif_neg, not_false_eq_true, Sem.run_pure]
    · cases h2
  · cases h2
theorem cellRt_inv {i : Nat} : ∀ (cs : List V) (j0 : Nat) (m : Nat -> Option Root) (r : Nat) (x : Root), cellRt i j0 cs m r = some x -> m r = some x \/ ∃ j y, cs[j]? = some y /\ y.plain = false /\ r = nC i (j0 + j) y /\ x = .sl y
  | [], j0, m, r, x, h => .inl h
  | c :: cs, j0, m, r, x, h => by
    unfold cellRt at h
    rcases cellRt_inv cs (j0 + 1) _ r x h with h1 | ⟨j, y, h1, h2, h3, h4⟩
    · cases hp : c.plain with
      | true => rw [hp] at h1; exact .inl h1
      | false =>
        rw [hp, cond_false] at h1
        by_cases hr : r = nC i j0 c
        · subst hr
          rw [upd_same] at h1
          injection h1 with h1
          exact .inr ⟨0, c, rfl, hp, rfl, h1.symm⟩
        · rw [upd_ne _ _ _ hr] at h1
          exact .inl h1
    · exact .inr ⟨j + 1, y, by simpa using h1, h2, by rw [h3]; congr 1; omega, h4⟩
theorem EntR.roots : ∀ (ins : List In) (i : Nat) (m : Nat -> Option Root), EntR w B lab ρ i ins -> (∀ r x, m r = some x -> RootOK w B lab ρ r x) -> ∀ r x, inM i ins m r = some x -> RootOK w B lab ρ r x
  | [], i, m, _, hm, r, x, h => hm r x h
  | .blk cs :: ins, i, m, he, hm, r, x, h => by
    obtain ⟨h1, h2, h3⟩ := he
    refine EntR.roots ins (i + 1) _ h3 (fun r x hx => ?_) r x h
    rcases cellRt_inv cs 0 _ r x hx with h4 | ⟨j, y, g1, g2, g3, g4⟩
    · by_cases hr : r = nF i
      · subst hr
        rw [upd_same] at h4
        injection h4 with h4
        subst h4
        exact h1
      · rw [upd_ne _ _ _ hr] at h4
        exact hm r x h4
    · rw [Nat.zero_add] at g3
      subst g3 g4
      exact h2 j y g1 g2
  | .sl y :: ins, i, m, he, hm, r, x, h => by
    obtain ⟨h1, h3⟩ := he
    refine EntR.roots ins (i + 1) _ h3 (fun r x hx => ?_) r x h
    by_cases hr : r = nF i
    · subst hr
      rw [upd_same] at hx
      injection hx with hx
      subst hx
      exact h1
    · rw [upd_ne _ _ _ hr] at hx
      exact hm r x hx
theorem inLfs_get {i : Nat} : ∀ (cs : List V) (j0 j : Nat) x, cs[j]? = some x -> (inLfs i j0 cs)[j]? = some (inLf i (j0 + j) x)
  | [], j0, j, x, h => by simp at h
  | c :: cs, j0, 0, x, h => by simp at h; subst h; rfl
  | c :: cs, j0, j + 1, x, h => by
    simp only [inLfs, List.getElem?_cons_succ]
    rw [inLfs_get cs (j0 + 1) j x (by simpa using h)]
    congr 2
    omega
theorem EntR.ent : ∀ (ins : List In) (i : Nat), EntR w B lab ρ i ins -> EntOK w ρ i ins
  | [], _, _ => trivial
  | .blk cs :: ins, i, he => by
    obtain ⟨h1, _, h3⟩ := he
    refine ⟨?_, EntR.ent ins (i + 1) h3⟩
    generalize hx : Root.blk (inLfs i 0 cs) = x at h1
    cases h1 with
    | sl => cases hx
    | mp => cases hx
    | gh => cases hx
    | blk b off cells e ls us hρ hl hh hs hc =>
      injection hx with hx
      subst hx
      refine ⟨b, off, cells, e, hρ, hh, fun j x hj hp hf => ?_⟩
      obtain ⟨c1, c2⟩ := hc j _ (inLfs_get cs 0 j x hj)
      rw [Nat.zero_add] at c2
      refine ⟨_, c1, ?_⟩
      have e1 : inLf i j x = .own [20001 + 1000 * i + j] := by simp [inLf, hp, nC, hf]
      rw [e1] at c2
      have h4 := c2.2
      simp only [valAt] at h4
      split at h4
      · rename_i v hv
        injection h4 with h4
        rw [<- h4]
        exact hv
      · cases h4
  | .sl y :: ins, i, he => by
    obtain ⟨h1, h3⟩ := he
    refine ⟨?_, EntR.ent ins (i + 1) h3⟩
    cases h1 with
    | sl v y' hρ hr => exact ⟨v, hρ⟩
end
end Go.Proofs.YtckjagaogcbedaaGreat
namespace Go.Proofs.YtckjagaogcbedaaGreat
open Go.RowKit
set_option linter.unusedVariables false
def memB (n : Nat) : List Nat -> Bool
  | [] => false
  | m :: l => Nat.beq n m || memB n l
theorem memB_iff {n : Nat} : ∀ {l : List Nat}, memB n l = true ↔ n ∈ l
  | [] => by simp [memB]
  | m :: l => by
    simp only [memB, Bool.or_eq_true, List.mem_cons, memB_iff (l := l)]
    constructor
    · rintro (h | h)
      · exact .inl (Nat.eq_of_beq_eq_true h)
      · exact .inr h
    · rintro (h | h)
      · left; subst h; exact Nat.beq_refl n
      · exact .inr h
theorem memB_not {n : Nat} {l : List Nat} (h : memB n l = false) : n ∉ l := fun k => by rw [memB_iff.2 k] at h; cases h
def lastB (k : List Nat) (l : List Nat) : Bool := match k.getLast? with
  | some r => memB r l
  | none => false
def Lf.lose (ns cn : List Nat) : Lf -> Lf
  | .own k => bif lastB k cn || (lastB k ns && !(Nat.beq k.length 1)) then .dead else .own k
  | x => x
def A.lose (ns cn : List Nat) : A -> A
  | .lf x => .lf (x.lose ns cn)
  | .agg cs => .agg (cs.map (Lf.lose ns cn))
  | .tup xs => .tup (xs.map fun p => (p.1, p.2.map (Lf.lose ns cn)))
  | .ptr k => bif lastB k cn || lastB k ns then .undef else .ptr k
  | .bptr r j => bif memB r cn then .undef else .bptr r j
  | .pk r n => bif memB r cn then .undef else .pk r n
  | .view k s i j => bif lastB k cn || lastB k ns then .undef else .view k s i j
  | .fn f cap => bif cap.any (fun p => memB p.1 cn) then .undef else .fn f cap
  | x => x
def Root.lose (ns cn : List Nat) : Root -> Root
  | .blk cs => .blk (cs.map (Lf.lose ns cn))
  | .gh xs => .gh (xs.map (A.lose ns cn))
  | x => x
def S.lose (σ : S) (ns cn : List Nat) (nr : List (Nat × Root)) : S := ⟨fun k => (σ.t k).lose ns cn, fun r => match nr.lookup r with
  | some x => some x
  | none => bif memB r ns || memB r cn then none else (σ.m r).map (Root.lose ns cn)⟩
structure Hav (w w' : World) (lab lab2 : Lab) (ρ ρ2 : Nat -> Loc) (ns cn : List Nat) : Prop where
  size : w.heap.size <= w'.heap.size
  same : ∀ b, b < w.heap.size -> (∀ k, lab b = some k -> lastB k ns = false) -> w'.heap[b]? = w.heap[b]? /\ lab2 b = lab b
  rho : ∀ r, memB r cn = false -> ρ2 r = ρ r
  lab : ∀ b k, lab b = some k -> b < w.heap.size /\ k ≠ []
section
variable {P : Program} {w w' : World} {w0 : Wd} {B N : Nat} {lab lab2 lab' : Lab} {ρ ρ2 : Nat -> Loc} {σ : S} {a : Act} {X : Type} {d : Nat} {r : X} {ns cn : List Nat}
theorem lastB_long {j i s : Nat} {q : List Nat} {l : List Nat} (h : q ≠ []) : lastB (j :: i :: s :: q) l = lastB q l := by
  cases q with
  | nil => exact absurd rfl h
  | cons x q => simp [lastB, List.getLast?_cons_cons]
theorem RV.hav (hv : Hav w w' lab lab2 ρ ρ2 ns cn) {q : List Nat} {x : V} {v : Value} (h : RV w B lab q x v) (hq : lastB q ns = false \/ x.fro = true) : RV w' B lab2 q x v := by
  induction h with
  | int => exact .int _ _ _
  | bool => exact .bool _ _
  | str => exact .str _ _
  | nil => exact .nil _
  | slNil => exact .slNil _ _ _
  | slEmp => exact .slEmp _ _ _ _ _ (by first | assumption | omega)
  | slNon => exact .slNon _ _ _ _ _ (by first | assumption | omega)
  | fro q t o qn l b off cap u ho hl hb h1 hcap hc hr ih =>
    obtain ⟨e1, e2⟩ := hv.same b hb (fun k hk => by rw [hl] at hk; cases hk)
    exact .fro _ _ _ _ _ _ _ _ u ho (e2.trans hl) (Nat.lt_of_lt_of_le hb hv.size) h1 hcap (fun i h j x hx => (World.cell?_of_block (a := ⟨b, _, none⟩) e1).trans (hc i h j x hx)) (fun i h j x hx => ih i h j x hx (.inr (enc_fro t o l[i] ho j x hx)))
  | own q t o qn l b cap cs u hl hh hs hn hm hc hr ih =>
    have hq' : lastB q ns = false := by
      rcases hq with hq | hq
      · exact hq
      · simp [V.fro] at hq; omega
    have hne : q ≠ [] := (hv.lab b q hl).2
    obtain ⟨e1, e2⟩ := hv.same b (hv.lab b q hl).1 (fun k hk => by rw [hl] at hk; injection hk with hk; subst hk; exact hq')
    exact .own _ _ _ _ _ _ _ cs u (e2.trans hl) (e1.trans hh) hs hn hm hc (fun i h j x hx => ih i h j x hx (.inl (by rw [lastB_long hne]; exact hq')))
theorem addrAt_hav (hv : Hav w w' lab lab2 ρ ρ2 ns cn) : ∀ (k : List Nat) (ad : Addr), lastB k ns = false -> lastB k cn = false -> addrAt w lab ρ k = some ad -> addrAt w' lab2 ρ2 k = some ad
  | [], _, _, _, h => by simp [addrAt] at h
  | [_], _, _, _, h => by simp [addrAt] at h
  | [_, _], _, _, _, h => by simp [addrAt] at h
  | [_, _, _], _, _, _, h => by simp [addrAt] at h
  | [j, i, s, r], _, h1, h2, h => by
    have h1 : lastB [r] ns = false := by rwa [lastB_long (by simp)] at h1
    have h2 : memB r cn = false := by rw [lastB_long (by simp)] at h2; exact h2
    simp only [addrAt] at h ⊢
    rw [hv.rho r h2]
    split at h
    · rename_i v b n c hr
      split at h
      · rename_i hl
        obtain ⟨_, e2⟩ := hv.same b (hv.lab b _ hl).1 (fun k hk => by rw [hl] at hk; injection hk with hk; subst hk; exact h1)
        rw [if_pos (e2.trans hl)]
        exact h
      · cases h
    · cases h
  | j :: i :: s :: x :: y :: q, ad, h1, h2, h => by
    rw [lastB_long (by simp)] at h1 h2
    simp only [addrAt] at h ⊢
    cases ha : addrAt w lab ρ (x :: y :: q) with
    | none => rw [ha] at h; cases h
    | some ad' =>
      rw [addrAt_hav hv _ _ h1 h2 ha]
      rw [ha] at h
      cases hc : w.cell? ad' with
      | none => simp [hc] at h
      | some v =>
        obtain ⟨j', i', s', q', hk, hl', _, _⟩ := addrAt_lab _ _ ha
        have hne : q' ≠ [] := (hv.lab _ _ hl').2
        have hq' : lastB q' ns = false := by
          rw [hk, lastB_long hne] at h1
          exact h1
        obtain ⟨e1, _⟩ := hv.same ad'.block (hv.lab _ _ hl').1 (fun k hk => by rw [hl'] at hk; injection hk with hk; subst hk; exact hq')
        have e : w'.cell? ad' = some v := (World.cell?_of_block e1).trans hc
        simp only [Option.bind_some, hc] at h
        simp only [Option.bind_some, e]
        split at h
        · split at h
          · rename_i hl
            obtain ⟨_, e2⟩ := hv.same _ (hv.lab _ _ hl).1 (fun k hk => by rw [hl] at hk; injection hk with hk; subst hk; exact h1)
            rw [if_pos (e2.trans hl)]
            exact h
          · cases h
        · cases h
theorem valAt_hav (hv : Hav w w' lab lab2 ρ ρ2 ns cn) (k : List Nat) (u : Value) (h1 : k.length = 1 \/ lastB k ns = false) (h2 : lastB k cn = false) (h : valAt w lab ρ k = some u) : valAt w' lab2 ρ2 k = some u := by
  match k, h1, h2, h with
  | [], _, _, h => simp [valAt, addrAt] at h
  | [r], _, h2, h =>
    simp only [valAt] at h ⊢
    rw [hv.rho r h2]
    exact h
  | x :: y :: q, h1, h2, h =>
    have h1 : lastB (x :: y :: q) ns = false := by
      rcases h1 with h1 | h1
      · simp at h1
      · exact h1
    simp only [valAt] at h ⊢
    cases ha : addrAt w lab ρ (x :: y :: q) with
    | none => rw [ha] at h; cases h
    | some ad =>
      rw [addrAt_hav hv _ _ h1 h2 ha]
      rw [ha] at h
      have h : w.cell? ad = some u := h
      obtain ⟨j', i', s', q', hk, hl', _, _⟩ := addrAt_lab _ _ ha
      have hne : q' ≠ [] := (hv.lab _ _ hl').2
      rw [hk, lastB_long hne] at h1
      obtain ⟨e1, _⟩ := hv.same ad.block (hv.lab _ _ hl').1 (fun k hk => by rw [hl'] at hk; injection hk with hk; subst hk; exact h1)
      exact (World.cell?_of_block e1).trans h
theorem RLf.hav (hv : Hav w w' lab lab2 ρ ρ2 ns cn) {x : Lf} {u : Value} (h : RLf w B lab ρ x u) : RLf w' B lab2 ρ2 (x.lose ns cn) u := by
  cases x with
  | v x => exact ⟨h.1, h.2.hav hv (.inr h.1)⟩
  | dead => trivial
  | own k =>
    have e : Lf.lose ns cn (.own k) = (bif lastB k cn || (lastB k ns && !(Nat.beq k.length 1)) then .dead else .own k) := rfl
    rw [e]
    cases hb : (lastB k cn || (lastB k ns && !(Nat.beq k.length 1))) with
    | true => trivial
    | false =>
      rw [Bool.or_eq_false_iff] at hb
      refine ⟨h.1, valAt_hav hv k u ?_ hb.1 h.2⟩
      have hb := hb.2
      cases hn : lastB k ns with
      | false => exact .inr rfl
      | true =>
        rw [hn, Bool.true_and, Bool.not_eq_false'] at hb
        exact .inl (Nat.eq_of_beq_eq_true hb)
theorem RLs.hav (hv : Hav w w' lab lab2 ρ ρ2 ns cn) {cs : List Lf} {us : Array Value} (h : RLs w B lab ρ cs us) : RLs w' B lab2 ρ2 (cs.map (Lf.lose ns cn)) us := by
  refine ⟨by rw [List.length_map]; exact h.1, fun j x hx => ?_⟩
  rw [List.getElem?_map] at hx
  cases hy : cs[j]? with
  | none => rw [hy] at hx; cases hx
  | some y =>
    rw [hy] at hx
    injection hx with hx
    subst hx
    obtain ⟨u, hu, r⟩ := h.2 j y hy
    exact ⟨u, hu, r.hav hv⟩
theorem RP.hav (hv : Hav w w' lab lab2 ρ ρ2 ns cn) {p : Bool × List Lf} {u : Value} (h : RP w B lab ρ p u) : RP w' B lab2 ρ2 (p.1, p.2.map (Lf.lose ns cn)) u := by
  obtain ⟨b, cs⟩ := p
  cases b with
  | true => obtain ⟨us, e, h⟩ := h; exact ⟨us, e, h.hav hv⟩
  | false => exact RLs.hav hv h
theorem RA.hav (hv : Hav w w' lab lab2 ρ ρ2 ns cn) {x : A} {u : Value} (h : RA w B lab ρ x u) : RA w' B lab2 ρ2 (x.lose ns cn) u := by
  cases x with
  | undef => trivial
  | skip => exact h
  | lf x => exact RLf.hav hv h
  | agg cs => exact RP.hav hv (p := (true, cs)) h
  | tup xs =>
    obtain ⟨us, e, hs, h⟩ := h
    refine ⟨us, e, by rw [List.length_map]; exact hs, fun j p hp => ?_⟩
    rw [List.getElem?_map] at hp
    cases hy : xs[j]? with
    | none => rw [hy] at hp; cases hp
    | some y =>
      rw [hy] at hp
      injection hp with hp
      subst hp
      obtain ⟨v, hv', r⟩ := h j y hy
      exact ⟨v, hv', r.hav hv⟩
  | ptr k =>
    have e : A.lose ns cn (.ptr k) = (bif lastB k cn || lastB k ns then .undef else .ptr k) := rfl
    rw [e]
    cases hb : (lastB k cn || lastB k ns) with
    | true => trivial
    | false =>
      rw [Bool.or_eq_false_iff] at hb
      obtain ⟨ad, e, h⟩ := h
      exact ⟨ad, e, addrAt_hav hv k ad hb.2 hb.1 h⟩
  | view k s i j =>
    have e : A.lose ns cn (.view k s i j) = (bif lastB k cn || lastB k ns then .undef else .view k s i j) := rfl
    rw [e]
    cases hb : (lastB k cn || lastB k ns) with
    | true => trivial
    | false =>
      rw [Bool.or_eq_false_iff] at hb
      obtain ⟨A, n, c, h, g⟩ := h
      exact ⟨A, n, c, valAt_hav hv k _ (.inr hb.2) hb.1 h, g⟩
  | pk r n =>
    have e : A.lose ns cn (.pk r n) = (bif memB r cn then .undef else .pk r n) := rfl
    rw [e]
    cases hb : memB r cn with
    | true => trivial
    | false =>
      obtain ⟨b, e, h⟩ := h
      exact ⟨b, (hv.rho r hb).trans e, h⟩
  | bptr r j =>
    have e : A.lose ns cn (.bptr r j) = (bif memB r cn then .undef else .bptr r j) := rfl
    rw [e]
    cases hb : memB r cn with
    | true => trivial
    | false =>
      obtain ⟨b, off, e, h⟩ := h
      exact ⟨b, off, (hv.rho r hb).trans e, h⟩
  | fptr cs =>
    obtain ⟨b, off, e, hb, hl, h⟩ := h
    obtain ⟨e1, e2⟩ := hv.same b hb (fun k hk => by rw [hl] at hk; cases hk)
    refine ⟨b, off, e, Nat.lt_of_lt_of_le hb hv.size, e2.trans hl, fun j x hx => ?_⟩
    obtain ⟨hf, v, hv', hr⟩ := h j x hx
    exact ⟨hf, v, (World.cell?_of_block (a := ⟨b, _, none⟩) e1).trans hv', hr.hav hv (.inr hf)⟩
  | ffn f cs =>
    obtain ⟨pv, e0, h⟩ := h
    refine ⟨pv, e0, ?_⟩
    obtain ⟨b, off, e, hb, hl, h⟩ := h
    obtain ⟨e1, e2⟩ := hv.same b hb (fun k hk => by rw [hl] at hk; cases hk)
    refine ⟨b, off, e, Nat.lt_of_lt_of_le hb hv.size, e2.trans hl, fun j x hx => ?_⟩
    obtain ⟨hf, v, hv', hr⟩ := h j x hx
    exact ⟨hf, v, (World.cell?_of_block (a := ⟨b, _, none⟩) e1).trans hv', hr.hav hv (.inr hf)⟩
  | fn f cap =>
    have e : A.lose ns cn (.fn f cap) = (bif cap.any (fun p => memB p.1 cn) then .undef else .fn f cap) := rfl
    rw [e]
    cases hb : cap.any (fun p => memB p.1 cn) with
    | true => trivial
    | false =>
      obtain ⟨vs, e, hs, h⟩ := h
      refine ⟨vs, e, hs, fun j p hp => ?_⟩
      obtain ⟨b, off, e2, h2⟩ := h j p hp
      have := List.any_eq_false.1 hb p (List.mem_of_getElem? hp)
      exact ⟨b, off, (hv.rho _ (by simpa using this)).trans e2, h2⟩
theorem RootOK.hav (hv : Hav w w' lab lab2 ρ ρ2 ns cn) {n : Nat} {x : Root} (h : RootOK w B lab ρ n x) (h1 : memB n ns = false) (h2 : memB n cn = false) : RootOK w' B lab2 ρ2 n (x.lose ns cn) := by
  cases h with
  | blk b off cells e cs us hρ hl hh hs hc =>
    obtain ⟨e1, e2⟩ := hv.same b (hv.lab b _ hl).1 (fun k hk => by rw [hl] at hk; injection hk with hk; subst hk; exact h1)
    refine .blk b off cells e _ us ((hv.rho n h2).trans hρ) (e2.trans hl) (e1.trans hh) (by rw [List.length_map]; exact hs) (fun j x hx => ?_)
    rw [List.getElem?_map] at hx
    cases hy : cs[j]? with
    | none => rw [hy] at hx; cases hx
    | some y =>
      rw [hy] at hx
      injection hx with hx
      subst hx
      exact ⟨(hc j y hy).1, (hc j y hy).2.hav hv⟩
  | sl v y hρ hr => exact .sl v y ((hv.rho n h2).trans hρ) (hr.hav hv (.inl h1))
  | mp b c es l hρ hl hh he =>
    obtain ⟨e1, e2⟩ := hv.same b (hv.lab b _ hl).1 (fun k hk => by rw [hl] at hk; injection hk with hk; subst hk; exact h1)
    exact .mp b c es l ((hv.rho n h2).trans hρ) (e2.trans hl) (e1.trans hh) he
  | gh us xs hρ hx =>
    refine .gh us _ ((hv.rho n h2).trans hρ) (fun j x hj => ?_)
    rw [List.getElem?_map] at hj
    cases hy : xs[j]? with
    | none => rw [hy] at hj; cases hj
    | some y =>
      rw [hy] at hj
      injection hj with hj
      subst hj
      exact (hx j y hy).hav hv
theorem Rl.hav (h : Rl w0 N lab ρ σ a w) (hv : Hav w w' lab lab2 ρ ρ2 ns cn) (hb : BelowS w0 w w') (hl : ∀ b k, lab2 b = some k -> (w0.heap.size <= b \/ w0.L b ≠ none) /\ b < w'.heap.size /\ k ≠ []) (hF : ∀ r, memB r cn = true -> w0.F r = none) {nr : List (Nat × Root)}
    (hnew : ∀ r x, nr.lookup r = some x -> RootOK w' w0.heap.size lab2 ρ2 r x) : Rl w0 N lab2 ρ2 (σ.lose ns cn nr) a w' := by
  refine ⟨h.below.trans hb, hl, fun r x hx => ?_, fun k => (h.tmp k).hav hv, h.size, h.defers, fun r l hr => ?_, h.lim⟩
  · simp only [S.lose] at hx
    split at hx
    · rename_i y hy
      injection hx with hx
      subst hx
      exact hnew r y hy
    · cases hm : (memB r ns || memB r cn) with
      | true => rw [hm] at hx; cases hx
      | false =>
        rw [hm, cond_false] at hx
        rw [Bool.or_eq_false_iff] at hm
        cases hy : σ.m r with
        | none => rw [hy] at hx; cases hx
        | some y =>
          rw [hy] at hx
          injection hx with hx
          subst hx
          exact (h.root r y hy).hav hv hm.1 hm.2
  · have hc : memB r cn = false := by
      cases hc : memB r cn with
      | false => rfl
      | true => rw [hF r hc] at hr; cases hr
    exact (hv.rho r hc).trans (h.fix r l hr)
end
end Go.Proofs.YtckjagaogcbedaaGreat
namespace Go.Proofs.YtckjagaogcbedaaGreat
open Go.RowKit
set_option linter.unusedVariables false
inductive Mu where
  | blk (r : Nat) (cs : List Lf) (vs : List (V × Option Nat))
  | sl (q : Nat) (y : V)
def Mu.root : Mu -> Nat
  | .blk r _ _ => r
  | .sl q _ => q
def giveC (m : Nat -> Option Root) : Lf -> Option (V × Option Nat)
  | .v x => some (x.frz, none)
  | .own [q] => match m q with
    | some (.sl y) => bif y.fro then some (y.frz, none) else some (y, some q)
    | _ => none
  | _ => none
def giveCs (m : Nat -> Option Root) : List Lf -> Option (List (V × Option Nat))
  | [] => some []
  | l :: ls => match giveC m l, giveCs m ls with
    | some v, some vs => some (v :: vs)
    | _, _ => none
def muK (σ : S) : PK -> A -> Option (Option Mu)
  | .v _ _, _ => some none
  | .p _ _ off, .bptr r j => (match (bif Nat.beq j off then σ.m r else none) with
    | some (.blk cs) => (match giveCs σ.m cs with
      | some vs => bif Nat.blt cs.length 999 then some (some (.blk r cs vs)) else none
      | none => none)
    | _ => none)
  | .s _ _, .lf (.own [q]) => (match σ.m q with
    | some (.sl y) => bif y.fro then none else some (some (.sl q y))
    | _ => none)
  | _, _ => none
def musK (σ : S) : List PK -> List Operand -> Option (List Mu)
  | [], [] => some []
  | p :: ps, x :: xs => (match muK σ p (opd σ x), musK σ ps xs with
    | some (some mu), some mus => some (mu :: mus)
    | some none, some mus => some mus
    | _, _ => none)
  | _, _ => none
def renC (i : Nat) : Nat -> List (V × Option Nat) -> List (Nat × Nat)
  | _, [] => []
  | j, (_, some q) :: vs => (q, 60000 + 1000 * i + j) :: renC i (j + 1) vs
  | j, (_, none) :: vs => renC i (j + 1) vs
def renM : Nat -> List Mu -> List (Nat × Nat)
  | _, [] => []
  | i, .blk r _ vs :: mus => (r, nF i) :: (renC i 0 vs ++ renM (i + 1) mus)
  | i, .sl q _ :: mus => (q, nF i) :: renM (i + 1) mus
def okLf (ns : List Nat) : Lf -> Bool
  | .own k => !lastB k ns
  | _ => true
def lvMK {X : Type} (σ : S) (ns : List Nat) : List Lf -> (List V -> Option X) -> Option X
  | [], k => k []
  | x :: xs, k => bif okLf ns x then lfK σ x fun y => lvMK σ ns xs fun ys => k (y.frz :: ys) else none
def argMK {X : Type} (σ : S) (ns : List Nat) (x : A) (k : Pt -> Option X) : Option X :=
  match x with
  | .lf y => lvMK σ ns [y] fun vs => k (false, vs)
  | .agg ys => lvMK σ ns ys fun vs => k (true, vs)
  | _ => none
def parsK {X : Type} (σ : S) (ns : List Nat) : (ps : List PK) -> List Operand -> List Mu -> (ParT ps -> Option X) -> Option X
  | [], [], [], k => k ()
  | .v b t :: ps, x :: xs, mus, k => argMK σ ns (opd σ x) fun p => bif p.1 == b then (match dec t 0 p.2 with
    | some y => parsK σ ns ps xs mus fun ys => k (y, ys)
    | none => none) else none
  | .p t g _ :: ps, _ :: xs, .blk _ _ vs :: mus, k => (match (bif Nat.beq (g % 2) 0 then dec t g (vs.map (·.1)) else none) with
    | some y => parsK σ ns ps xs mus fun ys => k (y, ys)
    | none => none)
  | .s t g :: ps, _ :: xs, .sl _ y :: mus, k => (match (bif Nat.beq (g % 2) 0 then y.asL t (g + 2) else none) with
    | some z => parsK σ ns ps xs mus fun ys => k (z, ys)
    | none => none)
  | _, _, _, _ => none
def rhoC (w : World) (ρ : Nat -> Loc) (rs : List Nat) : Nat -> Loc := fun n =>
  if n < 60000 then (if (n - 20000) % 1000 = 0 then ρ (rs.getD ((n - 20000) / 1000) 0) else (match ρ (rs.getD ((n - 20000) / 1000) 0) with
    | .blk b off => .hdr ((w.cell? ⟨b, off + ((n - 20000) % 1000 - 1), none⟩).getD undef)
    | .hdr v => .hdr v
    | .vals us => .vals us))
  else (match ρ (rs.getD ((n - 60000) / 1000) 0) with
    | .blk b off => .hdr ((w.cell? ⟨b, off + (n - 60000) % 1000, none⟩).getD undef)
    | .hdr v => .hdr v
    | .vals us => .vals us)
theorem rhoC_nF {w : World} {ρ : Nat -> Loc} {rs : List Nat} {i r : Nat} (h : rs[i]? = some r) (hi : i < 40) : rhoC w ρ rs (nF i) = ρ r := by
  have h1 : nF i < 60000 := by unfold nF; omega
  have h2 : (nF i - 20000) % 1000 = 0 := by unfold nF; omega
  have h3 : (nF i - 20000) / 1000 = i := by unfold nF; omega
  have h4 : rs.getD i 0 = r := by rw [List.getD_eq_getElem?_getD, h]; rfl
  unfold rhoC
  rw [if_pos h1, if_pos h2, h3, h4]
theorem rhoC_nC {w : World} {ρ : Nat -> Loc} {rs : List Nat} {i j r b off : Nat} {u : Value} {x : V} (h : rs[i]? = some r) (hi : i < 40) (hj : j < 999) (hρ : ρ r = .blk b off) (hu : w.cell? ⟨b, off + j, none⟩ = some u) : rhoC w ρ rs (nC i j x) = .hdr u := by
  have h4 : rs.getD i 0 = r := by rw [List.getD_eq_getElem?_getD, h]; rfl
  unfold rhoC nC
  cases x.fro with
  | true =>
    have h1 : 20001 + 1000 * i + j < 60000 := by omega
    have h2 : ¬ (20001 + 1000 * i + j - 20000) % 1000 = 0 := by omega
    have h3 : (20001 + 1000 * i + j - 20000) / 1000 = i := by omega
    have h5 : (20001 + 1000 * i + j - 20000) % 1000 - 1 = j := by omega
    simp only [cond_true]
    rw [if_pos h1, if_neg h2, h3, h4, hρ, h5]
    simp [hu]
  | false =>
    have h1 : ¬ 60000 + 1000 * i + j < 60000 := by omega
    have h3 : (60000 + 1000 * i + j - 60000) / 1000 = i := by omega
    have h5 : (60000 + 1000 * i + j - 60000) % 1000 = j := by omega
    simp only [cond_false]
    rw [if_neg h1, h3, h4, hρ, h5]
    simp [hu]
def V.evn : V -> Bool
  | .sl _ o _ _ => Nat.beq (o % 2) 0
  | _ => true
section
variable {P : Program} {w w' : World} {w0 : Wd} {B N : Nat} {lab lab2 lab' : Lab} {ρ ρ2 : Nat -> Loc} {σ : S} {a : Act} {X : Type} {d : Nat} {r : X} {ns cn : List Nat}
theorem RV.reB {B' : Nat} {q : List Nat} {x : V} {v : Value} (h : RV w B lab q x v) (hx : x.evn = true) : RV w B' lab q x v := by
  induction h with
  | int => exact .int _ _ _
  | bool => exact .bool _ _
  | str => exact .str _ _
  | nil => exact .nil _
  | slNil => exact .slNil _ _ _
  | slEmp => exact .slEmp _ _ _ _ _ (by first | assumption | omega)
  | slNon => exact .slNon _ _ _ _ _ (by first | assumption | omega)
  | fro q t o qn l b off cap u ho hl hb h1 hcap hc hr ih =>
    have hx := Nat.eq_of_beq_eq_true hx
    have ho0 : o = 0 := by omega
    subst ho0
    refine .fro _ _ _ _ _ _ _ _ u ho hl hb (by omega) hcap hc (fun i h j x hx' => ih i h j x hx' ?_)
    have := enc_gr t 0 l[i] x (List.mem_of_getElem? hx')
    cases x with
    | sl t' o' q' l' =>
      have : o' = 0 := by simpa [V.gr] using this
      subst this
      rfl
    | _ => rfl
  | own q t o qn l b cap cs u hl hh hs hn hm hc hr ih =>
    have hx := Nat.eq_of_beq_eq_true hx
    refine .own _ _ _ _ _ _ _ cs u hl hh hs hn hm hc (fun i h j x hx' => ih i h j x hx' ?_)
    have := enc_gr t o l[i] x (List.mem_of_getElem? hx')
    cases x with
    | sl t' o' q' l' =>
      have : o' = o := by simpa [V.gr] using this
      subst this
      show Nat.beq (o' % 2) 0 = true
      rw [show o' % 2 = 0 by omega]
      rfl
    | _ => rfl
theorem RV.out {q q' : List Nat} {x : V} {v : Value} (h : RV w B lab q x v) (h1 : ∀ b, lab b = none -> lab' b = none) (h2 : ∀ b k, lab b = some k -> k ≠ [] /\ (lastB k ns = false -> lab' b = none)) (hq : x.fro = true \/ lastB q ns = false) {B' : Nat} : RV w B' lab' q' x.frz v := by
  induction h generalizing q' with
  | int => exact .int _ _ _
  | bool => exact .bool _ _
  | str => exact .str _ _
  | nil => exact .nil _
  | slNil => exact .slNil _ _ _
  | slEmp => exact .slEmp _ _ _ _ _ (by first | assumption | omega)
  | slNon => exact .slNon _ _ _ _ _ (by first | assumption | omega)
  | fro q t o qn l b off cap u ho hl hb h1' hcap hc hr ih =>
    refine .fro _ _ _ _ _ _ _ _ u (by omega) (h1 b hl) hb (by omega) hcap (fun i h j x hx => ?_) (fun i h j x hx => ?_)
    · obtain ⟨y, hy, _⟩ := enc_frz t o l[i] j x hx
      exact hc i h j y hy
    · obtain ⟨y, hy, rfl⟩ := enc_frz t o l[i] j x hx
      exact ih i h j y hy (.inl (enc_fro t o l[i] ho j y hy))
  | own q t o qn l b cap cs u hl hh hs hn hm hc hr ih =>
    have hq' : lastB q ns = false := by
      rcases hq with hq | hq
      · simp [V.fro] at hq; omega
      · exact hq
    obtain ⟨hne, hlb⟩ := h2 b q hl
    refine .fro _ _ _ _ _ _ _ _ u (by omega) (hlb hq') (Array.getElem?_eq_some_iff.1 hh).1 (by omega) hn (fun i h j x hx => ?_) (fun i h j x hx => ?_)
    · obtain ⟨y, hy, _⟩ := enc_frz t o l[i] j x hx
      have := hc i h j y hy
      rw [Nat.zero_add, cell_of_row w b _ cs _ _ hh]
      exact this
    · obtain ⟨y, hy, rfl⟩ := enc_frz t o l[i] j x hx
      exact ih i h j y hy (.inr (by rw [lastB_long hne]; exact hq'))
theorem lfK_key {x : Lf} {k : V -> Option X} (h : lfK σ x k = some r) : ∃ y, k y = some r /\ ∀ lab ρ a w, Rl w0 N lab ρ σ a w -> ∀ u, RLf w w0.heap.size lab ρ x u -> ∃ q, (x = .own q \/ y.fro = true) /\ RV w w0.heap.size lab q y u := by
  cases x with
  | v y => exact ⟨y, h, fun lab ρ a w hR u hu => ⟨[], .inr hu.1, hu.2⟩⟩
  | dead => cases h
  | own q =>
    obtain ⟨y, hy, h'⟩ := getK_ok q k h
    refine ⟨y, h', fun lab ρ a w hR u hu => ⟨q, .inl rfl, ?_⟩⟩
    obtain ⟨v, hv, hr⟩ := hy.ok hR.root
    have : v = u := by
      have h2 := hu.2
      rw [hv] at h2
      injection h2
    subst this
    exact hr
structure Sees (ns : List Nat) (lab lab' : Lab) : Prop where
  none : ∀ b, lab b = none -> lab' b = none
  rest : ∀ b k, lab b = some k -> k ≠ [] /\ (lastB k ns = false -> lab' b = Option.none)
theorem lvMK_ok : ∀ (xs : List Lf) (k : List V -> Option X), lvMK σ ns xs k = some r -> ∃ vs, k vs = some r /\ vs.length = xs.length /\ ∀ lab ρ a w lab', Rl w0 N lab ρ σ a w -> Sees ns lab lab' -> ∀ (j : Nat) x y u, xs[j]? = some x -> vs[j]? = some y -> RLf w w0.heap.size lab ρ x u -> RV w w.heap.size lab' [] y u
  | [], k, h => ⟨[], h, rfl, fun _ _ _ _ _ _ _ j x y u hx => by simp at hx⟩
  | x :: xs, k, h => by
    unfold lvMK at h
    cases ho : okLf ns x with
    | false => rw [ho] at h; cases h
    | true =>
      rw [ho, cond_true] at h
      obtain ⟨y, h2, hy⟩ := lfK_key (w0 := w0) (N := N) h
      obtain ⟨ys, h3, hl, hr⟩ := lvMK_ok xs _ h2
      refine ⟨y.frz :: ys, h3, by simp [hl], fun lab ρ a w lab' hR hS j x' y' u hx' hy' hu => ?_⟩
      cases j with
      | zero =>
        simp at hx' hy'
        subst hx' hy'
        obtain ⟨q, hq, hrv⟩ := hy lab ρ a w hR u hu
        refine hrv.out hS.none hS.rest ?_
        rcases hq with rfl | hq
        · exact .inr (by simpa [okLf] using ho)
        · exact .inl hq
      | succ j => exact hr lab ρ a w lab' hR hS j x' y' u (by simpa using hx') (by simpa using hy') hu
theorem argMK_ok {x : A} {k : Pt -> Option X} (h : argMK σ ns x k = some r) : ∃ p, k p = some r /\ ∀ lab ρ a w lab', Rl w0 N lab ρ σ a w -> Sees ns lab lab' -> ∀ u, RA w w0.heap.size lab ρ x u -> PV w w.heap.size lab' (fun _ => []) p u := by
  unfold argMK at h
  split at h
  · rename_i y
    obtain ⟨vs, h2, hl, hr⟩ := lvMK_ok (w0 := w0) (N := N) _ _ h
    refine ⟨_, h2, fun lab ρ a w lab' hR hS u hu => ⟨#[u], rfl, by simp [hl], fun j x hx => ?_⟩⟩
    have hj : j = 0 := by
      have := (List.getElem?_eq_some_iff.1 hx).1
      simp only [hl] at this
      simpa using this
    subst hj
    exact ⟨u, rfl, hr lab ρ a w lab' hR hS 0 y x u rfl hx hu⟩
  · rename_i ys
    obtain ⟨vs, h2, hl, hr⟩ := lvMK_ok (w0 := w0) (N := N) _ _ h
    refine ⟨_, h2, fun lab ρ a w lab' hR hS u hu => ?_⟩
    obtain ⟨us, rfl, hs⟩ := hu
    refine ⟨us, rfl, by rw [hl]; exact hs.1, fun j x hx => ?_⟩
    have hj : j < ys.length := by rw [<- hl]; exact (List.getElem?_eq_some_iff.1 hx).1
    obtain ⟨v, hv, hr'⟩ := hs.2 j _ (List.getElem?_eq_getElem hj)
    exact ⟨v, hv, hr lab ρ a w lab' hR hS j _ x v (List.getElem?_eq_getElem hj) hx hr'⟩
  · cases h
def MuOK (σ : S) : Mu -> Prop
  | .blk r cs vs => σ.m r = some (.blk cs) /\ giveCs σ.m cs = some vs /\ cs.length < 999
  | .sl q y => σ.m q = some (.sl y) /\ y.fro = false
def MuRel : List Mu -> List In -> Prop
  | [], [] => True
  | .blk _ _ vs :: mus, .blk xs :: ins => (Wks (vs.map (·.1)) xs /\ ∀ x ∈ xs, x.nonnil = true /\ x.evn = true) /\ MuRel mus ins
  | .sl _ y :: mus, .sl y' :: ins => (Wk y y' /\ y'.evn = true) /\ MuRel mus ins
  | _, _ => False
def ArsOK (w : World) (B : Nat) (lab : Lab) (ρ : Nat -> Loc) (ins : List In) : List Ar -> List Value -> Prop
  | [], [] => True
  | x :: xs, v :: vs => RA w B lab ρ (arA ins x) v /\ ArsOK w B lab ρ ins xs vs
  | _, _ => False
theorem ArsOK.get {ins : List In} : ∀ (xs : List Ar) (vs : List Value), ArsOK w B lab ρ ins xs vs -> vs.length = xs.length /\ ∀ i, RA w B lab ρ ((startM ins xs).t i) (vs.toArray.getD i undef)
  | [], [], _ => ⟨rfl, fun i => trivial⟩
  | [], _ :: _, h => h.elim
  | _ :: _, [], h => h.elim
  | x :: xs, v :: vs, h => by
    obtain ⟨h1, h2⟩ := ArsOK.get xs vs h.2
    refine ⟨by simp [h1], fun i => ?_⟩
    cases i with
    | zero => exact h.1
    | succ i =>
      have := h2 i
      simp only [startM, List.getElem?_cons_succ, Array.getD_eq_getD_getElem?, List.getElem?_toArray] at this ⊢
      exact this
theorem evn_of {t : TC} {g : Nat} {x : T t} (hg : Nat.beq (g % 2) 0 = true) : ∀ y ∈ enc t g x, y.nonnil = true /\ y.evn = true := by
  intro y hy
  refine ⟨enc_nonnil t g x y hy, ?_⟩
  have := enc_gr t g x y hy
  cases y with
  | sl t' o' q' l' =>
    have : o' = g := by simpa [V.gr] using this
    subst this
    exact hg
  | _ => rfl
def MuFit (σ : S) : PK -> A -> Option Mu -> Prop
  | .v _ _, _, none => True
  | .p _ _ off, x, some (.blk r cs vs) => x = .bptr r off /\ MuOK σ (.blk r cs vs)
  | .s _ _, x, some (.sl q y) => x = .lf (.own [q]) /\ MuOK σ (.sl q y)
  | _, _, _ => False
theorem muK_ok {p : PK} {x : A} {z : Option Mu} (h : muK σ p x = some z) : MuFit σ p x z := by
  cases p with
  | v b t =>
    have h : (some none : Option (Option Mu)) = some z := h
    injection h with h
    subst h
    trivial
  | p t g off =>
    cases x with
    | bptr r j =>
      have h : (match (bif Nat.beq j off then σ.m r else none) with
        | some (.blk cs) => (match giveCs σ.m cs with
          | some vs => bif Nat.blt cs.length 999 then some (some (.blk r cs vs)) else none
          | none => none)
        | _ => none) = some z := h
      cases hj : Nat.beq j off with
      | false => rw [hj] at h; cases h
      | true =>
        obtain rfl := Nat.eq_of_beq_eq_true hj
        rw [hj, cond_true] at h
        split at h
        · rename_i cs hcs
          split at h
          · rename_i vs hvs
            cases hl : Nat.blt cs.length 999 with
            | false => rw [hl] at h; cases h
            | true =>
              rw [hl, cond_true] at h
              injection h with h
              subst h
              exact ⟨rfl, hcs, hvs, by have := Nat.le_of_ble_eq_true hl; omega⟩
          · cases h
        · cases h
    | _ => cases h
  | s t g =>
    have hx : (∃ q, x = .lf (.own [q])) := by
      unfold muK at h
      split at h
      · rename_i e; cases e
      · rename_i e; cases e
      · exact ⟨_, rfl⟩
      · cases h
    obtain ⟨q, rfl⟩ := hx
    have h : (match σ.m q with
      | some (.sl y) => bif y.fro then none else some (some (.sl q y))
      | _ => none) = some z := h
    split at h
    · rename_i y hy
      cases hf : y.fro with
      | true => rw [hf] at h; cases h
      | false =>
        rw [hf, cond_false] at h
        injection h with h
        subst h
        exact ⟨rfl, hy, hf⟩
    · cases h
theorem musK_ok : ∀ (ps : List PK) (xs : List Operand) (mus : List Mu), musK σ ps xs = some mus -> ∀ mu ∈ mus, MuOK σ mu
  | [], [], mus, h => by injection h with h; subst h; simp
  | p :: ps, x :: xs, mus, h => by
    unfold musK at h
    split at h
    · rename_i mu mus' h1 h2
      injection h with h
      subst h
      have ih := musK_ok ps xs mus' h2
      have h1 := muK_ok h1
      intro z hz
      rcases List.mem_cons.1 hz with rfl | hz
      · cases p with
        | v => exact h1.elim
        | p =>
          cases z with
          | blk => exact h1.2
          | sl => exact h1.elim
        | s =>
          cases z with
          | blk => exact h1.elim
          | sl => exact h1.2
      · exact ih z hz
    · rename_i mus' h1 h2
      injection h with h
      subst h
      exact musK_ok ps xs mus' h2
    · cases h
  | [], _ :: _, mus, h => by cases h
  | _ :: _, [], mus, h => by cases h
theorem arsOf_length : ∀ {ps : List PK} (i i' : Nat) (x : ParT ps), (arsOf ps i x).length = (arsOf ps i' x).length
  | [], _, _, _ => rfl
  | .v _ _ :: ps, i, i', x => by simp only [arsOf, List.length_cons]; rw [arsOf_length i i']
  | .p _ _ _ :: ps, i, i', x => by simp only [arsOf, List.length_cons]; rw [arsOf_length (i + 1) (i' + 1)]
  | .s _ _ :: ps, i, i', x => by simp only [arsOf, List.length_cons]; rw [arsOf_length (i + 1) (i' + 1)]
theorem parsK_ok : ∀ (ps : List PK) (xs : List Operand) (mus : List Mu) (k : ParT ps -> Option X), musK σ ps xs = some mus -> parsK σ ns ps xs mus k = some r -> ∃ x, k x = some r /\ MuRel mus (insOf ps x) /\ (arsOf ps 0 x).length = xs.length /\
    ∀ lab ρ a w lab' ρ', Rl w0 N lab ρ σ a w -> Sees ns lab lab' -> ∀ (ins : List In) (i : Nat), (∀ j z, (insOf ps x)[j]? = some z -> ins[i + j]? = some z) -> (∀ j mu, mus[j]? = some mu -> ρ' (nF (i + j)) = ρ mu.root) -> ArsOK w w.heap.size lab' ρ' ins (arsOf ps i x) (xs.map a.eval)
  | [], [], mus, k, hm, h => by
    injection hm with hm
    subst hm
    exact ⟨(), h, trivial, rfl, fun _ _ _ _ _ _ _ _ _ _ _ _ => trivial⟩
  | .v b t :: ps, x :: xs, mus, k, hm, h => by
    have hm' : musK σ ps xs = some mus := by
      unfold musK at hm
      split at hm
      · rename_i mu mus' h1 h2; exact (muK_ok h1).elim
      · rename_i mus' h1 h2; rw [h2]; exact hm
      · cases hm
    unfold parsK at h
    obtain ⟨p, h2, hp⟩ := argMK_ok (w0 := w0) (N := N) h
    cases hb : p.1 == b with
    | false => rw [hb] at h2; cases h2
    | true =>
      rw [hb, cond_true] at h2
      have hb : p.1 = b := by simpa using hb
      subst hb
      split at h2
      · rename_i y hy
        obtain ⟨ys, h3, h4, h5, h6⟩ := parsK_ok ps xs mus _ hm' h2
        refine ⟨(y, ys), h3, h4, ?_, fun lab ρ a w lab' ρ' hR hS ins i hi hρ => ⟨?_, h6 lab ρ a w lab' ρ' hR hS ins i hi hρ⟩⟩
        · simp [arsOf, h5]
        · have hpv := hp lab ρ a w lab' hR hS _ (hR.opd x)
          obtain ⟨us, hu, hs, hr⟩ := hpv
          have hk := dec_ok t 0 p.2 y hy
          have hcell : ∀ (j : Nat) z, (enc t 0 y)[j]? = some z -> ∃ v, us[j]? = some v /\ z.fro = true /\ RV w w.heap.size lab' [] z v := by
            intro j z hz
            have hj : j < p.2.length := by rw [hk.1]; exact (List.getElem?_eq_some_iff.1 hz).1
            obtain ⟨v, hv, hr'⟩ := hr j _ (List.getElem?_eq_getElem hj)
            exact ⟨v, hv, enc_fro t 0 y (by omega) j z hz, hr'.wk (hk.2 j _ z (List.getElem?_eq_getElem hj) hz)⟩
          have hlen : us.size = (enc t 0 y).length := hs.trans hk.1
          obtain ⟨b, vs⟩ := p
          cases b with
          | true =>
            show RA _ _ _ _ (.agg ((enc t 0 y).map .v)) _
            refine ⟨us, hu, by rw [List.length_map]; exact hlen, fun j z hz => ?_⟩
            rw [List.getElem?_map] at hz
            cases hz' : (enc t 0 y)[j]? with
            | none => rw [hz'] at hz; cases hz
            | some z' =>
              rw [hz'] at hz
              injection hz with hz
              subst hz
              obtain ⟨v, hv, g1, g2⟩ := hcell j z' hz'
              exact ⟨v, hv, g1, g2⟩
          | false =>
            have hu : us = #[a.eval x] := hu
            subst hu
            show RA _ _ _ _ (arA ins (.pt (false, enc t 0 y))) _
            match he : enc t 0 y, hcell, hlen with
            | [z], hcell, _ =>
              obtain ⟨v, hv, g1, g2⟩ := hcell 0 z rfl
              have : a.eval x = v := by simpa using hv
              rw [this]
              exact ⟨g1, g2⟩
            | [], _, _ => trivial
            | _ :: _ :: _, _, _ => trivial
      · cases h2
  | .p t g off :: ps, x :: xs, mus, k, hm, h => by
    unfold musK at hm
    split at hm
    · rename_i mu mus' h1 h2
      injection hm with hm
      subst hm
      have h1 := muK_ok h1
      cases mu with
      | sl => exact h1.elim
      | blk r cs vs =>
        have h1 : opd σ x = .bptr r off /\ MuOK σ (.blk r cs vs) := h1
        unfold parsK at h
        split at h
        · rename_i y hy
          cases hg : Nat.beq (g % 2) 0 with
          | false => rw [hg] at hy; cases hy
          | true =>
            rw [hg, cond_true] at hy
            obtain ⟨ys, h3, h4, h5, h6⟩ := parsK_ok ps xs mus' _ h2 h
            refine ⟨(y, ys), h3, ⟨⟨dec_ok t g _ y hy, evn_of hg⟩, h4⟩, by simp [arsOf, arsOf_length 1 0, h5], fun lab ρ a w lab' ρ' hR hS ins i hi hρ => ⟨?_, ?_⟩⟩
            · have hi0 := hi 0 _ rfl
              rw [Nat.add_zero] at hi0
              have hx := hR.opd x
              rw [h1.1] at hx
              obtain ⟨b, o, e1, e2⟩ := hx
              show RA _ _ _ _ (match ins[i]? with | some (.blk _) => .bptr (nF i) off | some (.sl _) => .lf (.own [nF i]) | none => .undef) _
              rw [hi0]
              have hr0 := hρ 0 _ rfl
              rw [Nat.add_zero] at hr0
              exact ⟨b, o, hr0.trans e1, e2⟩
            · refine h6 lab ρ a w lab' ρ' hR hS ins (i + 1) (fun j z hz => ?_) (fun j mu hmu => ?_)
              · rw [show i + 1 + j = i + (j + 1) by omega]
                exact hi (j + 1) z hz
              · rw [show i + 1 + j = i + (j + 1) by omega]
                exact hρ (j + 1) mu hmu
        · cases h
    · rename_i mus' h1 h2
      exact (muK_ok h1).elim
    · cases hm
  | .s t g :: ps, x :: xs, mus, k, hm, h => by
    unfold musK at hm
    split at hm
    · rename_i mu mus' h1 h2
      injection hm with hm
      subst hm
      have h1 := muK_ok h1
      cases mu with
      | blk => exact h1.elim
      | sl q y0 =>
        have h1 : opd σ x = .lf (.own [q]) /\ MuOK σ (.sl q y0) := h1
        unfold parsK at h
        split at h
        · rename_i y hy
          cases hg : Nat.beq (g % 2) 0 with
          | false => rw [hg] at hy; cases hy
          | true =>
            rw [hg, cond_true] at hy
            obtain ⟨ys, h3, h4, h5, h6⟩ := parsK_ok ps xs mus' _ h2 h
            refine ⟨(y, ys), h3, ⟨⟨V.asL_ok hy, ?_⟩, h4⟩, by simp [arsOf, arsOf_length 1 0, h5], fun lab ρ a w lab' ρ' hR hS ins i hi hρ => ⟨?_, ?_⟩⟩
            · show Nat.beq ((g + 2) % 2) 0 = true
              rw [show (g + 2) % 2 = g % 2 by omega]
              exact hg
            · have hi0 := hi 0 _ rfl
              rw [Nat.add_zero] at hi0
              have hx := hR.opd x
              rw [h1.1] at hx
              show RA _ _ _ _ (match ins[i]? with | some (.blk _) => .bptr (nF i) 0 | some (.sl _) => .lf (.own [nF i]) | none => .undef) _
              rw [hi0]
              have hr0 := hρ 0 _ rfl
              rw [Nat.add_zero] at hr0
              refine ⟨hx.1, ?_⟩
              have h2 := hx.2
              simp only [valAt] at h2 ⊢
              rw [hr0]
              exact h2
            · refine h6 lab ρ a w lab' ρ' hR hS ins (i + 1) (fun j z hz => ?_) (fun j mu hmu => ?_)
              · rw [show i + 1 + j = i + (j + 1) by omega]
                exact hi (j + 1) z hz
              · rw [show i + 1 + j = i + (j + 1) by omega]
                exact hρ (j + 1) mu hmu
        · cases h
    · rename_i mus' h1 h2
      exact (muK_ok h1).elim
    · cases hm
  | [], _ :: _, mus, k, hm, h => by cases hm
  | _ :: _, [], mus, k, hm, h => by cases hm
end
end Go.Proofs.YtckjagaogcbedaaGreat
namespace Go.Proofs.YtckjagaogcbedaaGreat
open Go.RowKit
set_option linter.unusedVariables false
def cellNms (c0 : Nat) : Nat -> List (V × Option Nat) -> List Nat
  | _, [] => []
  | n, (_, some q) :: vs => q :: cellNms c0 (n + 1) vs
  | n, (_, none) :: vs => (c0 + n) :: cellNms c0 (n + 1) vs
def nmsM (c0 : Nat) : Nat -> List Mu -> List Nat
  | _, [] => []
  | pos, .blk r _ vs :: mus => r :: (cellNms c0 (pos + 1) vs ++ nmsM c0 (pos + 1 + vs.length) mus)
  | pos, .sl q _ :: mus => q :: nmsM c0 (pos + 1) mus
def cnC : List Nat -> List V -> List Nat
  | n :: nms, x :: xs => bif x.fro then cnC nms xs else n :: cnC nms xs
  | _, _ => []
def cnM (c0 : Nat) : Nat -> List Mu -> List In -> List Nat
  | pos, .blk _ _ vs :: mus, .blk xs :: outs => cnC (cellNms c0 (pos + 1) vs) xs ++ cnM c0 (pos + 1 + vs.length) mus outs
  | pos, .sl _ _ :: mus, .sl _ :: outs => cnM c0 (pos + 1) mus outs
  | _, _, _ => []
def newLs (ns cn : List Nat) : List Nat -> List Lf -> List V -> List Lf
  | n :: nms, l :: ls, x :: xs => (bif x.plain then .v x else bif x.fro then l.lose ns cn else .own [n]) :: newLs ns cn nms ls xs
  | _, _, _ => []
def newRs : List Nat -> List V -> List (Nat × Root)
  | n :: nms, x :: xs => bif x.fro then newRs nms xs else (n, .sl x) :: newRs nms xs
  | _, _ => []
def nrM (ns cn : List Nat) (c0 : Nat) : Nat -> List Mu -> List In -> List (Nat × Root)
  | pos, .blk r cs vs :: mus, .blk xs :: outs => (r, .blk (newLs ns cn (cellNms c0 (pos + 1) vs) cs xs)) :: (newRs (cellNms c0 (pos + 1) vs) xs ++ nrM ns cn c0 (pos + 1 + vs.length) mus outs)
  | pos, .sl q _ :: mus, .sl y :: outs => (q, .sl y) :: nrM ns cn c0 (pos + 1) mus outs
  | _, _, _ => []
def nodupB : List Nat -> Bool
  | [] => true
  | n :: l => !memB n l && nodupB l
def locIn : In -> Bool
  | .blk xs => xs.all fun x => x.fro || x.loc
  | .sl y => y.loc
def c0Of : Option Tmp -> Nat
  | some d => 1000000000100000 + 1000 * d
  | none => 90000
def resK {X : Type} (N : Nat) (σ : S) (dst : Option Tmp) (res : Res) (k : S -> Option X) : Option X :=
  match dst with
  | none => k σ
  | some d => bif Nat.blt d N then (match res with
    | .one p => (match partA (p.1, resLf (1000000000100000 + 1000 * d) p.2) with
      | some y => k ((resRt (1000000000100000 + 1000 * d) σ p.2).set d y)
      | none => none)
    | .tup ps => k ((resRs (1000000000100000 + 1000 * d) σ ps).set d (.tup (resLs (1000000000100000 + 1000 * d) ps)))) else none
def okAft (N : Nat) (mus : List Mu) (outs : List In) (cn : List Nat) : Bool :=
  nodupB cn && (mus.all fun mu => !memB mu.root cn) && (cn.all fun n => Nat.blt n N || Nat.ble 60000 n) && outs.all locIn
def aftK {X : Type} (N : Nat) (σ : S) (dst : Option Tmp) (mus : List Mu) (ns cn : List Nat) (res : Res) (outs : List In) (k : S -> Option X) : Option X :=
  bif okAft N mus outs cn then resK N (σ.lose ns cn (nrM ns cn (c0Of dst) res.len mus outs)) dst res k else none
def callMK {X : Type} (N : Nat) (σ : S) (dst : Option Tmp) (c : CtrM) (args : List Operand) (k : S -> Option X) : Option X :=
  match musK σ c.ps args with
  | some mus => bif once (renM 0 mus) && Nat.ble mus.length 40 then
      parsK σ ((renM 0 mus).map (·.1)) c.ps args mus fun x => (match c.F x with
        | some y => aftK N σ dst mus ((renM 0 mus).map (·.1)) (cnM (c0Of dst) (resMk c.ro y.1).len mus (insMk (mutT c.ps) y.2)) (resMk c.ro y.1) (insMk (mutT c.ps) y.2) k
        | none => none) else none
  | none => none
section
variable {P : Program} {w w' : World} {w0 : Wd} {B N : Nat} {lab lab2 lab' : Lab} {ρ ρ2 ρ' : Nat -> Loc} {σ : S} {a : Act} {X : Type} {d : Nat} {r : X} {ns cn : List Nat} {o : Oper} {rs : List Nat} {ren : List (Nat × Nat)}
theorem lookup_none {n : Nat} : ∀ {l : List (Nat × Nat)}, memB n (l.map (·.1)) = false -> l.lookup n = none
  | [], _ => rfl
  | p :: l, h => by
    simp only [List.map_cons, memB, Bool.or_eq_false_iff] at h
    rw [List.lookup_cons]
    have : (n == p.1) = false := by
      cases hb : n == p.1 with
      | false => rfl
      | true =>
        have e : n = p.1 := by simpa using hb
        have h1 := h.1
        rw [<- e, Nat.beq_refl] at h1
        cases h1
    rw [this]
    exact lookup_none h.2
theorem relab_some {b : Nat} {k : List Nat} {n m : Nat} (h : lab b = some k) (hk : k.getLast? = some n) (hm : ren.lookup n = some m) : relab lab ren id b = some (k.dropLast ++ [m]) := by
  simp [relab, h, hk, hm]
theorem sees_relab (hne : ∀ b k, lab b = some k -> k ≠ []) : Sees (ren.map (·.1)) lab (relab lab ren id) := by
  refine ⟨fun b h => relab_none h, fun b k h => ⟨hne b k h, fun hl => ?_⟩⟩
  simp only [relab, h]
  cases hk : k.getLast? with
  | none => rfl
  | some n =>
    simp only [lastB, hk] at hl
    simp [lookup_none hl]
theorem giveCs_ok {m : Nat -> Option Root} : ∀ (cs : List Lf) (vs : List (V × Option Nat)), giveCs m cs = some vs -> vs.length = cs.length /\ ∀ (j : Nat) l, cs[j]? = some l -> ∃ v, vs[j]? = some v /\ giveC m l = some v
  | [], vs, h => by injection h with h; subst h; exact ⟨rfl, fun j l hl => by simp at hl⟩
  | c :: cs, vs, h => by
    unfold giveCs at h
    split at h
    · rename_i v vs' h1 h2
      injection h with h
      subst h
      obtain ⟨k1, k2⟩ := giveCs_ok cs vs' h2
      refine ⟨by simp [k1], fun j l hl => ?_⟩
      cases j with
      | zero => simp at hl; subst hl; exact ⟨v, rfl, h1⟩
      | succ j => exact k2 j l (by simpa using hl)
    · cases h
theorem giveC_ok {l : Lf} {v : V} {qo : Option Nat} (h : giveC σ.m l = some (v, qo)) (hR : Rl w0 N lab ρ σ a w) (hS : Sees ns lab lab') {u : Value} (hu : RLf w w0.heap.size lab ρ l u) :
    (qo = none /\ ∀ B' q', RV w B' lab' q' v u) \/ (∃ q, qo = some q /\ v.fro = false /\ RV w w0.heap.size lab [q] v u) := by
  unfold giveC at h
  split at h
  · simp only [Option.some.injEq, Prod.mk.injEq] at h
    obtain ⟨rfl, rfl⟩ := h
    exact .inl ⟨rfl, fun B' q' => hu.2.out hS.none hS.rest (.inl hu.1)⟩
  · rename_i q
    split at h
    · rename_i y hy
      have hro := hR.root q _ hy
      generalize hx : Root.sl y = x at hro
      cases hro with
      | blk => cases hx
      | mp => cases hx
      | gh => cases hx
      | sl v' y' hρ hr =>
        injection hx with hx
        subst hx
        have huv : v' = u := by
          have h2 := hu.2
          simp only [valAt, hρ] at h2
          injection h2
        subst huv
        cases hf : y.fro with
        | true =>
          rw [hf, cond_true] at h
          simp only [Option.some.injEq, Prod.mk.injEq] at h
          obtain ⟨rfl, rfl⟩ := h
          exact .inl ⟨rfl, fun B' q' => hr.out hS.none hS.rest (.inl hf)⟩
        | false =>
          rw [hf, cond_false] at h
          simp only [Option.some.injEq, Prod.mk.injEq] at h
          obtain ⟨rfl, rfl⟩ := h
          exact .inr ⟨q, rfl, hf, hr⟩
    · cases h
  · cases h
theorem renC_mem {i : Nat} {v : V} {q : Nat} : ∀ (vs : List (V × Option Nat)) (j0 j : Nat), vs[j]? = some (v, some q) -> (q, 60000 + 1000 * i + (j0 + j)) ∈ renC i j0 vs
  | [], j0, j, h => by simp at h
  | (v', qo) :: vs, j0, j, h => by
    cases j with
    | zero =>
      simp at h
      obtain ⟨rfl, rfl⟩ := h
      exact .head _
    | succ j =>
      have := renC_mem (i := i) vs (j0 + 1) j (by simpa using h)
      rw [show j0 + 1 + j = j0 + (j + 1) by omega] at this
      cases qo with
      | none => exact this
      | some q' => exact .tail _ this
theorem inLfs_length {i : Nat} : ∀ (cs : List V) (j0 : Nat), (inLfs i j0 cs).length = cs.length
  | [], _ => rfl
  | c :: cs, j0 => by simp [inLfs, inLfs_length cs]
theorem RV.isSl {q : List Nat} {x : V} {u : Value} (h : RV w B lab q x u) (hp : x.plain = false) (hn : x.nonnil = true) : isSl u = true := by
  cases h <;> first | rfl | cases hp | cases hn
theorem Wk.fro_eq {x y : V} (h : Wk x y) (hx : x.fro = false) : y.fro = false := by
  cases h with
  | same => exact hx
  | nil => cases hx
  | q => exact hx
  | gr t o o' qn l h1 h2 => simp [V.fro]; omega
theorem ent_ok (hR : Rl w0 N lab ρ σ a w) (hS : Sees ns lab (relab lab ren id)) : ∀ (mus : List Mu) (ins : List In) (i : Nat), (∀ p ∈ renM i mus, ren.lookup p.1 = some p.2) -> (∀ j mu, mus[j]? = some mu -> rs[i + j]? = some mu.root) -> (∀ mu ∈ mus, MuOK σ mu) -> MuRel mus ins -> i + mus.length <= 40 ->
    EntR w w.heap.size (relab lab ren id) (rhoC w ρ rs) i ins
  | [], [], _, _, _, _, _, _ => trivial
  | [], _ :: _, _, _, _, _, h, _ => h.elim
  | .blk _ _ _ :: _, [], _, _, _, _, h, _ => h.elim
  | .sl _ _ :: _, [], _, _, _, _, h, _ => h.elim
  | .blk _ _ _ :: _, .sl _ :: _, _, _, _, _, h, _ => h.elim
  | .sl _ _ :: _, .blk _ :: _, _, _, _, _, h, _ => h.elim
  | .blk r cs vs :: mus, .blk xs :: ins, i, hren, hrs, hmu, hrel, hi => by
    obtain ⟨hm, hg, hlen⟩ := hmu _ (.head _)
    obtain ⟨⟨hw, hx⟩, hrel'⟩ := hrel
    obtain ⟨g1, g2⟩ := giveCs_ok cs vs hg
    have hl0 := hrs 0 _ rfl
    rw [Nat.add_zero] at hl0
    simp only [List.length_cons] at hi
    have hxs : xs.length = cs.length := by rw [<- hw.1, List.length_map, g1]
    have hro := hR.root r _ hm
    generalize hz : Root.blk cs = z at hro
    cases hro with
    | sl => cases hz
    | mp => cases hz
    | gh => cases hz
    | blk b off cells e cs' us hρ hl hh hs hc =>
      injection hz with hz
      subst hz
      have hcell : ∀ (j : Nat) x, xs[j]? = some x -> cells[off + j]? = some (us j) /\ RV w w.heap.size (relab lab ren id) [nC i j x] x (us j) /\ (x.plain = false -> rhoC w ρ rs (nC i j x) = .hdr (us j)) := by
        intro j x hj
        have hjl : j < cs.length := by rw [<- hxs]; exact (List.getElem?_eq_some_iff.1 hj).1
        obtain ⟨v, hv, hgv⟩ := g2 j _ (List.getElem?_eq_getElem hjl)
        obtain ⟨c1, c2⟩ := hc j _ (List.getElem?_eq_getElem hjl)
        obtain ⟨v, qo⟩ := v
        have hwk : Wk v x := hw.2 j v x (by rw [List.getElem?_map, hv]; rfl) hj
        obtain ⟨hx1, hx2⟩ := hx x (List.mem_of_getElem? hj)
        refine ⟨c1, ?_, fun hp => ?_⟩
        · rcases giveC_ok hgv hR hS c2 with ⟨rfl, h1⟩ | ⟨q, rfl, hf, h1⟩
          · exact (h1 _ _).wk hwk
          · have hfx := hwk.fro_eq hf
            have hq := hren (q, 60000 + 1000 * i + (0 + j)) (.tail _ (List.mem_append_left _ (renC_mem vs 0 j hv)))
            rw [Nat.zero_add] at hq
            have h2 := (RV.relab (nm := id) (p := []) h1 hq).wk hwk
            have e1 : nC i j x = 60000 + 1000 * i + j := by simp [nC, hfx]
            rw [e1]
            exact h2.reB hx2
        · exact rhoC_nC hl0 (by omega) (by omega) hρ (by rw [cell_of_row w b _ cells _ _ hh]; exact c1)
      refine ⟨.blk b off cells e _ us ((rhoC_nF hl0 (by omega)).trans hρ) ?_ hh (by rw [inLfs_length, hxs]; exact hs) (fun j z hz => ?_), fun j x hj hp => ?_, ent_ok hR hS mus ins (i + 1) (fun p hp => hren p (.tail _ (List.mem_append_right _ hp))) (fun j mu hmu' => ?_) (fun mu h => hmu mu (.tail _ h)) hrel' (by omega)⟩
      · exact relab_some hl rfl (hren _ (.head _))
      · have hj : j < xs.length := by rw [<- inLfs_length (i := i) xs 0]; exact (List.getElem?_eq_some_iff.1 hz).1
        have hz2 := inLfs_get (i := i) xs 0 j _ (List.getElem?_eq_getElem hj)
        rw [hz] at hz2
        injection hz2 with hz2
        subst hz2
        rw [Nat.zero_add]
        obtain ⟨c1, c2, c3⟩ := hcell j _ (List.getElem?_eq_getElem hj)
        refine ⟨c1, ?_⟩
        cases hp : (xs[j]).plain with
        | true =>
          have e1 : inLf i j xs[j] = .v xs[j] := by simp [inLf, hp]
          rw [e1]
          exact ⟨V.plain_fro hp, c2.plain_any hp⟩
        | false =>
          have e1 : inLf i j xs[j] = .own [nC i j xs[j]] := by simp [inLf, hp]
          rw [e1]
          exact ⟨c2.isSl hp (hx _ (List.getElem_mem _)).1, by simp only [valAt, c3 hp]⟩
      · obtain ⟨c1, c2, c3⟩ := hcell j x hj
        exact .sl _ x (c3 hp) c2
      · have := hrs (j + 1) mu (by simpa using hmu')
        rw [show i + (j + 1) = i + 1 + j by omega] at this
        exact this
  | .sl q y :: mus, .sl y' :: ins, i, hren, hrs, hmu, hrel, hi => by
    obtain ⟨hm, hf⟩ := hmu _ (.head _)
    obtain ⟨⟨hw, hx⟩, hrel'⟩ := hrel
    have hl0 := hrs 0 _ rfl
    rw [Nat.add_zero] at hl0
    simp only [List.length_cons] at hi
    have hro := hR.root q _ hm
    generalize hz : Root.sl y = z at hro
    cases hro with
    | blk => cases hz
    | mp => cases hz
    | gh => cases hz
    | sl v y0 hρ hr =>
      injection hz with hz
      subst hz
      refine ⟨.sl v y' ((rhoC_nF hl0 (by omega)).trans hρ) ?_, ent_ok hR hS mus ins (i + 1) (fun p hp => hren p (.tail _ hp)) (fun j mu hmu' => ?_) (fun mu h => hmu mu (.tail _ h)) hrel' (by omega)⟩
      · exact ((RV.relab (nm := id) (p := []) hr (hren _ (.head _))).wk hw).reB hx
      · have := hrs (j + 1) mu (by simpa using hmu')
        rw [show i + (j + 1) = i + 1 + j by omega] at this
        exact this
end
end Go.Proofs.YtckjagaogcbedaaGreat
namespace Go.Proofs.YtckjagaogcbedaaGreat
open Go.RowKit
set_option linter.unusedVariables false
def locP : Loc -> Nat × Nat
  | .blk b off => (b, off)
  | .hdr _ => (0, 0)
  | .vals _ => (0, 0)
def hdC (w : World) (b off : Nat) : Nat -> List Nat -> List V -> List (Nat × Value)
  | j, n :: nms, x :: xs => bif x.fro then hdC w b off (j + 1) nms xs else (n, (w.cell? ⟨b, off + j, none⟩).getD undef) :: hdC w b off (j + 1) nms xs
  | _, _, _ => []
def hdM (w : World) (ρ : Nat -> Loc) (c0 : Nat) : Nat -> List Mu -> List In -> List (Nat × Value)
  | pos, .blk r _ vs :: mus, .blk xs :: outs => hdC w (locP (ρ r)).1 (locP (ρ r)).2 0 (cellNms c0 (pos + 1) vs) xs ++ hdM w ρ c0 (pos + 1 + vs.length) mus outs
  | pos, .sl _ _ :: mus, .sl _ :: outs => hdM w ρ c0 (pos + 1) mus outs
  | _, _, _ => []
def rho2 (l : List (Nat × Value)) (ρ : Nat -> Loc) : Nat -> Loc := fun n => match l.lookup n with
  | some v => .hdr v
  | none => ρ n
theorem hdC_keys {w : World} {b off : Nat} : ∀ (nms : List Nat) (xs : List V) (j : Nat), (hdC w b off j nms xs).map (·.1) = cnC nms xs
  | [], [], _ => rfl
  | [], _ :: _, _ => rfl
  | _ :: _, [], _ => rfl
  | n :: nms, x :: xs, j => by
    simp only [hdC, cnC]
    cases x.fro with
    | true => exact hdC_keys nms xs (j + 1)
    | false => simp only [cond_false, List.map_cons]; rw [hdC_keys nms xs (j + 1)]
theorem hdM_keys {w : World} {ρ : Nat -> Loc} {c0 : Nat} : ∀ (mus : List Mu) (outs : List In) (pos : Nat), (hdM w ρ c0 pos mus outs).map (·.1) = cnM c0 pos mus outs
  | .blk r _ vs :: mus, .blk xs :: outs, pos => by
    simp only [hdM, cnM, List.map_append]
    rw [hdC_keys, hdM_keys mus outs]
  | .sl _ _ :: mus, .sl _ :: outs, pos => by
    simp only [hdM, cnM]
    exact hdM_keys mus outs _
  | [], _, _ => by simp [hdM, cnM]
  | .blk _ _ _ :: _, [], _ => rfl
  | .sl _ _ :: _, [], _ => rfl
  | .blk _ _ _ :: _, .sl _ :: _, _ => rfl
  | .sl _ _ :: _, .blk _ :: _, _ => rfl
theorem lookupV_none {n : Nat} : ∀ {l : List (Nat × Value)}, memB n (l.map (·.1)) = false -> l.lookup n = none
  | [], _ => rfl
  | p :: l, h => by
    simp only [List.map_cons, memB, Bool.or_eq_false_iff] at h
    rw [List.lookup_cons]
    cases hb : n == p.1 with
    | false => exact lookupV_none h.2
    | true =>
      have e : n = p.1 := by simpa using hb
      have h1 := h.1
      rw [<- e, Nat.beq_refl] at h1
      cases h1
theorem lookupV_mem : ∀ {l : List (Nat × Value)}, nodupB (l.map (·.1)) = true -> ∀ p ∈ l, l.lookup p.1 = some p.2
  | [], _, p, hp => by cases hp
  | q :: l, h, p, hp => by
    simp only [List.map_cons, nodupB, Bool.and_eq_true, Bool.not_eq_true'] at h
    rw [List.lookup_cons]
    rcases List.mem_cons.1 hp with rfl | hp
    · simp
    · cases hb : p.1 == q.1 with
      | false => exact lookupV_mem h.2 p hp
      | true =>
        have e : p.1 = q.1 := by simpa using hb
        exact absurd (List.mem_map_of_mem (f := (·.1)) hp) (by rw [e]; exact memB_not h.1)
theorem cellNms_length {c0 : Nat} : ∀ (vs : List (V × Option Nat)) (n : Nat), (cellNms c0 n vs).length = vs.length
  | [], _ => rfl
  | (_, some _) :: vs, n => by simp [cellNms, cellNms_length vs]
  | (_, none) :: vs, n => by simp [cellNms, cellNms_length vs]
theorem newLs_get {ns cn : List Nat} : ∀ (nms : List Nat) (ls : List Lf) (xs : List V), nms.length = ls.length -> xs.length = ls.length -> (newLs ns cn nms ls xs).length = ls.length /\
    ∀ (j : Nat) z, (newLs ns cn nms ls xs)[j]? = some z -> ∃ n l x, nms[j]? = some n /\ ls[j]? = some l /\ xs[j]? = some x /\ z = (bif x.plain then .v x else bif x.fro then l.lose ns cn else .own [n])
  | [], [], [], _, _ => ⟨rfl, fun j z hz => by simp [newLs] at hz⟩
  | n :: nms, l :: ls, x :: xs, h1, h2 => by
    obtain ⟨k1, k2⟩ := newLs_get (ns := ns) (cn := cn) nms ls xs (by simpa using h1) (by simpa using h2)
    refine ⟨by simp [newLs, k1], fun j z hz => ?_⟩
    cases j with
    | zero => simp only [newLs, List.getElem?_cons_zero, Option.some.injEq] at hz; exact ⟨n, l, x, rfl, rfl, rfl, hz.symm⟩
    | succ j => exact k2 j z (by simpa [newLs] using hz)
  | [], _ :: _, _, h1, _ => by simp at h1
  | _ :: _, [], _, h1, _ => by simp at h1
  | _ :: _, _ :: _, [], _, h2 => by simp at h2
  | [], [], _ :: _, _, h2 => by simp at h2
theorem newRs_mem : ∀ (nms : List Nat) (xs : List V), ∀ p ∈ newRs nms xs, ∃ (j : Nat) (x : V), nms[j]? = some p.1 /\ xs[j]? = some x /\ x.fro = false /\ p.2 = .sl x
  | [], [], p, hp => by cases hp
  | [], _ :: _, p, hp => by cases hp
  | _ :: _, [], p, hp => by cases hp
  | n :: nms, x :: xs, p, hp => by
    simp only [newRs] at hp
    have rest : p ∈ newRs nms xs -> ∃ (j : Nat) (y : V), (n :: nms)[j]? = some p.1 /\ (x :: xs)[j]? = some y /\ y.fro = false /\ p.2 = .sl y := fun hp => by
      obtain ⟨j, y, h1, h2, h3, h4⟩ := newRs_mem nms xs p hp
      exact ⟨j + 1, y, by simpa using h1, by simpa using h2, h3, h4⟩
    cases hf : x.fro with
    | true => rw [hf] at hp; exact rest hp
    | false =>
      rw [hf, cond_false] at hp
      rcases List.mem_cons.1 hp with rfl | hp
      · exact ⟨0, x, rfl, rfl, hf, rfl⟩
      · exact rest hp
theorem hdC_mem {w : World} {b off n : Nat} {x : V} : ∀ (nms : List Nat) (xs : List V) (j0 j : Nat), nms[j]? = some n -> xs[j]? = some x -> x.fro = false -> (n, (w.cell? ⟨b, off + (j0 + j), none⟩).getD undef) ∈ hdC w b off j0 nms xs
  | [], _, _, j, h, _, _ => by simp at h
  | _ :: _, [], _, j, _, h, _ => by simp at h
  | m :: nms, y :: xs, j0, j, h1, h2, hf => by
    cases j with
    | zero =>
      simp at h1 h2
      subst h1 h2
      simp only [hdC, hf, cond_false]
      exact .head _
    | succ j =>
      have := hdC_mem (w := w) (b := b) (off := off) nms xs (j0 + 1) j (by simpa using h1) (by simpa using h2) hf
      rw [show j0 + 1 + j = j0 + (j + 1) by omega] at this
      simp only [hdC]
      cases y.fro with
      | true => exact this
      | false => exact .tail _ this
section
variable {P : Program} {w w' : World} {w0 : Wd} {B N : Nat} {lab lab2 lab' : Lab} {ρ ρ2 ρ' : Nat -> Loc} {σ : S} {a : Act} {X : Type} {d : Nat} {r : X} {ns cn : List Nat} {o : Oper} {rs : List Nat} {ren : List (Nat × Nat)} {nm nm' : Nat -> Nat} {c0 : Nat}
theorem RV.home2 {q : List Nat} {x : V} {v : Value} (h : RV w B lab q x v) {B' : Nat} (hB : B' <= B) (hl : ∀ b, B <= b -> lab' b = lab b) (hg : ∀ b k, lab b = some k -> lab' b = some k) (hx : x.loc = true) : RV w B' lab' q x v := by
  induction h with
  | int => exact .int _ _ _
  | bool => exact .bool _ _
  | str => exact .str _ _
  | nil => exact .nil _
  | slNil => exact .slNil _ _ _
  | slEmp => exact .slEmp _ _ _ _ _ (by first | assumption | omega)
  | slNon => exact .slNon _ _ _ _ _ (by first | assumption | omega)
  | fro q t o qn l b off cap u ho hlb hb h1 hcap hc hr ih =>
    have ho1 : o = 1 := by
      match o, ho, hx with
      | 0, _, hx => cases hx
      | 1, _, _ => rfl
      | n + 2, ho, _ => omega
    subst ho1
    have hBb := h1 rfl
    refine .fro _ _ _ _ _ _ _ _ u ho ((hl b hBb).trans hlb) hb (fun _ => Nat.le_trans hB hBb) hcap hc (fun i h j x hx' => ih i h j x hx' ?_)
    have := enc_gr t 1 l[i] x (List.mem_of_getElem? hx')
    cases x with
    | sl t' o' q' l' =>
      have : o' = 1 := by simpa [V.gr] using this
      subst this
      rfl
    | _ => rfl
  | own q t o qn l b cap cs u hlb hh hs hn hm hc hr ih =>
    exact .own _ _ _ _ _ _ _ cs u (hg b q hlb) hh hs hn hm hc (fun i h j x hx' => ih i h j x hx' (loc_inner hx l[i] x (List.mem_of_getElem? hx')))
theorem ResL.home2 {nm : Nat -> Nat} : ∀ (ps : List Pt) (off : Nat) (vs : List Value) {B' : Nat}, ResL w B lab nm off ps vs -> B' <= B -> (∀ b, B <= b -> lab' b = lab b) -> (∀ b k, lab b = some k -> lab' b = some k) -> (∀ n, off <= n -> n < off + (ps.map fun p => p.2.length).sum -> nm n = nm' n) -> ResL w B' lab' nm' off ps vs
  | [], _, [], _, h, _, _, _, _ => h
  | [], _, _ :: _, _, h, _, _, _, _ => h
  | _ :: _, _, [], _, h, _, _, _, _ => h
  | p :: ps, off, v :: vs, B', h, hB, hl, hg, hn => by
    obtain ⟨⟨hloc, us, hu, hs, hr⟩, hrest⟩ := h
    simp only [List.map_cons, List.sum_cons] at hn
    refine ⟨⟨hloc, us, hu, hs, fun j x hx => ?_⟩, ResL.home2 ps _ vs hrest hB hl hg (fun n h1 h2 => hn n (by omega) (by omega))⟩
    obtain ⟨v', hv', hr'⟩ := hr j x hx
    have hj : j < p.2.length := (List.getElem?_eq_some_iff.1 hx).1
    refine ⟨v', hv', ?_⟩
    show RV w B' lab' [nm' (off + j)] x v'
    rw [<- hn (off + j) (by omega) (by omega)]
    exact hr'.home2 hB hl hg (List.all_eq_true.1 hloc x (List.mem_of_getElem? hx))
theorem outs_ok (hR : Rl w0 N lab ρ σ a w) (hv : Hav w w' lab lab2 ρ ρ2 ns cn) (hlab : ∀ b k, lab' b = some k -> lab2 b = some k) (hge : ∀ b, w.heap.size <= b -> lab2 b = lab' b) (hB : w0.heap.size <= w.heap.size) :
    ∀ (mus : List Mu) (ins outs : List In) (i pos : Nat), (∀ j mu, mus[j]? = some mu -> rs[i + j]? = some mu.root) -> (∀ mu ∈ mus, MuOK σ mu) -> MuRel mus ins -> i + mus.length <= 40 -> OutsT w w' lab' (rhoC w ρ rs) nm i pos ins outs ->
    (∀ k n, (nmsM c0 pos mus)[k]? = some n -> nm (pos + k) = n) -> (∀ p ∈ hdM w' ρ c0 pos mus outs, ρ2 p.1 = .hdr p.2) -> (∀ mu ∈ mus, memB mu.root cn = false) -> outs.all locIn = true -> ∀ p ∈ nrM ns cn c0 pos mus outs, RootOK w' w0.heap.size lab2 ρ2 p.1 p.2
  | [], [], [], _, _, _, _, _, _, _, _, _, _, _, p, hp => by simp [nrM] at hp
  | [], [], _ :: _, _, _, _, _, _, _, h, _, _, _, _, _, _ => h.elim
  | [], _ :: _, _, _, _, _, _, h, _, _, _, _, _, _, _, _ => h.elim
  | .blk _ _ _ :: _, [], _, _, _, _, _, h, _, _, _, _, _, _, _, _ => h.elim
  | .sl _ _ :: _, [], _, _, _, _, _, h, _, _, _, _, _, _, _, _ => h.elim
  | .blk _ _ _ :: _, .sl _ :: _, _, _, _, _, _, h, _, _, _, _, _, _, _, _ => h.elim
  | .sl _ _ :: _, .blk _ :: _, _, _, _, _, _, h, _, _, _, _, _, _, _, _ => h.elim
  | .blk _ _ _ :: _, .blk _ :: _, [], _, _, _, _, _, _, h, _, _, _, _, _, _ => h.elim
  | .sl _ _ :: _, .sl _ :: _, [], _, _, _, _, _, _, h, _, _, _, _, _, _ => h.elim
  | .blk _ _ _ :: _, .blk _ :: _, .sl _ :: _, _, _, _, _, _, _, h, _, _, _, _, _, _ => h.elim
  | .sl _ _ :: _, .sl _ :: _, .blk _ :: _, _, _, _, _, _, _, h, _, _, _, _, _, _ => h.elim
  | .blk r cs vs :: mus, .blk xs0 :: ins, .blk xs :: outs, i, pos, hrs, hmu, hrel, hi, hO, hnm, hhd, hcn, hloc, p, hp => by
    obtain ⟨hm, hg, hlen⟩ := hmu _ (.head _)
    obtain ⟨⟨hw, hx⟩, hrel'⟩ := hrel
    obtain ⟨g1, g2⟩ := giveCs_ok cs vs hg
    have hl0 := hrs 0 _ rfl
    rw [Nat.add_zero] at hl0
    simp only [List.length_cons] at hi
    have hxs0 : xs0.length = cs.length := by rw [<- hw.1, List.length_map, g1]
    obtain ⟨⟨b, off, cells, cells', e, e', h1, h2, h3, h4, h5, h6, h7⟩, hO'⟩ := hO
    have hro := hR.root r _ hm
    generalize hz : Root.blk cs = z at hro
    cases hro with
    | sl => cases hz
    | mp => cases hz
    | gh => cases hz
    | blk b0 off0 cells0 e0 cs' us hρ hl hh hs hc =>
      injection hz with hz
      subst hz
      rw [rhoC_nF hl0 (by omega)] at h1
      have h1 : ρ r = .blk b off := h1
      rw [hρ] at h1
      injection h1 with e1 e2
      subst e1 e2
      have ecells : cells0 = cells := by
        rw [hh] at h2
        injection h2 with h2
        injection h2
      subst ecells
      have hr0 := hcn _ (.head _)
      have hρ2 : ρ2 r = .blk b0 off0 := (hv.rho r hr0).trans hρ
      have hpos : nm pos = r := by have := hnm 0 r rfl; rwa [Nat.add_zero] at this
      have hnms : ∀ (j : Nat) n, (cellNms c0 (pos + 1) vs)[j]? = some n -> nm (pos + 1 + j) = n := by
        intro j n hn
        have hj : j < (cellNms c0 (pos + 1) vs).length := (List.getElem?_eq_some_iff.1 hn).1
        have := hnm (j + 1) n (by simp only [nmsM, List.getElem?_cons_succ]; rw [List.getElem?_append_left hj]; exact hn)
        rw [show pos + 1 + j = pos + (j + 1) by omega]
        exact this
      have hcell : ∀ (j : Nat) x, xs[j]? = some x -> ∃ u, cells'[off0 + j]? = some u /\ w'.cell? ⟨b0, off0 + j, none⟩ = some u /\ ((x.plain = true /\ ∀ (w : World) (B : Nat) (lab : Lab) (q : List Nat), RV w B lab q x u) \/ (x.plain = false /\ x.fro = true /\ cells0[off0 + j]? = some u) \/ (x.fro = false /\ RV w' w.heap.size lab' [nm (pos + 1 + j)] x u)) := by
        intro j x hj
        obtain ⟨u, hu, hd⟩ := h7 j x hj
        exact ⟨u, hu, by rw [cell_of_row w' b0 _ cells' _ _ h3]; exact hu, hd⟩
      have hown : ∀ (j : Nat) n x u, (cellNms c0 (pos + 1) vs)[j]? = some n -> xs[j]? = some x -> x.fro = false -> w'.cell? ⟨b0, off0 + j, none⟩ = some u -> ρ2 n = .hdr u := by
        intro j n x u hn hxj hf hu
        have hmem := hdC_mem (w := w') (b := b0) (off := off0) _ xs 0 j hn hxj hf
        rw [Nat.zero_add, hu] at hmem
        exact hhd (n, u) (by simp only [hdM, hρ, locP]; exact List.mem_append_left _ hmem)
      simp only [nrM] at hp
      rcases List.mem_cons.1 hp with rfl | hp
      · obtain ⟨k1, k2⟩ := newLs_get (ns := ns) (cn := cn) (cellNms c0 (pos + 1) vs) cs xs (by rw [cellNms_length, g1]) (by rw [h6, hxs0])
        refine .blk b0 off0 cells' e' _ (fun j => cells'.getD (off0 + j) undef) hρ2 (hlab _ _ (by rw [h4, hpos])) h3 (by show off0 + (newLs _ _ _ _ _).length <= _; rw [k1, <- hxs0, <- h6]; exact h5) (fun j z hz => ?_)
        obtain ⟨n, l, x, n1, n2, n3, rfl⟩ := k2 j z hz
        obtain ⟨u, hu, hcu, hd⟩ := hcell j x n3
        have eu : cells'.getD (off0 + j) undef = u := by rw [Array.getD_eq_getD_getElem?, hu]; rfl
        rw [eu]
        refine ⟨hu, ?_⟩
        rcases hd with ⟨d1, d2⟩ | ⟨d1, d2, d3⟩ | ⟨d1, d2⟩
        · rw [d1, cond_true]
          exact ⟨V.plain_fro d1, d2 _ _ _ _⟩
        · rw [d1, d2, cond_false, cond_true]
          obtain ⟨c1, c2⟩ := hc j l n2
          rw [c1] at d3
          injection d3 with d3
          rw [<- d3]
          exact c2.hav hv
        · have hp0 : x.plain = false := by
            cases hp0 : x.plain with
            | false => rfl
            | true => rw [V.plain_fro hp0] at d1; cases d1
          rw [hp0, d1, cond_false, cond_false]
          exact ⟨d2.notfro d1, by simp only [valAt, hown j n x u n1 n3 d1 hcu]⟩
      · rcases List.mem_append.1 hp with hp | hp
        · obtain ⟨j, x, n1, n2, n3, n4⟩ := newRs_mem _ _ p hp
          obtain ⟨u, hu, hcu, hd⟩ := hcell j x n2
          rw [n4]
          refine .sl u x (hown j p.1 x u n1 n2 n3 hcu) ?_
          rcases hd with ⟨d1, d2⟩ | ⟨d1, d2, d3⟩ | ⟨d1, d2⟩
          · exact d2 _ _ _ _
          · rw [n3] at d2; cases d2
          · rw [hnms j _ n1] at d2
            refine d2.home2 hB hge hlab ?_
            rw [List.all_cons, Bool.and_eq_true] at hloc
            have := List.all_eq_true.1 hloc.1 x (List.mem_of_getElem? n2)
            rwa [n3, Bool.false_or] at this
        · rw [List.all_cons, Bool.and_eq_true] at hloc
          refine outs_ok hR hv hlab hge hB mus ins outs (i + 1) (pos + 1 + vs.length) (fun j mu hmu' => ?_) (fun mu h => hmu mu (.tail _ h)) hrel' (by omega) ?_ (fun k n hn => ?_) (fun p hp => hhd p ?_) (fun mu h => hcn mu (.tail _ h)) hloc.2 p hp
          · have := hrs (j + 1) mu (by simpa using hmu')
            rw [show i + (j + 1) = i + 1 + j by omega] at this
            exact this
          · rw [g1, <- hxs0]
            exact hO'
          · have := hnm (1 + vs.length + k) n (by
              rw [show 1 + vs.length + k = (vs.length + k) + 1 by omega]
              simp only [nmsM, List.getElem?_cons_succ]
              rw [List.getElem?_append_right (by rw [cellNms_length]; omega), cellNms_length]
              rw [show vs.length + k - vs.length = k by omega]
              exact hn)
            rw [show pos + 1 + vs.length + k = pos + (1 + vs.length + k) by omega]
            exact this
          · simp only [hdM]
            exact List.mem_append_right _ hp
  | .sl q y0 :: mus, .sl y1 :: ins, .sl y :: outs, i, pos, hrs, hmu, hrel, hi, hO, hnm, hhd, hcn, hloc, p, hp => by
    obtain ⟨hm, hf⟩ := hmu _ (.head _)
    obtain ⟨_, hrel'⟩ := hrel
    have hl0 := hrs 0 _ rfl
    rw [Nat.add_zero] at hl0
    simp only [List.length_cons] at hi
    obtain ⟨⟨v, h1, h2⟩, hO'⟩ := hO
    rw [List.all_cons, Bool.and_eq_true] at hloc
    have hpos : nm pos = q := by have := hnm 0 q rfl; rwa [Nat.add_zero] at this
    simp only [nrM] at hp
    rcases List.mem_cons.1 hp with rfl | hp
    · rw [rhoC_nF hl0 (by omega)] at h1
      rw [hpos] at h2
      exact .sl v y ((hv.rho q (hcn _ (.head _))).trans h1) (h2.home2 hB hge hlab hloc.1)
    · refine outs_ok hR hv hlab hge hB mus ins outs (i + 1) (pos + 1) (fun j mu hmu' => ?_) (fun mu h => hmu mu (.tail _ h)) hrel' (by omega) hO' (fun k n hn => ?_) (fun p hp => hhd p hp) (fun mu h => hcn mu (.tail _ h)) hloc.2 p hp
      · have := hrs (j + 1) mu (by simpa using hmu')
        rw [show i + (j + 1) = i + 1 + j by omega] at this
        exact this
      · have := hnm (k + 1) n (by simpa [nmsM] using hn)
        rw [show pos + 1 + k = pos + (k + 1) by omega]
        exact this
end
end Go.Proofs.YtckjagaogcbedaaGreat
namespace Go.Proofs.YtckjagaogcbedaaGreat
open Go.RowKit
set_option linter.unusedVariables false
section
variable {P : Program} {w w' : World} {w0 : Wd} {B N : Nat} {lab lab2 lab' : Lab} {ρ ρ2 ρ' : Nat -> Loc} {σ : S} {a : Act} {X : Type} {d : Nat} {r : X} {ns cn : List Nat} {o : Oper} {rs : List Nat} {ren : List (Nat × Nat)} {nm nm' : Nat -> Nat} {c0 : Nat}
theorem resK_ok {dst : Option Tmp} {res : Res} {k : S -> Option X} (h : resK N σ dst res k = some r) : ∃ σ', k σ' = some r /\ ∀ lab ρ a w v, Rl w0 N lab ρ σ a w -> ResOK w w0.heap.size lab (fun n => c0Of dst + n) res v -> ∃ ρ', Rl w0 N lab ρ' σ' (a.put dst v) w /\ ∀ r, r < c0Of dst -> ρ' r = ρ r := by
  unfold resK at h
  cases dst with
  | none => exact ⟨σ, h, fun lab ρ a w v hR _ => ⟨ρ, hR, fun _ _ => rfl⟩⟩
  | some d =>
    have h : (bif Nat.blt d N then (match res with
      | .one p => (match partA (p.1, resLf (1000000000100000 + 1000 * d) p.2) with
        | some y => k ((resRt (1000000000100000 + 1000 * d) σ p.2).set d y)
        | none => none)
      | .tup ps => k ((resRs (1000000000100000 + 1000 * d) σ ps).set d (.tup (resLs (1000000000100000 + 1000 * d) ps)))) else none) = some r := h
    cases hN : Nat.blt d N with
    | false => rw [hN] at h; cases h
    | true =>
      rw [hN, cond_true] at h
      have hdN : d < N := Nat.le_of_ble_eq_true hN
      cases res with
      | one p =>
        simp only at h
        split at h
        · rename_i y hy
          refine ⟨_, h, fun lab ρ a w v hR hres => ?_⟩
          obtain ⟨ρ', hR2, hρ', _, hps⟩ := addRs [p] (1000000000100000 + 1000 * d) 0 σ ρ [v] (by omega) hR hres
          have hRP := hps 0 _ v rfl rfl
          exact ⟨ρ', hR2.set (partA_ok hy hRP) hdN, hρ'⟩
        · cases h
      | tup ps' =>
        refine ⟨_, h, fun lab ρ a w v hR hres => ?_⟩
        obtain ⟨vs, rfl, hv⟩ := hres
        obtain ⟨ρ', hR2, hρ', hlen, hps⟩ := addRs ps' (1000000000100000 + 1000 * d) 0 σ ρ vs.toList (by omega) hR hv
        refine ⟨ρ', hR2.set ⟨vs, rfl, by simpa using hlen, fun j p hp => ?_⟩ hdN, hρ'⟩
        have hj : j < vs.size := by
          have := (List.getElem?_eq_some_iff.1 hp).1
          rw [Nat.add_zero] at hlen
          rw [<- hlen] at this
          simpa using this
        exact ⟨vs[j], Array.getElem?_eq_getElem hj, hps j p _ hp (by rw [Array.getElem?_toList, Array.getElem?_eq_getElem hj])⟩
theorem callMK_str {f : Nat} {args : Array Operand} {tys : Array TypeId} {c : CtrM} {k : S -> Option X} (ho : o.op = .call { callee := .value (.func f), args, argTypes := tys }) (he : enters P f) (hc : CtrMOK P f c) (h : callMK N σ o.dst c args.toList k = some r) : ∃ σ' mus cn, k σ' = some r /\ musK σ c.ps args.toList = some mus /\ (∀ n, memB n cn = true -> n < N \/ 60000 <= n) /\ (∀ mu ∈ mus, memB mu.root cn = false) /\
    ∀ a w K Q lab ρ, Rl w0 N lab ρ σ a w -> (∀ v w' lab2 ρ2 ρ3, Rl w0 N lab2 ρ3 σ' (a.put o.dst v) w' -> Hav w w' lab lab2 ρ ρ2 ((renM 0 mus).map (·.1)) cn -> BelowS w0 w w' -> (∀ r, r < c0Of o.dst -> ρ3 r = ρ2 r) -> K (a.put o.dst v) w') -> o.wp P a w K Q := by
  unfold callMK at h
  split at h
  · rename_i mus hmus
    generalize hren : renM 0 mus = ren at h
    cases hon : (once ren && Nat.ble mus.length 40) with
    | false => rw [hon] at h; cases h
    | true =>
      rw [hon, cond_true] at h
      rw [Bool.and_eq_true] at hon
      have hlen40 := Nat.le_of_ble_eq_true hon.2
      have hlk : ∀ p ∈ renM 0 mus, ren.lookup p.1 = some p.2 := by
        intro p hp
        rw [hren] at hp
        have := List.all_eq_true.1 hon.1 p hp
        obtain ⟨n, hn, he⟩ := (Option.any_eq_true _ _).1 this
        rw [hn, Nat.eq_of_beq_eq_true he]
      obtain ⟨x, h2, hrel, hars, hargs⟩ := parsK_ok (w0 := w0) (N := N) _ _ mus _ hmus h
      clear h
      split at h2
      · rename_i y hy
        unfold aftK at h2
        generalize hcn : cnM (c0Of o.dst) (resMk c.ro y.1).len mus (insMk (mutT c.ps) y.2) = cn at h2
        generalize hns : ren.map (·.1) = ns at h2 hargs
        cases hok : okAft N mus (insMk (mutT c.ps) y.2) cn with
        | false => rw [hok] at h2; cases h2
        | true =>
          rw [hok, cond_true] at h2
          simp only [okAft, Bool.and_eq_true] at hok
          obtain ⟨⟨⟨ok1, ok2⟩, ok3⟩, ok4⟩ := hok
          obtain ⟨σ', h3, hfin⟩ := resK_ok (w0 := w0) h2
          refine ⟨σ', mus, cn, h3, hmus, fun n hn => ?_, fun mu hmu => by simpa using List.all_eq_true.1 ok2 mu hmu, fun a w K Q lab ρ hR hK => ?_⟩
          · have := List.all_eq_true.1 ok3 n (memB_iff.1 hn)
            rw [Bool.or_eq_true] at this
            rcases this with h | h
            · exact .inl (by have := Nat.le_of_ble_eq_true h; omega)
            · exact .inr (Nat.le_of_ble_eq_true h)
          have hS : Sees ns lab (relab lab ren id) := by rw [<- hns]; exact sees_relab (fun b k hb => (hR.lab_ge b k hb).2.2)
          have hmuok := musK_ok _ _ _ hmus
          let rs := mus.map Mu.root
          have hrs : ∀ j mu, mus[j]? = some mu -> rs[0 + j]? = some mu.root := by
            intro j mu hj
            rw [Nat.zero_add, List.getElem?_map, hj]
            rfl
          have hE := ent_ok (rs := rs) hR hS mus (insOf c.ps x) 0 hlk hrs hmuok hrel (by omega)
          have hA := hargs lab ρ a w (relab lab ren id) (rhoC w ρ rs) hR hS (insOf c.ps x) 0 (fun j z hz => by rw [Nat.zero_add]; exact hz) (fun j mu hj => by
            have h1 := hrs j mu hj
            rw [Nat.zero_add] at h1 ⊢
            exact rhoC_nF h1 (by have := (List.getElem?_eq_some_iff.1 hj).1; omega))
          obtain ⟨hA1, hA2⟩ := ArsOK.get _ _ hA
          let nm : Nat -> Nat := fun n => if n < (resMk c.ro y.1).len then c0Of o.dst + n else (nmsM (c0Of o.dst) (resMk c.ro y.1).len mus).getD (n - (resMk c.ro y.1).len) 0
          have hps : ∀ (ps : List PK) (i : Nat) (x : ParT ps), (arsOf ps i x).length = ps.length := by
            intro ps
            induction ps with
            | nil => intro i x; rfl
            | cons p ps ih =>
              intro i x
              cases p with
              | v => exact congrArg (· + 1) (ih _ _)
              | p => exact congrArg (· + 1) (ih _ _)
              | s => exact congrArg (· + 1) (ih _ _)
          unfold Oper.wp
          rw [run_call w o a f args tys ho he, Oper.upon_enter]
          have hvals : (args.map a.eval) = (args.toList.map a.eval).toArray := by apply Array.ext'; rw [Array.toList_map]
          rw [hvals]
          have hlabc : ∀ b k, relab lab ren id b = some k -> (∃ k', lab b = some k' /\ lastB k' ns = true) /\ k ≠ [] := by
            intro b k hb
            cases hl : lab b with
            | none => rw [hS.none b hl] at hb; cases hb
            | some k' =>
              refine ⟨⟨k', rfl, ?_⟩, ?_⟩
              · cases hq : lastB k' ns with
                | true => rfl
                | false => rw [(hS.rest b k' hl).2 hq] at hb; cases hb
              · simp only [relab, hl] at hb
                split at hb
                · cases hb
                · cases hlk' : ren.lookup _ with
                  | none => rw [hlk'] at hb; cases hb
                  | some n => rw [hlk'] at hb; injection hb with hb; subst hb; simp
          have hQ : Hd w (relab lab ren id) := w0.on hR.below (fun b k hb => by obtain ⟨⟨k', hl, _⟩, _⟩ := hlabc b k hb; exact (hR.lab_ge b k' hl).1)
          refine (hc x y hy nm w (relab lab ren id) (rhoC w ρ rs) _ hE (fun b k hb => ⟨?_, (hlabc b k hb).2⟩) ?_ hA2 hQ).mono fun e w' hpost => ?_
          · obtain ⟨⟨k', hl, _⟩, _⟩ := hlabc b k hb
            exact (hR.lab_ge b k' hl).2.1
          · rw [List.size_toArray, hA1, hps]
          · obtain ⟨v, lab1, rfl, hbel, hlab1, hres, hout⟩ := hpost
            have hB := hR.below.size
            let lab2 : Lab := fun b => match relab lab ren id b with
              | none => if b < w.heap.size then lab b else lab1 b
              | some _ => lab1 b
            have e1 : ∀ b k, lab1 b = some k -> lab2 b = some k := by
              intro b k hb
              show (match relab lab ren id b with | none => if b < w.heap.size then lab b else lab1 b | some _ => lab1 b) = some k
              split
              · rename_i hr0
                have := (hlab1 b k hb).1
                have hge : w.heap.size <= b := this.resolve_right (fun h => h hr0)
                rw [if_neg (by omega)]
                exact hb
              · exact hb
            have e2 : ∀ b, w.heap.size <= b -> lab2 b = lab1 b := by
              intro b hb
              show (match relab lab ren id b with | none => if b < w.heap.size then lab b else lab1 b | some _ => lab1 b) = lab1 b
              split
              · rw [if_neg (by omega)]
              · rfl
            have hlook : ∀ p ∈ hdM w' ρ (c0Of o.dst) (resMk c.ro y.1).len mus (insMk (mutT c.ps) y.2), (hdM w' ρ (c0Of o.dst) (resMk c.ro y.1).len mus (insMk (mutT c.ps) y.2)).lookup p.1 = some p.2 :=
              lookupV_mem (by rw [hdM_keys, hcn]; exact ok1)
            generalize hhd : hdM w' ρ (c0Of o.dst) (resMk c.ro y.1).len mus (insMk (mutT c.ps) y.2) = hd at hlook
            have hkeys : hd.map (·.1) = cn := by rw [<- hhd, hdM_keys, hcn]
            have hv : Hav w w' lab lab2 ρ (rho2 hd ρ) ns cn := by
              refine ⟨hbel.size, fun b hb hk => ?_, fun n hn => ?_, fun b k hb => (hR.lab_ge b k hb).2⟩
              · have hr0 : relab lab ren id b = none := by
                  cases hl : lab b with
                  | none => exact hS.none b hl
                  | some k => exact (hS.rest b k hl).2 (hk k hl)
                refine ⟨hbel.block b hb hr0, ?_⟩
                show (match relab lab ren id b with | none => if b < w.heap.size then lab b else lab1 b | some _ => lab1 b) = lab b
                rw [hr0]
                exact if_pos hb
              · show (match hd.lookup n with | some v => Loc.hdr v | none => ρ n) = ρ n
                rw [lookupV_none (by rw [hkeys]; exact hn)]
            have hroots : ∀ mu ∈ mus, memB mu.root cn = false := fun mu hmu => by simpa using List.all_eq_true.1 ok2 mu hmu
            have hnr := outs_ok (c0 := c0Of o.dst) (nm := nm) hR hv e1 e2 hB mus (insOf c.ps x) (insMk (mutT c.ps) y.2) 0 (resMk c.ro y.1).len hrs hmuok hrel (by omega) hout (fun k n hn => ?_) (fun p hp => ?_) hroots ok4
            · have hbelS : BelowS w0 w w' := by
                refine ⟨hbel.os, hbel.tape, hbel.output, hbel.size, fun k hk hL => hbel.block k (Nat.lt_of_lt_of_le hk hB) ?_⟩
                cases hl : lab k with
                | none => exact hS.none k hl
                | some k' => exact absurd hL ((hR.lab_ge k k' hl).1.resolve_left (by omega))
              have hR2 : Rl w0 N lab2 (rho2 hd ρ) (σ.lose ns cn (nrM ns cn (c0Of o.dst) (resMk c.ro y.1).len mus (insMk (mutT c.ps) y.2))) a w' := by
                refine hR.hav hv hbelS (fun b k hb => ?_) (fun n hn => ?_) (fun n z hz => ?_)
                · have hb : (match relab lab ren id b with | none => if b < w.heap.size then lab b else lab1 b | some _ => lab1 b) = some k := hb
                  have fromLab1 : lab1 b = some k -> (w0.heap.size <= b \/ w0.L b ≠ none) /\ b < w'.heap.size /\ k ≠ [] := by
                    intro h1
                    obtain ⟨g1, g2, g3⟩ := hlab1 b k h1
                    refine ⟨?_, g2, g3⟩
                    rcases g1 with g1 | g1
                    · exact .inl (Nat.le_trans hB g1)
                    · cases hr0 : relab lab ren id b with
                      | none => exact absurd hr0 g1
                      | some k2 =>
                        obtain ⟨⟨k', hl, _⟩, _⟩ := hlabc b k2 hr0
                        exact (hR.lab_ge b k' hl).1
                  split at hb
                  · split at hb
                    · have := hR.lab_ge b k hb
                      exact ⟨this.1, Nat.lt_of_lt_of_le this.2.1 hbel.size, this.2.2⟩
                    · exact fromLab1 hb
                  · exact fromLab1 hb
                · have := List.all_eq_true.1 ok3 n (memB_iff.1 hn)
                  rw [Bool.or_eq_true] at this
                  refine hR.lim n ?_
                  rcases this with h | h
                  · exact .inl (by have := Nat.le_of_ble_eq_true h; omega)
                  · exact .inr (Nat.le_of_ble_eq_true h)
                · have hmem : (n, z) ∈ nrM ns cn (c0Of o.dst) (resMk c.ro y.1).len mus (insMk (mutT c.ps) y.2) := by
                    clear hnr
                    generalize nrM ns cn (c0Of o.dst) (resMk c.ro y.1).len mus (insMk (mutT c.ps) y.2) = l at hz
                    induction l with
                    | nil => cases hz
                    | cons p l ih =>
                      rw [List.lookup_cons] at hz
                      cases hb : n == p.1 with
                      | true =>
                        rw [hb] at hz
                        have e : n = p.1 := by simpa using hb
                        injection hz with hz
                        rw [e, <- hz]
                        exact .head _
                      | false =>
                        rw [hb] at hz
                        exact .tail _ (ih hz)
                  exact hnr (n, z) hmem
              have hresv : ResOK w' w0.heap.size lab2 (fun n => c0Of o.dst + n) (resMk c.ro y.1) v := ?_
              · obtain ⟨ρ3, hR3, hρ3⟩ := hfin lab2 _ a w' v hR2 hresv
                exact hK v w' lab2 _ ρ3 hR3 (by rw [hren, hns]; exact hv) hbelS hρ3
              have hnmr : ∀ (L : Nat), L = (resMk c.ro y.1).len -> ∀ n, n < L -> nm n = c0Of o.dst + n := fun L hL n hn => if_pos (by omega)
              generalize hres0 : resMk c.ro y.1 = res at hres hnmr
              cases res with
              | one p =>
                have hres : ResL w' w.heap.size lab1 nm 0 [p] [v] := hres
                exact ResL.home2 [p] 0 [v] hres hB e2 e1 (fun n _ hn => hnmr _ rfl n (by simpa [Res.len] using hn))
              | tup ps' =>
                obtain ⟨vs, e, hvs⟩ := hres
                exact ⟨vs, e, ResL.home2 ps' 0 vs.toList hvs hB e2 e1 (fun n _ hn => hnmr _ rfl n (by simpa [Res.len] using hn))⟩
            · show (if (resMk c.ro y.1).len + k < (resMk c.ro y.1).len then c0Of o.dst + ((resMk c.ro y.1).len + k) else (nmsM (c0Of o.dst) (resMk c.ro y.1).len mus).getD ((resMk c.ro y.1).len + k - (resMk c.ro y.1).len) 0) = n
              rw [if_neg (by omega), show (resMk c.ro y.1).len + k - (resMk c.ro y.1).len = k by omega, List.getD_eq_getElem?_getD, hn]
              rfl
            · rw [hhd] at hp
              show (match hd.lookup p.1 with | some v => Loc.hdr v | none => ρ p.1) = .hdr p.2
              rw [hlook p hp]
      · cases h2
  · cases h
theorem callMK_ok {f : Nat} {args : Array Operand} {tys : Array TypeId} {c : CtrM} {k : S -> Option X} (ho : o.op = .call { callee := .value (.func f), args, argTypes := tys }) (he : enters P f) (hc : CtrMOK P f c) (h : callMK N σ o.dst c args.toList k = some r) : ∃ σ', k σ' = some r /\ OpS P w0 N o σ σ' := by
  obtain ⟨σ', mus, cn, h1, _, _, _, h2⟩ := callMK_str (w0 := w0) ho he hc h
  refine ⟨σ', h1, fun a w K Q hR hK => ?_⟩
  obtain ⟨lab, ρ, hR⟩ := hR
  exact h2 a w K Q lab ρ hR fun v w' lab2 ρ2 ρ3 hR' _ _ _ => hK _ _ ⟨lab2, ρ3, hR'⟩
end
end Go.Proofs.YtckjagaogcbedaaGreat
