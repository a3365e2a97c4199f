/-
  Operations, regions and code, by contents. Nothing here is a claim.
-/
import Derived.Test.YtkgliadgedamiaaAvOC
namespace Go.Proofs.Ytkgliadgedamiaa
open Go.RowKit
set_option linter.unusedVariables false

abbrev Ctrs := Nat → Option Ctr
def CtrsOK (P : Program) (Φ : Ctrs) : Prop := ∀ f c, Φ f = some c → enters P f ∧ CtrOK P f c
def withD {X : Type} (o : Oper) (k : Nat → Option X) : Option X :=
  match o.dst with
  | some d => k d
  | none => none
/-- Operations that only give a value. -/
def isV : Op → Bool
  | .move _ | .assign _ | .pick .. | .build .. | .load .. | .binOp .. | .unOp .. | .convert .. | .fieldAddr .. | .field .. | .indexAddr .. | .index .. | .extract .. | .nilCheck _ => true
  | .call ⟨.builtin .len, _, _⟩ | .call ⟨.builtin .max, _, _⟩ | .call ⟨.builtin .min, _, _⟩ => true
  | _ => false
def valK {X : Type} (P : Program) (σ : S) (op : Op) (k : A → Option X) : Option X :=
  match op with
  | .move x => k (opd σ x)
  | .assign x => k (opd σ x)
  | .pick c x y => (match opd σ c with
    | .lf (.v (.bool b)) => bif b then k (opd σ x) else k (opd σ y)
    | _ => none)
  | .build t parts => buildK P σ t parts.toList k
  | .load t x => loadK P σ t (opd σ x) k
  | .binOp op t x y _ => vK (opd σ x) fun a => vK (opd σ y) fun b => binK P t op a b fun z => k (.lf (.v z))
  | .unOp op _ x => vK (opd σ x) fun a => unK op a fun z => k (.lf (.v z))
  | .convert s d x => convK P s d (opd σ x) k
  | .fieldAddr s x f => fieldK P s (opd σ x) f k
  | .field s x f => partK P s (opd σ x) f k
  | .indexAddr t x i => idxK P σ t (opd σ x) (opd σ i) k
  | .index t x i => strIdxK P t (opd σ x) (opd σ i) k
  | .extract x i => extK (opd σ x) i k
  | .nilCheck x => nilK (opd σ x) k
  | .call ⟨.builtin .len, ⟨[x]⟩, ⟨[t]⟩⟩ => lenK P σ t (opd σ x) k
  | .call ⟨.builtin .max, ⟨[x, y]⟩, ⟨[_, _]⟩⟩ => mmK true (opd σ x) (opd σ y) k
  | .call ⟨.builtin .min, ⟨[x, y]⟩, ⟨[_, _]⟩⟩ => mmK false (opd σ x) (opd σ y) k
  | _ => none
def memK {X : Type} (P : Program) (N : Nat) (Φ : Ctrs) (σ : S) (o : Oper) (k : S → Option X) : Option X :=
  match o.op with
  | .alloc e => withD o fun d => allocK P N σ d e k
  | .box e x => withD o fun d => boxK N σ d (opd σ x) k
  | .buildSlice t len parts => withD o fun d => buildSK P N σ d t len parts.toList k
  | .store t x y => (match o.dst with
    | none => storeK P σ t (opd σ x) (opd σ y) k
    | some _ => none)
  | .makeSlice t l c => withD o fun d => makeK P N σ d t (opd σ l) (opd σ c) k
  | .call ⟨.value (.func f), args, _⟩ => withD o fun d => (match Φ f with
    | some c => callK N σ d c args.toList k
    | none => none)
  | .call ⟨.builtin .append, ⟨[x, y]⟩, ⟨[t, t']⟩⟩ => bif Nat.beq t t' then withD o fun d => appK P N σ d t (opd σ x) (opd σ y) k else none
  | _ => none
def opK {X : Type} (P : Program) (N : Nat) (Φ : Ctrs) (σ : S) (o : Oper) (k : S → Option X) : Option X :=
  bif isV o.op then valK P σ o.op fun v => putK N σ o.dst v k else memK P N Φ σ o k

def wantK (σ : S) (ops : Array Oper) (o : Oper) : Option Bool :=
  match o.guard with
  | none => some true
  | some (j, want) => match (ops[j]?).bind (·.dst) with
    | some t => (match σ.t t with
      | .lf (.v (.bool b)) => some (b == want)
      | .skip => some false
      | _ => none)
    | none => none
def isGuard (ops : Array Oper) (j : Nat) : Bool := ops.toList.any fun o => match o.guard with
  | some (i, _) => Nat.beq i j
  | none => false
def splitK {X : Type} (σ : S) (dst : Option Tmp) (g : Bool) (k : S → Option X) : Option X :=
  bif g then (match dst with
    | some d => (match σ.t d with
      | .lf (.v (.bool b)) => bif b then k (σ.set d (.lf (.v (.bool true)))) else k (σ.set d (.lf (.v (.bool false))))
      | _ => k σ)
    | none => k σ) else k σ
def regK {X : Type} (P : Program) (N : Nat) (Φ : Ctrs) (ops : Array Oper) : Nat → List Oper → S → (S → Option X) → Option X
  | _, [], σ, k => k σ
  | j, o :: rest, σ, k => match wantK σ ops o with
    | some true => opK P N Φ σ o fun σ' => splitK σ' o.dst (isGuard ops j) fun σ'' => regK P N Φ ops (j + 1) rest σ'' k
    | some false => putK N σ o.dst .skip fun σ' => regK P N Φ ops (j + 1) rest σ' k
    | none => none
/-! Regions whose order is open: what is listed is a set of bits. -/
def doK {X : Type} (P : Program) (N : Nat) (Φ : Ctrs) (ops : Array Oper) (σ : S) (o : Oper) (k : S → Option X) : Option X :=
  match wantK σ ops o with
  | some true => opK P N Φ σ o k
  | some false => putK N σ o.dst .skip k
  | none => none
def rdB (ops : Array Oper) (L j : Nat) : Bool := !L.testBit j && (match ops[j]? with
  | some o => o.after.toList.all fun e => !Region.binds .any e || L.testBit e.on
  | none => false)
/-- Those that must come behind i. -/
def waitsOn (ops : Array Oper) (i W j : Nat) : Bool := (match ops[j]? with
  | some o => o.after.toList.any fun e => Region.binds .any e && (Nat.beq e.on i || W.testBit e.on)
  | none => false)
def waits (ops : Array Oper) (i : Nat) : Nat → Nat → Nat → Nat
  | 0, _, W => W
  | n + 1, j, W => waits ops i n (j + 1) (bif waitsOn ops i W j then W ||| 2 ^ j else W)
/-- Names that an operation may make. -/
def nmOf (o : Oper) (n : Nat) : Bool := match o.dst with
  | some d => (match o.op with
    | .alloc _ | .box .. | .buildSlice .. | .makeSlice .. => Nat.beq n d
    | .call ⟨.value (.func _), _, _⟩ => Nat.ble (100000 + 1000 * d) n
    | _ => false)
  | none => false
def tame (op : Op) : Bool := isV op || (match op with
  | .alloc _ | .box .. | .buildSlice .. | .makeSlice .. => true
  | .call ⟨.value (.func _), _, _⟩ => true
  | _ => false)
def freeB (ops : Array Oper) (oi : Oper) (i L W : Nat) : Nat → Nat → Bool
  | 0, _ => true
  | n + 1, j => (Nat.beq j i || L.testBit j || (bif W.testBit j then waitsOn ops i W j else (match ops[j]? with
    | some oj => tame oj.op && oi.apart ops oj
    | none => true))) && freeB ops oi i L W n (j + 1)
def badNm (ops : Array Oper) (i L W n : Nat) : Nat → Nat → Bool
  | 0, _ => false
  | f + 1, j => (!(Nat.beq j i || L.testBit j || W.testBit j) && (match ops[j]? with
    | some oj => nmOf oj n
    | none => false)) || badNm ops i L W n f (j + 1)
def canTake (ops : Array Oper) (L i : Nat) : Bool := match ops[i]? with
  | some oi => isV oi.op && Nat.beq ((L ||| 2 ^ i) &&& waits ops i ops.size 0 0) 0 && freeB ops oi i L (waits ops i ops.size 0 0) ops.size 0
  | none => false
def takeK {X : Type} (P : Program) (N : Nat) (ops : Array Oper) (L i : Nat) (σ : S) (o : Oper) (k : S → Option X) : Option X :=
  match wantK σ ops o with
  | some true => valK P σ o.op fun v => bif v.nr (fun n => badNm ops i L (waits ops i ops.size 0 0) n ops.size 0) && o.op.operands.toList.all (fun x => (opd σ x).nr (fun n => badNm ops i L (waits ops i ops.size 0 0) n ops.size 0)) then putK N σ o.dst v k else none
  | some false => putK N σ o.dst .skip k
  | none => none
def drawK {X : Type} (P : Program) (N : Nat) (Φ : Ctrs) (ops : Array Oper) : Nat → Nat → S → (S → Option X) → Option X
  | 0, L, σ, k => (match (List.range ops.size).filter (rdB ops L) with
    | [] => k σ
    | _ => none)
  | f + 1, L, σ, k => (match (List.range ops.size).filter (rdB ops L) with
    | [] => k σ
    | [i] => (match ops[i]? with
      | some o => doK P N Φ ops σ o fun σ' => splitK σ' o.dst (isGuard ops i) fun σ'' => drawK P N Φ ops f (L ||| 2 ^ i) σ'' k
      | none => none)
    | rs => (match rs.find? (canTake ops L) with
      | some i => (match ops[i]? with
        | some o => takeK P N ops L i σ o fun σ' => splitK σ' o.dst (isGuard ops i) fun σ'' => drawK P N Φ ops f (L ||| 2 ^ i) σ'' k
        | none => none)
      | none => none))
structure Blk' where
  run : (X : Type) → S → (Exit → S → Option X) → Option X
abbrev Blks := Nat → Option Blk'
def codeK {X : Type} (P : Program) (N : Nat) (Φ : Ctrs) (Λ : Blks) : Code → S → (Exit → S → Option X) → Option X
  | .skip, σ, k => k .normal σ
  | .label _, σ, k => k .normal σ
  | .ret, σ, k => k .ret σ
  | .exit id, σ, k => k (.exit id) σ
  | .region _ ops false, σ, k => regK P N Φ ops 0 ops.toList σ fun σ' => k .normal σ'
  | .region _ ops true, σ, k => bif P.follows .mixedOrders then drawK P N Φ ops ops.size 0 σ fun σ' => k .normal σ' else none
  | .seq x y, σ, k => codeK P N Φ Λ x σ fun e σ' => match e with
    | .normal => codeK P N Φ Λ y σ' k
    | e => k e σ'
  | .cond c x y, σ, k => match opd σ c with
    | .lf (.v (.bool b)) => bif b then codeK P N Φ Λ x σ k else codeK P N Φ Λ y σ k
    | _ => none
  | .block id c, σ, k => match Λ id with
    | some b => b.run X σ k
    | none => codeK P N Φ Λ c σ fun e σ' => match e with
      | .exit id' => if id' = id then k .normal σ' else k (.exit id') σ'
      | e => k e σ'
  | _, _, _ => none
def AW (P : Program) (w0 : World) (N : Nat) (c : Code) (σ : S) (K : Exit → S → Prop) : Prop :=
  ∀ a w, R w0 N σ a w → c.wp P (fun e a' w' => ∃ σ', K e σ' ∧ R w0 N σ' a' w') a w
def occs : Code → List (Nat × Code)
  | .seq x y => occs x ++ occs y
  | .cond _ x y => occs x ++ occs y
  | .block id c => (id, c) :: occs c
  | _ => []
def BlkOK (P : Program) (N : Nat) (c : Code) (b : Blk') : Prop := ∀ (X : Type) σ k (r : X) w0, b.run X σ k = some r → AW P w0 N c σ fun e σ' => k e σ' = some r
def BlksOK (P : Program) (N : Nat) (Λ : Blks) (l : List (Nat × Code)) : Prop := ∀ p ∈ l, ∀ b, Λ p.1 = some b → BlkOK P N (.block p.1 p.2) b

section
variable {P : Program} {w w' w0 : World} {B N : Nat} {lab lab' : Lab} {ρ ρ' : Nat → Loc} {σ : S} {a : Act} {X : Type} {d : Nat} {r : X} {o : Oper} {Φ : Ctrs} {Λ : Blks}

theorem OpS.mem {σ' : S} (hd : o.dst = some d) (h : ∀ lab ρ a w, Rl w0 N lab ρ σ a w → ∃ w' lab' ρ' v, (execOp a.eval o).run P w = .ok (.value v) w' ∧ Rl w0 N lab' ρ' σ' (a.put (some d) v) w') : OpS P w0 N o σ σ' := by
  intro a w K Q hR hK
  obtain ⟨lab, ρ, hR⟩ := hR
  obtain ⟨w', lab', ρ', v, hrun, hR'⟩ := h lab ρ a w hR
  unfold Oper.wp
  rw [hrun, Oper.upon_value, hd]
  exact hK _ _ ⟨lab', ρ', hR'⟩
theorem withD_ok {k : Nat → Option X} (h : withD o k = some r) : ∃ d, o.dst = some d ∧ k d = some r := by
  unfold withD at h
  split at h
  · rename_i d hd; exact ⟨d, hd, h⟩
  · cases h
theorem run_v {s : Sem Value} {v : Value} (h : s.run P w = .ok v w') : (do pure (.value (← s)) : Sem Next).run P w = .ok (.value v) w' := by
  rw [Sem.run_bind, h]; rfl
theorem valK_ok {op : Op} {k : A → Option X} (h : valK P σ op k = some r) : ∃ v, k v = some r ∧ Det (fun X k => valK (X := X) P σ op k) v ∧ ∀ lab ρ a w (o : Oper), o.op = op → Rl w0 N lab ρ σ a w → ∃ u, (execOp a.eval o).run P w = .ok (.value u) w ∧ RA w w0.heap.size lab ρ v u := by
  unfold valK at h
  split at h
  · rename_i x
    exact ⟨_, h, fun X k => rfl, fun lab ρ a w o ho hR => ⟨a.eval x, by simp [execOp, ho], hR.opd x⟩⟩
  · rename_i x
    exact ⟨_, h, fun X k => rfl, fun lab ρ a w o ho hR => ⟨a.eval x, by simp [execOp, ho], hR.opd x⟩⟩
  · rename_i c x y
    split at h
    · rename_i b hb
      refine ⟨bif b then opd σ x else opd σ y, by cases b <;> exact h, fun X k => by simp only [valK, hb]; cases b <;> rfl, fun lab ρ a w o ho hR => ?_⟩
      have hc := hR.opd c
      rw [hb] at hc
      have hv := hc.2.bool_inv
      cases b with
      | true => exact ⟨a.eval x, by simp [execOp, ho, hv, asBool], hR.opd x⟩
      | false => exact ⟨a.eval y, by simp [execOp, ho, hv, asBool], hR.opd y⟩
    · cases h
  · rename_i t parts
    obtain ⟨y, h1, hd⟩ := buildK_det h
    obtain ⟨y', h1', hs⟩ := buildK_ok (w0 := w0) (N := N) (k := fun z => some z) (r := y) (hd.at_ _)
    injection h1' with h1'
    subst h1'
    refine ⟨_, h1, fun X k => hd.at_ _, fun lab ρ a w o ho hR => ?_⟩
    obtain ⟨v, hrun, hR'⟩ := hs lab ρ a w hR
    exact ⟨v, by simp only [execOp, ho]; exact run_v hrun, hR'⟩
  · rename_i t x
    obtain ⟨y, h1, hd⟩ := loadK_det h
    obtain ⟨y', h1', hs⟩ := loadK_ok (w0 := w0) (N := N) (k := fun z => some z) (r := y) (hd.at_ _)
    injection h1' with h1'
    subst h1'
    refine ⟨_, h1, fun X k => hd.at_ _, fun lab ρ a w o ho hR => ?_⟩
    obtain ⟨v, hrun, hR'⟩ := hs lab ρ a w hR _ (hR.opd x)
    exact ⟨v, by simp only [execOp, ho]; exact run_v hrun, hR'⟩
  · rename_i op t x y yt
    obtain ⟨u, h1, hd1⟩ := vK_det h
    obtain ⟨v, h2, hd2⟩ := vK_det h1
    obtain ⟨z, h3, hd3⟩ := binK_det h2
    obtain ⟨u', hx, h1'⟩ := vK_ok (k := fun z => some z) (r := u) (hd1.at_ _)
    injection h1' with h1'
    subst h1'
    obtain ⟨v', hy, h2'⟩ := vK_ok (k := fun z => some z) (r := v) (hd2.at_ _)
    injection h2' with h2'
    subst h2'
    obtain ⟨z', h3', hp, hs⟩ := binK_ok (k := fun z => some z) (r := z) (hd3.at_ _)
    injection h3' with h3'
    subst h3'
    refine ⟨_, h3, fun X k => (hd1.at_ _).trans ((hd2.at_ _).trans (hd3.at_ _)), fun lab ρ a w o ho hR => ?_⟩
    have h1 := hR.opd x
    have h2 := hR.opd y
    rw [hx] at h1
    rw [hy] at h2
    obtain ⟨t', hrun, hr⟩ := hs w _ lab x y [] [] _ _ h1.2 h2.2
    exact ⟨t', by simp only [execOp, ho]; exact run_v hrun, V.plain_fro hp, hr⟩
  · rename_i op t x
    obtain ⟨u, h1, hd1⟩ := vK_det h
    obtain ⟨z, h3, hd3⟩ := unK_det h1
    obtain ⟨u', hx, h1'⟩ := vK_ok (k := fun z => some z) (r := u) (hd1.at_ _)
    injection h1' with h1'
    subst h1'
    obtain ⟨z', h3', hp, hs⟩ := unK_ok (P := P) (k := fun z => some z) (r := z) (hd3.at_ _)
    injection h3' with h3'
    subst h3'
    refine ⟨_, h3, fun X k => (hd1.at_ _).trans (hd3.at_ _), fun lab ρ a w o ho hR => ?_⟩
    have h1 := hR.opd x
    rw [hx] at h1
    obtain ⟨t', hrun, hr⟩ := hs w _ lab [] _ h1.2
    exact ⟨t', by simp only [execOp, ho]; exact run_v hrun, V.plain_fro hp, hr⟩
  · rename_i s d' x
    obtain ⟨y, h1, hd⟩ := convK_det h
    obtain ⟨y', h1', hs⟩ := convK_ok (k := fun z => some z) (r := y) (hd.at_ _)
    injection h1' with h1'
    subst h1'
    refine ⟨_, h1, fun X k => hd.at_ _, fun lab ρ a w o ho hR => ?_⟩
    obtain ⟨v, hrun, hR'⟩ := hs w _ lab ρ _ (hR.opd x)
    exact ⟨v, by simp only [execOp, ho]; exact run_v hrun, hR'⟩
  · rename_i s x f
    obtain ⟨y, h1, hd⟩ := fieldK_det h
    obtain ⟨y', h1', hs⟩ := fieldK_ok (k := fun z => some z) (r := y) (hd.at_ _)
    injection h1' with h1'
    subst h1'
    refine ⟨_, h1, fun X k => hd.at_ _, fun lab ρ a w o ho hR => ?_⟩
    obtain ⟨v, hrun, hR'⟩ := hs w _ lab ρ _ (hR.opd x)
    exact ⟨v, by simp only [execOp, ho]; exact run_v hrun, hR'⟩
  · rename_i s x f
    obtain ⟨y, h1, hd⟩ := partK_det h
    obtain ⟨y', h1', hs⟩ := partK_ok (k := fun z => some z) (r := y) (hd.at_ _)
    injection h1' with h1'
    subst h1'
    refine ⟨_, h1, fun X k => hd.at_ _, fun lab ρ a w o ho hR => ?_⟩
    obtain ⟨v, hrun, hR'⟩ := hs w _ lab ρ _ (hR.opd x)
    exact ⟨v, by simp only [execOp, ho]; exact run_v hrun, hR'⟩
  · rename_i t x i
    obtain ⟨y, h1, hd⟩ := idxK_det h
    obtain ⟨y', h1', hs⟩ := idxK_ok (w0 := w0) (N := N) (k := fun z => some z) (r := y) (hd.at_ _)
    injection h1' with h1'
    subst h1'
    refine ⟨_, h1, fun X k => hd.at_ _, fun lab ρ a w o ho hR => ?_⟩
    obtain ⟨v, hrun, hR'⟩ := hs lab ρ a w hR _ _ (hR.opd x) (hR.opd i)
    exact ⟨v, by simp only [execOp, ho]; exact run_v hrun, hR'⟩
  · rename_i t x i
    obtain ⟨y, h1, hd⟩ := strIdxK_det h
    obtain ⟨y', h1', hs⟩ := strIdxK_ok (k := fun z => some z) (r := y) (hd.at_ _)
    injection h1' with h1'
    subst h1'
    refine ⟨_, h1, fun X k => hd.at_ _, fun lab ρ a w o ho hR => ?_⟩
    obtain ⟨v, hrun, hR'⟩ := hs w _ lab ρ _ _ (hR.opd x) (hR.opd i)
    exact ⟨v, by simp only [execOp, ho]; exact run_v hrun, hR'⟩
  · rename_i x i
    obtain ⟨y, h1, hd⟩ := extK_det h
    obtain ⟨y', h1', hs⟩ := extK_ok (P := P) (k := fun z => some z) (r := y) (hd.at_ _)
    injection h1' with h1'
    subst h1'
    refine ⟨_, h1, fun X k => hd.at_ _, fun lab ρ a w o ho hR => ?_⟩
    obtain ⟨v, hrun, hR'⟩ := hs w _ lab ρ _ (hR.opd x)
    exact ⟨v, by simp only [execOp, ho]; exact run_v hrun, hR'⟩
  · rename_i x
    obtain ⟨h1, hd, hs⟩ := nilK_ok (w := default) (B := 0) (lab := fun _ => none) (ρ := fun _ => .hdr undef) h
    refine ⟨_, h1, fun X k => hd.at_ _, fun lab ρ a w o ho hR => ?_⟩
    obtain ⟨_, _, hs⟩ := nilK_ok (w := w) (B := w0.heap.size) (lab := lab) (ρ := ρ) h
    obtain ⟨ad, hu⟩ := hs _ (hR.opd x)
    refine ⟨a.eval x, ?_, hR.opd x⟩
    simp only [execOp, ho, hu]
    rfl
  · rename_i x t
    obtain ⟨y, h1, hd⟩ := lenK_det h
    refine ⟨_, h1, fun X k => hd.at_ _, fun lab ρ a w o ho hR => ?_⟩
    obtain ⟨y', h1', hs⟩ := lenK_ok (w0 := w0) (N := N) (ty := o.type) (k := fun z => some z) (r := y) (hd.at_ _)
    injection h1' with h1'
    subst h1'
    obtain ⟨v, hrun, hR'⟩ := hs lab ρ a w hR _ (hR.opd x)
    exact ⟨v, by simp only [execOp, ho, resolve, Sem.run_bind, Sem.run_pure, Result.andThen_ok, invoke, builtin, List.map_toArray, List.map_cons, List.map_nil]; rw [hrun]; rfl, hR'⟩
  · rename_i x y t t'
    obtain ⟨z, h1, hd⟩ := mmK_det h
    obtain ⟨z', h1', hs⟩ := mmK_ok (P := P) (k := fun z => some z) (r := z) (hd.at_ _)
    injection h1' with h1'
    subst h1'
    refine ⟨_, h1, fun X k => hd.at_ _, fun lab ρ a w o ho hR => ?_⟩
    obtain ⟨v, hrun, hR'⟩ := hs w _ lab ρ t o.type _ _ (hR.opd x) (hR.opd y)
    refine ⟨v, ?_, hR'⟩
    simp only [execOp, ho, resolve, Sem.run_bind, Sem.run_pure, Result.andThen_ok, invoke, builtin, List.map_toArray, List.map_cons, List.map_nil]
    have hrun : (Builtin.max_ #[t, t'] o.type #[a.eval x, a.eval y]).run P w = .ok v w := hrun
    rw [hrun]; rfl
  · rename_i x y t t'
    obtain ⟨z, h1, hd⟩ := mmK_det h
    obtain ⟨z', h1', hs⟩ := mmK_ok (P := P) (k := fun z => some z) (r := z) (hd.at_ _)
    injection h1' with h1'
    subst h1'
    refine ⟨_, h1, fun X k => hd.at_ _, fun lab ρ a w o ho hR => ?_⟩
    obtain ⟨v, hrun, hR'⟩ := hs w _ lab ρ t o.type _ _ (hR.opd x) (hR.opd y)
    refine ⟨v, ?_, hR'⟩
    simp only [execOp, ho, resolve, Sem.run_bind, Sem.run_pure, Result.andThen_ok, invoke, builtin, List.map_toArray, List.map_cons, List.map_nil]
    have hrun : (Builtin.min_ #[t, t'] o.type #[a.eval x, a.eval y]).run P w = .ok v w := hrun
    rw [hrun]; rfl
  · cases h
theorem memK_ok {k : S → Option X} (hΦ : CtrsOK P Φ) (h : memK P N Φ σ o k = some r) : ∃ σ', k σ' = some r ∧ OpS P w0 N o σ σ' := by
  unfold memK at h
  split at h
  · rename_i e ho
    obtain ⟨d, hd, h⟩ := withD_ok h
    obtain ⟨σ', h, hs⟩ := allocK_ok (w0 := w0) h
    refine ⟨σ', h, .mem hd fun lab ρ a w hR => ?_⟩
    obtain ⟨w', lab', ρ', v, hrun, hR'⟩ := hs lab ρ a w hR
    exact ⟨w', lab', ρ', v, by simp only [execOp, ho]; exact run_v hrun, hR'⟩
  · rename_i e x ho
    obtain ⟨d, hd, h⟩ := withD_ok h
    obtain ⟨σ', h, hs⟩ := boxK_ok (w0 := w0) (e := e) h
    refine ⟨σ', h, .mem hd fun lab ρ a w hR => ?_⟩
    obtain ⟨w', lab', ρ', v, hrun, hR'⟩ := hs lab ρ a w hR _ (hR.opd x)
    exact ⟨w', lab', ρ', v, by simp only [execOp, ho]; exact run_v hrun, hR'⟩
  · rename_i t len parts ho
    obtain ⟨d, hd, h⟩ := withD_ok h
    obtain ⟨σ', h, hs⟩ := buildSK_ok (w0 := w0) h
    refine ⟨σ', h, .mem hd fun lab ρ a w hR => ?_⟩
    obtain ⟨w', lab', ρ', v, hrun, hR'⟩ := hs lab ρ a w hR
    exact ⟨w', lab', ρ', v, by simp only [execOp, ho]; exact run_v hrun, hR'⟩
  · rename_i t x y ho
    split at h
    · rename_i hd
      obtain ⟨σ', h, hs⟩ := storeK_ok (w0 := w0) (N := N) h
      refine ⟨σ', h, fun a w K Q hR hK => ?_⟩
      obtain ⟨lab, ρ, hR⟩ := hR
      obtain ⟨w', hrun, hR'⟩ := hs lab ρ a w hR _ _ (hR.opd x) (hR.opd y)
      have : (execOp a.eval o).run P w = .ok .skip w' := by
        simp only [execOp, ho]
        rw [Sem.run_bind, hrun]; rfl
      unfold Oper.wp
      rw [this, Oper.upon_skip, hd]
      exact hK _ _ ⟨lab, ρ, hR'⟩
    · cases h
  · rename_i t l c ho
    obtain ⟨d, hd, h⟩ := withD_ok h
    obtain ⟨σ', h, hs⟩ := makeK_ok (w0 := w0) h
    refine ⟨σ', h, .mem hd fun lab ρ a w hR => ?_⟩
    obtain ⟨w', lab', ρ', v, hrun, hR'⟩ := hs lab ρ a w hR _ _ (hR.opd l) (hR.opd c)
    exact ⟨w', lab', ρ', v, by simp only [execOp, ho]; exact run_v hrun, hR'⟩
  · rename_i f args tys ho
    obtain ⟨d, hd, h⟩ := withD_ok h
    split at h
    · rename_i c hc
      obtain ⟨he, hok⟩ := hΦ f c hc
      exact callK_ok ho hd he hok h
    · cases h
  · rename_i x y t t' ho
    cases htt : Nat.beq t t' with
    | false => rw [htt] at h; cases h
    | true =>
      rw [htt, cond_true] at h
      obtain rfl := Nat.eq_of_beq_eq_true htt
      obtain ⟨d, hd, h⟩ := withD_ok h
      obtain ⟨σ', h, hs⟩ := appK_ok (w0 := w0) (ty := o.type) h
      refine ⟨σ', h, .mem hd fun lab ρ a w hR => ?_⟩
      obtain ⟨w', lab', ρ', v, hrun, hR'⟩ := hs lab ρ a w hR _ _ (hR.opd x) (hR.opd y)
      refine ⟨w', lab', ρ', v, ?_, hR'⟩
      simp only [execOp, ho, resolve, Sem.run_bind, Sem.run_pure, Result.andThen_ok, invoke, builtin, List.map_toArray, List.map_cons, List.map_nil]
      rw [hrun]; rfl
  · cases h
theorem opK_ok {k : S → Option X} (hΦ : CtrsOK P Φ) (h : opK P N Φ σ o k = some r) : ∃ σ', k σ' = some r ∧ OpS P w0 N o σ σ' := by
  unfold opK at h
  cases hv : isV o.op with
  | true =>
    rw [hv, cond_true] at h
    obtain ⟨v, h1, _, hs⟩ := valK_ok (w0 := w0) (N := N) h
    exact OpS.val h1 fun lab ρ a w hR => hs lab ρ a w o rfl hR
  | false =>
    rw [hv, cond_false] at h
    exact memK_ok hΦ h
end
end Go.Proofs.Ytkgliadgedamiaa
