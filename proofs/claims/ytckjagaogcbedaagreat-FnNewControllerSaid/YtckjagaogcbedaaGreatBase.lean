/- Plain lemmas without the program: bytes, hexadecimal digits, bits, slices that own a row. Nothing here is a claim. -/
import Derived.WalkKit
import Derived.Laws.BitsAllLaws
import Derived.Laws.BitsLemmas
import Derived.Lib.Hide
import Derived.Deep.Draws
import Derived.Lib.Bytealg
import Derived.Laws.OwnMore
import Derived.Deep.AppendLies
import Derived.Laws.Rows
namespace Go.Proofs.YtckjagaogcbedaaGreat
open Go.RowKit

theorem ret_int {k : IntKind} {a b : Int} (h : a = b) : Ending.returned (.int k a) = .returned (.int k b) := by rw [h]
theorem ret_str {a b : ByteArray} (h : a = b) : Ending.returned (.string a) = .returned (.string b) := by rw [h]

/-- A string of bytes. -/
def bs (l : List UInt8) : ByteArray := ⟨l.toArray⟩
theorem bs_append (l m : List UInt8) : bs l ++ bs m = bs (l ++ m) := by
  apply ByteArray.ext
  simp [bs]
theorem bs_size (l : List UInt8) : (bs l).size = l.length := by simp [bs, ByteArray.size]
theorem bs_toList (s : ByteArray) : bs s.data.toList = s := by simp [bs]

theorem ofInt_i64 (a : Nat) (ha : a < 9223372036854775808) : (BitVec.ofInt 64 (a : Int)).toNat = a := by
  rw [BitVec.ofInt_natCast, BitVec.toNat_ofNat]; exact Nat.mod_eq_of_lt (by omega)
theorem i64_and_nat (a b : Nat) (ha : a < 9223372036854775808) (hb : b < 9223372036854775808) : bits .and .i64 (a : Int) (b : Int) = ((a &&& b : Nat) : Int) := by
  have hx : a &&& b < 2 ^ 63 := Nat.and_lt_two_pow _ (by omega)
  show IntKind.i64.wrap ((BitVec.ofInt 64 (a : Int) &&& BitVec.ofInt 64 (b : Int)).toNat : Int) = _
  rw [BitVec.toNat_and, ofInt_i64 a ha, ofInt_i64 b hb, IntKind.wrap_i64]
  omega
theorem i64_or_nat (a b : Nat) (ha : a < 9223372036854775808) (hb : b < 9223372036854775808) : bits .or .i64 (a : Int) (b : Int) = ((a ||| b : Nat) : Int) := by
  have hx : a ||| b < 2 ^ 63 := Nat.or_lt_two_pow (by omega) (by omega)
  show IntKind.i64.wrap ((BitVec.ofInt 64 (a : Int) ||| BitVec.ofInt 64 (b : Int)).toNat : Int) = _
  rw [BitVec.toNat_or, ofInt_i64 a ha, ofInt_i64 b hb, IntKind.wrap_i64]
  omega
theorem i64_xor_nat (a b : Nat) (ha : a < 9223372036854775808) (hb : b < 9223372036854775808) : bits .xor .i64 (a : Int) (b : Int) = ((a ^^^ b : Nat) : Int) := by
  have hx : a ^^^ b < 2 ^ 63 := Nat.xor_lt_two_pow (by omega) (by omega)
  show IntKind.i64.wrap ((BitVec.ofInt 64 (a : Int) ^^^ BitVec.ofInt 64 (b : Int)).toNat : Int) = _
  rw [BitVec.toNat_xor, ofInt_i64 a ha, ofInt_i64 b hb, IntKind.wrap_i64]
  omega
theorem i64_and15 (a : Int) (h0 : 0 <= a) (h1 : a <= 9223372036854775807) : bits .and .i64 a 15 = ((a.toNat % 16 : Nat) : Int) := by
  obtain ⟨n, rfl⟩ := Int.eq_ofNat_of_zero_le h0
  have h := i64_and_nat n 15 (by omega) (by omega)
  rw [nat_mask4] at h
  simpa using h

/-- Whether n lies from a to b. -/
def inB (n a b : Int) : Bool := decide (a <= n /\ n <= b)
theorem inB_true {n a b : Int} (h : inB n a b = true) : a <= n /\ n <= b := by simpa [inB] using h
theorem inB_false {n a b : Int} (h : inB n a b = false) : ¬ (a <= n /\ n <= b) := by simpa [inB] using h
theorem inB_mk {n a b : Int} (h : a <= n) (h' : n <= b) : inB n a b = true := by simp [inB, h, h']
theorem inB_not {n a b : Int} (h : ¬ (a <= n /\ n <= b)) : inB n a b = false := by simpa [inB] using h

/-- The digit of a number below 16. -/
def hexc (d : Nat) : UInt8 := if d < 10 then UInt8.ofNat (48 + d) else UInt8.ofNat (87 + d)
def hexConst : ByteArray := { data := #[48, 49, 50, 51, 52, 53, 54, 55, 56, 57, 97, 98, 99, 100, 101, 102] }
theorem hex_cut : ∀ d : Nat, d < 16 -> hexConst.extract d (d + 1) = bs [hexc d] := by decide
theorem hexc_toNat : ∀ d : Nat, d < 16 -> ((hexc d).toNat : Int) = if (d : Int) < 10 then 48 + (d : Int) else 87 + (d : Int) := by decide

/-- The first k of the eight digits of a word. -/
def fwd (x : Nat) (j : Nat) : Nat := x / 2 ^ (28 - 4 * j) % 16
def fw (x : Nat) (k : Nat) : List UInt8 := (List.range k).map fun j => hexc (fwd x j)
theorem fw_succ (x k : Nat) : fw x (k + 1) = fw x k ++ [hexc (fwd x k)] := by simp [fw, List.range_succ]
theorem fw_length (x k : Nat) : (fw x k).length = k := by simp [fw]
theorem fwd_lt (x j : Nat) : fwd x j < 16 := by unfold fwd; omega

theorem own_step {w0 wr w1 : World} {B : Nat} {e : TypeId} {size n : Nat} {v : Value} {xs : List Value} {o : Obj} (hbel : Below B w0 wr) (hB : B <= wr.heap.size)
    (hown : wr.ownsRow B e size v n xs) (hg : (wr.alloc o).grownBy w1 v.ownBlock) : Below B w0 w1 :=
  (hbel.alloc hB o).grown hg (by simp; omega) (fun k hk => (hown.lt k hk).1)
theorem oneCell_one {u : Value} (h : u.oneCell' = true) : ∀ x ∈ [u], x.oneCell' = true := by simpa using h

/-- The cells of a slice of bytes. -/
def u8s (l : List UInt8) : List Value := l.map fun c => Value.int .u8 (c.toNat : Int)
theorem u8s_append (l m : List UInt8) : u8s (l ++ m) = u8s l ++ u8s m := by simp [u8s]
theorem u8s_length (l : List UInt8) : (u8s l).length = l.length := by simp [u8s]

theorem run_str_own {P : Program} {w : World} {base : Nat} {e : TypeId} {v : Value} {n : Nat} {l : List UInt8} (src dst : TypeId)
    (hs : P.underlying src = some (.slice e)) (he : P.underlying e = some (.int .u8)) (hd : P.underlying dst = some .string)
    (h : w.ownsRow base e 1 v n (u8s l)) : (convert src dst v).run P w = .ok (.string (bs l)) w := by
  have hn : n = l.length := by have := h.1; simp [u8s_length] at this; exact this.symm
  rcases h.2 with ⟨rfl, h0⟩ | ⟨g, cap, cur, rfl, _, hg, _, _, hsz, ht⟩
  · have : l = [] := List.eq_nil_of_length_eq_zero (by omega)
    subst this
    rw [run_convert_bytes_nil w src e hs he _ _ dst hd]
    rfl
  · rw [run_convert_bytes_arg w src e hs he g 0 n cap (l.map fun c => (c.toNat : Int)) (by simp [hn]) (fun i hi => ?_) dst hd]
    · congr 1
      congr 1
      simp [strOfNums, bs, Function.comp_def]
    · have hc := h.cells (g := g) rfl i (.int .u8 ((l.map fun c => (c.toNat : Int)).getD i 0)) (by
        have hil : i < l.length := by omega
        simp [u8s, hil])
      have hadd : (⟨g, 0, none⟩ : Addr).add i = ⟨g, i, none⟩ := by unfold Addr.add; split <;> simp_all
      rw [hadd] at hc
      simpa using hc

/-- The value of a hexadecimal digit, -1 for another byte. -/
def hexv (c : UInt8) : Int := if 48 <= (c.toNat : Int) /\ (c.toNat : Int) <= 57 then (c.toNat : Int) - 48 else if 97 <= (c.toNat : Int) /\ (c.toNat : Int) <= 102 then (c.toNat : Int) - 87 else -1
theorem hexv_bd (c : UInt8) : -1 <= hexv c /\ hexv c <= 15 := by
  unfold hexv
  split
  · omega
  · split <;> omega
theorem hexv_index : ∀ c : UInt8, Lib.indexByte hexConst.data.toList c = hexv c := by
  have h : ∀ n : Fin 256, Lib.indexByte hexConst.data.toList (UInt8.ofNat n.val) = hexv (UInt8.ofNat n.val) := by decide +kernel
  intro c
  have := h ⟨c.toNat, c.toNat_lt⟩
  simpa using this
/-- The number that digits stand for. -/
def hexval (l : List UInt8) : Int := l.foldl (fun a c => 16 * a + hexv c) 0
theorem hexval_snoc (l : List UInt8) (c : UInt8) : hexval (l ++ [c]) = 16 * hexval l + hexv c := by simp [hexval]
theorem hexval_bd : ∀ (k : Nat) (l : List UInt8), l.length = k -> (∀ c ∈ l, 0 <= hexv c) -> 0 <= hexval l /\ hexval l < 16 ^ k := by
  intro k
  induction k with
  | zero => intro l hl _; have : l = [] := List.eq_nil_of_length_eq_zero hl; subst this; simp [hexval]
  | succ k ih =>
    intro l hl h
    have hne : l ≠ [] := by intro e; subst e; simp at hl
    have e := List.dropLast_concat_getLast hne
    have hd : l.dropLast.length = k := by simp [hl]
    have := ih l.dropLast hd (fun c hc => h c (List.dropLast_subset _ hc))
    have hx := hexv_bd (l.getLast hne)
    have h0 := h _ (List.getLast_mem hne)
    rw [<- e, hexval_snoc]
    generalize hexval l.dropLast = a at *
    generalize hexv (l.getLast hne) = b at *
    rw [Int.pow_succ]
    generalize (16 : Int) ^ k = p at *
    omega
def pwb (l : List UInt8) : Bool := l.length == 8 && l.all fun c => decide (0 <= hexv c)
def pwv (l : List UInt8) : Int := if pwb l then hexval l else 0
theorem take_snoc (s : ByteArray) (k : Nat) (h : k < s.size) : s.data.toList.take (k + 1) = s.data.toList.take k ++ [s[k]] := by
  rw [List.take_succ_eq_append_getElem (by simpa using h)]; rfl
theorem pwb_bad {s : ByteArray} {k : Nat} (h : k < s.size) (hx : hexv s[k] < 0) : pwb s.data.toList = false := by
  have hm : s[k] ∈ s.data.toList := by
    have : s[k] = s.data.toList[k]'(by simpa using h) := rfl
    rw [this]; exact List.getElem_mem _
  unfold pwb
  rw [Bool.and_eq_false_iff]
  right
  rw [List.all_eq_false]
  exact ⟨_, hm, by rw [decide_eq_true_iff]; omega⟩
theorem pwb_good {s : ByteArray} (h : s.size = 8) (hx : ∀ c ∈ s.data.toList.take 8, 0 <= hexv c) : pwb s.data.toList = true := by
  have hl : s.data.toList.length = 8 := h
  rw [List.take_of_length_le (by omega)] at hx
  unfold pwb
  rw [hl, List.all_eq_true.2 (fun c hc => by rw [decide_eq_true_iff]; exact hx c hc)]
  rfl
theorem i64_or_shift (a d : Int) (h0 : 0 <= a) (h1 : a <= 4294967295) (h2 : 0 <= d) (h3 : d < 16) : bits .or .i64 (a * 16) d = 16 * a + d := by
  obtain ⟨m, rfl⟩ := Int.eq_ofNat_of_zero_le h0
  obtain ⟨n, rfl⟩ := Int.eq_ofNat_of_zero_le h2
  have h := i64_or_nat (m * 16) n (by omega) (by omega)
  rw [nat_join 4 (m * 16) n (by omega) (by omega)] at h
  rw [show ((m : Int) * 16) = ((m * 16 : Nat) : Int) by omega, h]
  omega
theorem pow16_le (k : Nat) (h : k <= 7) : (16 : Int) ^ k <= 268435456 := by
  have : ∀ k, k < 8 -> (16 : Int) ^ k <= 268435456 := by decide
  exact this k (by omega)
theorem size_toList (s : ByteArray) : s.size = s.data.toList.length := rfl
theorem pw_bad {l : List UInt8} (h : pwb l = false) : Ending.returned (.tuple #[.int .i64 0, .bool false]) = .returned (.tuple #[.int .i64 (pwv l), .bool (pwb l)]) := by
  simp [pwv, h]
theorem pw_good {l : List UInt8} (h : pwb l = true) : Ending.returned (.tuple #[.int .i64 (hexval l), .bool true]) = .returned (.tuple #[.int .i64 (pwv l), .bool (pwb l)]) := by
  simp [pwv, h]
theorem pwb_short {s : ByteArray} (h : ¬ s.size = 8) : pwb s.data.toList = false := by
  unfold pwb
  have : (s.data.toList.length == 8) = false := by rw [<- size_toList]; simpa using h
  rw [this]
  rfl
theorem all_snoc {l m : List UInt8} {c : UInt8} (e : m = l ++ [c]) (h : Hid (∀ x ∈ l, 0 <= hexv x)) (hc : ¬ hexv c < 0) : Hid (∀ x ∈ m, 0 <= hexv x) := by
  subst e
  intro x hx
  rcases List.mem_append.1 hx with hx | hx
  · exact h x hx
  · have : x = c := by simpa using hx
    subst this
    omega

/-! Slices that read as a list; blocks that are known whole (after howto/extra-words.md). -/
/-- The slice value '.slice A n c' holds the cells xs ('size' cells an element) and lies below block B. -/
def Reads (w : World) (B size : Nat) (A : Option Addr) (n : Nat) (xs : List Value) : Prop :=
  xs.length = n * size /\ (0 < n -> ∃ b off, A = some ⟨b, off, none⟩ /\ b < B /\ ∀ j u, xs[j]? = some u -> w.cell? ⟨b, off + j, none⟩ = some u)

section
variable {w w' : World} {B B' size n : Nat} {A : Option Addr} {xs : List Value}
theorem Reads.none_ : Reads w B size A 0 [] := ⟨by simp, fun h => absurd h (by omega)⟩
theorem Reads.at_ {k : Nat} (h : Reads w B 1 A n xs) (hk : k < n) : ∃ b off u, A = some ⟨b, off, none⟩ /\ b < B /\ xs[k]? = some u /\ w.cell? ⟨b, off + k, none⟩ = some u := by
  obtain ⟨b, off, e, hb, hc⟩ := h.2 (by omega)
  have hl : k < xs.length := by have := h.1; omega
  exact ⟨b, off, xs[k], e, hb, List.getElem?_eq_getElem hl, hc k _ (List.getElem?_eq_getElem hl)⟩
theorem Reads.keep (h : Reads w B size A n xs) (hk : ∀ p : Addr, p.block < B -> w'.cell? p = w.cell? p) : Reads w' B size A n xs :=
  ⟨h.1, fun hn => by
    obtain ⟨b, off, e, hb, hc⟩ := h.2 hn
    exact ⟨b, off, e, hb, fun j u hu => (hk _ hb).trans (hc j u hu)⟩⟩
theorem Reads.more (h : Reads w B size A n xs) (hB : B <= B') : Reads w B' size A n xs :=
  ⟨h.1, fun hn => by
    obtain ⟨b, off, e, hb, hc⟩ := h.2 hn
    exact ⟨b, off, e, by omega, hc⟩⟩
theorem Reads.below (h : Reads w B size A n xs) (hb : Below B w w') : Reads w' B size A n xs := h.keep fun _ hp => hb.cell hp
theorem Reads.drew (h : Reads w B size A n xs) : Reads w.drew B size A n xs := h
theorem Reads.drewN (h : Reads w B size A n xs) (k : Nat) : Reads (w.drewN k) B size A n xs := h
theorem Reads.alloc (h : Reads w B size A n xs) (hB : B <= w.heap.size) (o : Obj) : Reads (w.alloc o) B size A n xs := h.keep fun p hp => World.cell?_alloc_lt w o p (by omega)
theorem Reads.setCell (h : Reads w B size A n xs) {p : Addr} (hB : B <= p.block) (u : Value) : Reads (w.setCell p u) B size A n xs :=
  h.keep fun q hq => World.cell?_setCell_other w p q u (fun e => by subst e; omega)
theorem Reads.grown (h : Reads w B size A n xs) {row : Option Nat} (hg : w.grownBy w' row) (hB : B <= w.heap.size) (hr : ∀ g, row = some g -> B <= g) : Reads w' B size A n xs :=
  h.keep fun p hp => World.cell?_of_block (hg.block p.block (by omega) (fun e => by have := hr _ e.symm; omega))
theorem Reads.of_own {base : Nat} {e : TypeId} {c : Nat} (h : w.ownsRow base e size (.slice A n c) n xs) : Reads w w.heap.size size A n xs := by
  refine ⟨h.1, fun hn => ?_⟩
  obtain ⟨g, cap, hv, _, hlt⟩ := h.form hn
  have hA : A = some ⟨g, 0, none⟩ := by injection hv
  subst hA
  refine ⟨g, 0, rfl, hlt, fun j u hu => ?_⟩
  have hc := h.cells (g := g) rfl j u hu
  have hadd : (⟨g, 0, none⟩ : Addr).add j = ⟨g, 0 + j, none⟩ := by unfold Addr.add; split <;> simp_all
  rwa [hadd] at hc
/-- Of a slice whose elements have two cells: those of element k. -/
theorem Reads.at2 {k : Nat} (h : Reads w B 2 A n xs) (hk : k < n) :
    ∃ b off u v, A = some ⟨b, off, none⟩ /\ b < B /\ xs[k * 2]? = some u /\ xs[k * 2 + 1]? = some v /\ w.cell? ⟨b, off + k * 2, none⟩ = some u /\ w.cell? ⟨b, off + k * 2 + 1, none⟩ = some v := by
  obtain ⟨b, off, e, hb, hc⟩ := h.2 (by omega)
  have hl := h.1
  have h0 : k * 2 < xs.length := by omega
  have h1 : k * 2 + 1 < xs.length := by omega
  exact ⟨b, off, _, _, e, hb, List.getElem?_eq_getElem h0, List.getElem?_eq_getElem h1, hc _ _ (List.getElem?_eq_getElem h0), hc _ _ (List.getElem?_eq_getElem h1)⟩
end
def Blk (w : World) (g : Nat) (t : TypeId) (cs : Array Value) : Prop := w.heap[g]? = some (.cells cs t (0, 0))

section
variable {w w' : World} {g : Nat} {t : TypeId} {cs : Array Value}
theorem Blk.lt (h : Blk w g t cs) : g < w.heap.size := by
  rcases Nat.lt_or_ge g w.heap.size with hlt | hge
  · exact hlt
  · unfold Blk at h; rw [Array.getElem?_eq_none hge] at h; cases h
theorem Blk.cell (h : Blk w g t cs) (i : Nat) : w.cell? ⟨g, i, none⟩ = cs[i]? := cell_of_row w g i cs t (0, 0) h
theorem Blk.frozen (h : Blk w g t cs) (i : Nat) : w.frozen? ⟨g, i, none⟩ = false := by
  unfold Blk at h
  simp [World.frozen?, h]
theorem Blk.new (w : World) (t : TypeId) (cs : Array Value) : Blk (w.alloc (.cells cs t)) w.heap.size t cs := heap_alloc_new w _
theorem Blk.drew (h : Blk w g t cs) : Blk w.drew g t cs := h
theorem Blk.drewN (h : Blk w g t cs) (n : Nat) : Blk (w.drewN n) g t cs := h
theorem Blk.alloc (h : Blk w g t cs) (o : Obj) : Blk (w.alloc o) g t cs := (Below.heap_alloc w o g h.lt).trans h
theorem Blk.set_ (h : Blk w g t cs) (i : Nat) (u : Value) : Blk (w.setCell ⟨g, i, none⟩ u) g t (cs.setIfInBounds i u) := by
  unfold Blk at h ⊢
  simp [World.setCell, Array.getElem?_modify, h]
theorem Blk.far (h : Blk w g t cs) {p : Addr} (hp : g ≠ p.block) (u : Value) : Blk (w.setCell p u) g t cs := (Below.heap_setCell w p u g hp).trans h
theorem Blk.below {B : Nat} (h : Blk w g t cs) (hb : Below B w w') (hg : g < B) : Blk w' g t cs := (hb.block g hg).trans h
theorem Blk.grown {row : Option Nat} (h : Blk w g t cs) (hb : w.grownBy w' row) (hg : some g ≠ row) : Blk w' g t cs := (hb.block g h.lt hg).trans h
theorem Blk.ne_ {g' : Nat} {t' : TypeId} {cs' : Array Value} (h : Blk w g t cs) (h' : Blk w g' t' cs') (hne : t ≠ t') : g ≠ g' := by
  rintro rfl
  unfold Blk at h h'
  rw [h] at h'
  injection h' with h'
  injection h' with _ ht
  exact hne ht
theorem own_blk_ne {base : Nat} {e : TypeId} {size n : Nat} {v : Value} {xs : List Value} (h : w.ownsRow base e size v n xs) (hg : Blk w g t cs) (hne : e ≠ t) : v.ownBlock ≠ some g := by
  rcases h.2 with ⟨rfl, _⟩ | ⟨g', cap, cur, rfl, _, hh, _⟩
  · simp [Value.ownBlock]
  · intro he
    have : g' = g := by simpa [Value.ownBlock] using he
    subst this
    exact Blk.ne_ (t := e) hh hg hne rfl
end
theorem Blk.new' {w : World} {n : Nat} {t : TypeId} {cs : Array Value} (h : n = w.heap.size) : Blk (w.alloc (.cells cs t)) n t cs := by
  subst h
  exact Blk.new w t cs
theorem grownBy_trans {a b c : World} {r : Option Nat} (h : a.grownBy b r) (k : b.grownBy c r) : a.grownBy c r :=
  ⟨k.os.trans h.os, k.tape.trans h.tape, k.output.trans h.output, Nat.le_trans h.size k.size, fun i hi hne => (k.block i (Nat.lt_of_lt_of_le hi h.size) hne).trans (h.block i hi hne)⟩
theorem grownBy_drewN {w w' : World} {r : Option Nat} (h : w.grownBy w' r) (n : Nat) : w.grownBy (w'.drewN n) r := ⟨h.os, h.tape, h.output, h.size, h.block⟩
theorem grownBy_drew {w w' : World} {r : Option Nat} (h : w.grownBy w' r) : w.grownBy w'.drew r := ⟨h.os, h.tape, h.output, h.size, h.block⟩
theorem grownBy_alloc {a w : World} {r : Option Nat} (h : a.grownBy w r) (o : Obj) : a.grownBy (w.alloc o) r :=
  ⟨h.os, h.tape, h.output, Nat.le_trans h.size (by simp), fun i hi hne => (Below.heap_alloc w o i (Nat.lt_of_lt_of_le hi h.size)).trans (h.block i hi hne)⟩
theorem grownBy_set {a w : World} {r : Option Nat} (h : a.grownBy w r) {p : Addr} (hp : a.heap.size <= p.block \/ some p.block = r) (u : Value) : a.grownBy (w.setCell p u) r :=
  ⟨h.os, h.tape, h.output, by simpa [World.setCell] using h.size, fun i hi hne => (Below.heap_setCell w p u i (by
    rintro rfl
    rcases hp with hp | hp
    · omega
    · exact hne hp)).trans (h.block i hi hne)⟩
theorem grownBy_below {a w w' : World} {r : Option Nat} {B : Nat} (h : a.grownBy w r) (hb : Below B w w') (hB : a.heap.size <= B) : a.grownBy w' r :=
  ⟨hb.os.trans h.os, hb.tape.trans h.tape, hb.output.trans h.output, Nat.le_trans h.size hb.size, fun i hi hn => (hb.block i (by omega)).trans (h.block i hi hn)⟩
theorem grownBy_new {a w w' : World} {r : Option Nat} {g : Nat} (h : a.grownBy w r) (hb : w.grownBy w' (some g)) (hg : a.heap.size <= g \/ some g = r) : a.grownBy w' r :=
  ⟨hb.os.trans h.os, hb.tape.trans h.tape, hb.output.trans h.output, Nat.le_trans h.size hb.size, fun i hi hn => (hb.block i (Nat.lt_of_lt_of_le hi h.size) (fun e => by
    injection e with e
    subst e
    rcases hg with hg | hg
    · omega
    · exact hn hg)).trans (h.block i hi hn)⟩
/-- What is the call's own from B on may be written: below B nothing has turned. -/
theorem below_grown {w0 w w' : World} {B g : Nat} (h : Below B w0 w) (hg : w.grownBy w' (some g)) (hB : B <= g) (hs : B <= w.heap.size) : Below B w0 w' :=
  h.grown hg hs (fun k hk => by injection hk; omega)
/-- All old cells and all old marks read as before (the walk uses the two as rules). -/
theorem bcell {W w1 : World} {B : Nat} (hb : Below B W w1) : (∀ b o, b < B -> w1.cell? ⟨b, o, none⟩ = W.cell? ⟨b, o, none⟩) /\ (∀ b o, b < B -> w1.frozen? ⟨b, o, none⟩ = W.frozen? ⟨b, o, none⟩) :=
  ⟨fun b o h => hb.cell (p := ⟨b, o, none⟩) h, fun b o h => hb.frozen (p := ⟨b, o, none⟩) h⟩
theorem Reads.of_block {w : World} {g B n size cap : Nat} {t : TypeId} {cs : Array Value} (h : Blk w g t cs) (hg : g < B) (hs : cs.size = cap * size) (hn : n <= cap) :
    Reads w B size (some ⟨g, 0, none⟩) n (cs.toList.take (n * size)) := by
  have hm : n * size <= cap * size := Nat.mul_le_mul_right _ hn
  refine ⟨by rw [List.length_take, Array.length_toList, hs]; omega, fun _ => ⟨g, 0, rfl, hg, fun j u hu => ?_⟩⟩
  rw [Nat.zero_add, h.cell j]
  rw [List.getElem?_take] at hu
  split at hu
  · simpa using hu
  · cases hu
theorem all_next {α : Type} {f : α -> Bool} {l : List α} {k : Nat} (h : (l.take k).all f = true) (hk : k < l.length) (hf : f l[k] = true) : Hid ((l.take (k + 1)).all f = true) := by
  show (l.take (k + 1)).all f = true
  rw [List.take_succ_eq_append_getElem hk, List.all_append, h]
  simp [hf]
theorem all_stop {α : Type} {f : α -> Bool} {l : List α} {k : Nat} (hk : k < l.length) (hf : f l[k] = false) : l.all f = false := by
  rw [List.all_eq_false]
  exact ⟨l[k], List.getElem_mem hk, by simp [hf]⟩
def ints (l : List Int) : List Value := l.map (Value.int .i64)
theorem ints_length (l : List Int) : (ints l).length = l.length := by simp [ints]
/-- A slice of ints that reads as a list, below block B. -/
def Ints (w : World) (B : Nat) (A : Option Addr) (l : List Int) : Prop := Reads w B 1 A l.length (ints l)
theorem Ints.at_ {w : World} {B : Nat} {A : Option Addr} {l : List Int} {k : Nat} (h : Ints w B A l) (hk : k < l.length) : ∃ b off, A = some ⟨b, off, none⟩ /\ b < B /\ w.cell? ⟨b, off + k, none⟩ = some (.int .i64 l[k]) := by
  obtain ⟨b, off, u, e, hb, hu, hc⟩ := Reads.at_ h hk
  refine ⟨b, off, e, hb, ?_⟩
  have : u = .int .i64 l[k] := by simpa [ints, hk] using hu.symm
  rw [hc, this]
theorem Ints.keep {w w' : World} {B : Nat} {A : Option Addr} {l : List Int} (h : Ints w B A l) (hk : ∀ p : Addr, p.block < B -> w'.cell? p = w.cell? p) : Ints w' B A l := Reads.keep h hk
theorem Ints.below {w w' : World} {B B' : Nat} {A : Option Addr} {l : List Int} (h : Ints w B A l) (hb : Below B' w w') (hB : B <= B') : Ints w' B A l := h.keep fun _ hp => hb.cell (by omega)
theorem Ints.more {w : World} {B B' : Nat} {A : Option Addr} {l : List Int} (h : Ints w B A l) (hB : B <= B') : Ints w B' A l := Reads.more h hB
theorem own_form {w : World} {base n size : Nat} {e : TypeId} {v : Value} {xs : List Value} (h : w.ownsRow base e size v n xs) : ∃ A c, v = .slice A n c := by
  rcases h.2 with ⟨rfl, rfl⟩ | ⟨g, cap, cur, rfl, _⟩
  · exact ⟨none, 0, rfl⟩
  · exact ⟨_, _, rfl⟩
theorem own_below {w w' : World} {base n size B : Nat} {e : TypeId} {v : Value} {xs : List Value} (h : w.ownsRow base e size v n xs) (hb : Below B w w') (hB : w.heap.size <= B) : w'.ownsRow base e size v n xs := by
  refine ⟨h.1, ?_⟩
  rcases h.2 with h' | ⟨g, cap, cur, hv, hg, hh, r⟩
  · exact .inl h'
  · exact .inr ⟨g, cap, cur, hv, hg, (hb.block g (by have := (Array.getElem?_eq_some_iff.1 hh).1; omega)).trans hh, r⟩
theorem Ints.to {w w' : World} {B : Nat} {A : Option Addr} {l : List Int} (h : Ints w B A l) (hb : Below B w w') (hB : B <= w'.heap.size) : Ints w' w'.heap.size A l := (h.below hb (Nat.le_refl _)).more hB
theorem own_made' {w : World} {base n size : Nat} {e : TypeId} (h : n = w.heap.size) (hb : base <= w.heap.size) : (w.alloc (.cells #[] e)).ownsRow base e size (.slice (some ⟨n, 0, none⟩) 0 0) 0 [] := by
  subst h
  exact World.ownsRow_made w #[] 0 hb (Nat.zero_le _) (by simp)
end Go.Proofs.YtckjagaogcbedaaGreat
