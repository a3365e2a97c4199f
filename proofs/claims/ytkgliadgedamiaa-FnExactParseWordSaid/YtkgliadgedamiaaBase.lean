/- Plain lemmas without the program: bytes, hexadecimal digits, bits, slices that own a row. Nothing here is a claim. -/
import Derived.WalkKit
import Derived.Laws.BitsAllLaws
import Derived.Laws.BitsLemmas
import Derived.Lib.Hide
import Derived.Deep.Draws
import Derived.Lib.Bytealg
namespace Go.Proofs.Ytkgliadgedamiaa
open Go.RowKit

theorem ret_int {k : IntKind} {a b : Int} (h : a = b) : Ending.returned (.int k a) = .returned (.int k b) := by rw [h]
theorem ret_str {a b : ByteArray} (h : a = b) : Ending.returned (.string a) = .returned (.string b) := by rw [h]

/-- A string of bytes. -/
def bs (l : List UInt8) : ByteArray := ⟨l.toArray⟩
theorem bs_append (l m : List UInt8) : bs l ++ bs m = bs (l ++ m) := by
  apply ByteArray.ext
  simp [bs]
theorem bs_size (l : List UInt8) : (bs l).size = l.length := by simp [bs, ByteArray.size]
theorem bs_toList (s : ByteArray) : bs s.data.toList = s := by simp [bs]

theorem ofInt_i64 (a : Nat) (ha : a < 9223372036854775808) : (BitVec.ofInt 64 (a : Int)).toNat = a := by
  rw [BitVec.ofInt_natCast, BitVec.toNat_ofNat]; exact Nat.mod_eq_of_lt (by omega)
theorem i64_and_nat (a b : Nat) (ha : a < 9223372036854775808) (hb : b < 9223372036854775808) : bits .and .i64 (a : Int) (b : Int) = ((a &&& b : Nat) : Int) := by
  have hx : a &&& b < 2 ^ 63 := Nat.and_lt_two_pow _ (by omega)
  show IntKind.i64.wrap ((BitVec.ofInt 64 (a : Int) &&& BitVec.ofInt 64 (b : Int)).toNat : Int) = _
  rw [BitVec.toNat_and, ofInt_i64 a ha, ofInt_i64 b hb, IntKind.wrap_i64]
  omega
theorem i64_or_nat (a b : Nat) (ha : a < 9223372036854775808) (hb : b < 9223372036854775808) : bits .or .i64 (a : Int) (b : Int) = ((a ||| b : Nat) : Int) := by
  have hx : a ||| b < 2 ^ 63 := Nat.or_lt_two_pow (by omega) (by omega)
  show IntKind.i64.wrap ((BitVec.ofInt 64 (a : Int) ||| BitVec.ofInt 64 (b : Int)).toNat : Int) = _
  rw [BitVec.toNat_or, ofInt_i64 a ha, ofInt_i64 b hb, IntKind.wrap_i64]
  omega
theorem i64_xor_nat (a b : Nat) (ha : a < 9223372036854775808) (hb : b < 9223372036854775808) : bits .xor .i64 (a : Int) (b : Int) = ((a ^^^ b : Nat) : Int) := by
  have hx : a ^^^ b < 2 ^ 63 := Nat.xor_lt_two_pow (by omega) (by omega)
  show IntKind.i64.wrap ((BitVec.ofInt 64 (a : Int) ^^^ BitVec.ofInt 64 (b : Int)).toNat : Int) = _
  rw [BitVec.toNat_xor, ofInt_i64 a ha, ofInt_i64 b hb, IntKind.wrap_i64]
  omega
theorem i64_and15 (a : Int) (h0 : 0 ≤ a) (h1 : a ≤ 9223372036854775807) : bits .and .i64 a 15 = ((a.toNat % 16 : Nat) : Int) := by
  obtain ⟨n, rfl⟩ := Int.eq_ofNat_of_zero_le h0
  have h := i64_and_nat n 15 (by omega) (by omega)
  rw [nat_mask4] at h
  simpa using h

/-- Whether n lies from a to b. -/
def inB (n a b : Int) : Bool := decide (a ≤ n ∧ n ≤ b)
theorem inB_true {n a b : Int} (h : inB n a b = true) : a ≤ n ∧ n ≤ b := by simpa [inB] using h
theorem inB_false {n a b : Int} (h : inB n a b = false) : ¬ (a ≤ n ∧ n ≤ b) := by simpa [inB] using h
theorem inB_mk {n a b : Int} (h : a ≤ n) (h' : n ≤ b) : inB n a b = true := by simp [inB, h, h']
theorem inB_not {n a b : Int} (h : ¬ (a ≤ n ∧ n ≤ b)) : inB n a b = false := by simpa [inB] using h

/-- The digit of a number below 16. -/
def hexc (d : Nat) : UInt8 := if d < 10 then UInt8.ofNat (48 + d) else UInt8.ofNat (87 + d)
def hexConst : ByteArray := { data := #[48, 49, 50, 51, 52, 53, 54, 55, 56, 57, 97, 98, 99, 100, 101, 102] }
theorem hex_cut : ∀ d : Nat, d < 16 → hexConst.extract d (d + 1) = bs [hexc d] := by decide
theorem hexc_toNat : ∀ d : Nat, d < 16 → ((hexc d).toNat : Int) = if (d : Int) < 10 then 48 + (d : Int) else 87 + (d : Int) := by decide

/-- The first k of the eight digits of a word. -/
def fwd (x : Nat) (j : Nat) : Nat := x / 2 ^ (28 - 4 * j) % 16
def fw (x : Nat) (k : Nat) : List UInt8 := (List.range k).map fun j => hexc (fwd x j)
theorem fw_succ (x k : Nat) : fw x (k + 1) = fw x k ++ [hexc (fwd x k)] := by simp [fw, List.range_succ]
theorem fw_length (x k : Nat) : (fw x k).length = k := by simp [fw]
theorem fwd_lt (x j : Nat) : fwd x j < 16 := by unfold fwd; omega

theorem own_step {w0 wr w1 : World} {B : Nat} {e : TypeId} {size n : Nat} {v : Value} {xs : List Value} {o : Obj} (hbel : Below B w0 wr) (hB : B ≤ wr.heap.size)
    (hown : wr.ownsRow B e size v n xs) (hg : (wr.alloc o).grownBy w1 v.ownBlock) : Below B w0 w1 :=
  (hbel.alloc hB o).grown hg (by simp; omega) (fun k hk => (hown.lt k hk).1)
theorem oneCell_one {u : Value} (h : u.oneCell' = true) : ∀ x ∈ [u], x.oneCell' = true := by simpa using h

/-- The cells of a slice of bytes. -/
def u8s (l : List UInt8) : List Value := l.map fun c => Value.int .u8 (c.toNat : Int)
theorem u8s_append (l m : List UInt8) : u8s (l ++ m) = u8s l ++ u8s m := by simp [u8s]
theorem u8s_length (l : List UInt8) : (u8s l).length = l.length := by simp [u8s]

theorem run_str_own {P : Program} {w : World} {base : Nat} {e : TypeId} {v : Value} {n : Nat} {l : List UInt8} (src dst : TypeId)
    (hs : P.underlying src = some (.slice e)) (he : P.underlying e = some (.int .u8)) (hd : P.underlying dst = some .string)
    (h : w.ownsRow base e 1 v n (u8s l)) : (convert src dst v).run P w = .ok (.string (bs l)) w := by
  have hn : n = l.length := by have := h.1; simp [u8s_length] at this; exact this.symm
  rcases h.2 with ⟨rfl, h0⟩ | ⟨g, cap, cur, rfl, _, hg, _, _, hsz, ht⟩
  · have : l = [] := List.eq_nil_of_length_eq_zero (by omega)
    subst this
    rw [run_convert_bytes_nil w src e hs he _ _ dst hd]
    rfl
  · rw [run_convert_bytes_arg w src e hs he g 0 n cap (l.map fun c => (c.toNat : Int)) (by simp [hn]) (fun i hi => ?_) dst hd]
    · congr 1
      congr 1
      simp [strOfNums, bs, Function.comp_def]
    · have hc := h.cells (g := g) rfl i (.int .u8 ((l.map fun c => (c.toNat : Int)).getD i 0)) (by
        have hil : i < l.length := by omega
        simp [u8s, hil])
      have hadd : (⟨g, 0, none⟩ : Addr).add i = ⟨g, i, none⟩ := by unfold Addr.add; split <;> simp_all
      rw [hadd] at hc
      simpa using hc

/-- The value of a hexadecimal digit, -1 for another byte. -/
def hexv (c : UInt8) : Int := if 48 ≤ (c.toNat : Int) ∧ (c.toNat : Int) ≤ 57 then (c.toNat : Int) - 48 else if 97 ≤ (c.toNat : Int) ∧ (c.toNat : Int) ≤ 102 then (c.toNat : Int) - 87 else -1
theorem hexv_bd (c : UInt8) : -1 ≤ hexv c ∧ hexv c ≤ 15 := by
  unfold hexv
  split
  · omega
  · split <;> omega
theorem hexv_index : ∀ c : UInt8, Lib.indexByte hexConst.data.toList c = hexv c := by
  have h : ∀ n : Fin 256, Lib.indexByte hexConst.data.toList (UInt8.ofNat n.val) = hexv (UInt8.ofNat n.val) := by decide +kernel
  intro c
  have := h ⟨c.toNat, c.toNat_lt⟩
  simpa using this
/-- The number that digits stand for. -/
def hexval (l : List UInt8) : Int := l.foldl (fun a c => 16 * a + hexv c) 0
theorem hexval_snoc (l : List UInt8) (c : UInt8) : hexval (l ++ [c]) = 16 * hexval l + hexv c := by simp [hexval]
theorem hexval_bd : ∀ (k : Nat) (l : List UInt8), l.length = k → (∀ c ∈ l, 0 ≤ hexv c) → 0 ≤ hexval l ∧ hexval l < 16 ^ k := by
  intro k
  induction k with
  | zero => intro l hl _; have : l = [] := List.eq_nil_of_length_eq_zero hl; subst this; simp [hexval]
  | succ k ih =>
    intro l hl h
    have hne : l ≠ [] := by intro e; subst e; simp at hl
    have e := List.dropLast_concat_getLast hne
    have hd : l.dropLast.length = k := by simp [hl]
    have := ih l.dropLast hd (fun c hc => h c (List.dropLast_subset _ hc))
    have hx := hexv_bd (l.getLast hne)
    have h0 := h _ (List.getLast_mem hne)
    rw [← e, hexval_snoc]
    generalize hexval l.dropLast = a at *
    generalize hexv (l.getLast hne) = b at *
    rw [Int.pow_succ]
    generalize (16 : Int) ^ k = p at *
    omega
def pwb (l : List UInt8) : Bool := l.length == 8 && l.all fun c => decide (0 ≤ hexv c)
def pwv (l : List UInt8) : Int := if pwb l then hexval l else 0
theorem take_snoc (s : ByteArray) (k : Nat) (h : k < s.size) : s.data.toList.take (k + 1) = s.data.toList.take k ++ [s[k]] := by
  rw [List.take_succ_eq_append_getElem (by simpa using h)]; rfl
theorem pwb_bad {s : ByteArray} {k : Nat} (h : k < s.size) (hx : hexv s[k] < 0) : pwb s.data.toList = false := by
  have hm : s[k] ∈ s.data.toList := by
    have : s[k] = s.data.toList[k]'(by simpa using h) := rfl
    rw [this]; exact List.getElem_mem _
  unfold pwb
  rw [Bool.and_eq_false_iff]
  right
  rw [List.all_eq_false]
  exact ⟨_, hm, by rw [decide_eq_true_iff]; omega⟩
theorem pwb_good {s : ByteArray} (h : s.size = 8) (hx : ∀ c ∈ s.data.toList.take 8, 0 ≤ hexv c) : pwb s.data.toList = true := by
  have hl : s.data.toList.length = 8 := h
  rw [List.take_of_length_le (by omega)] at hx
  unfold pwb
  rw [hl, List.all_eq_true.2 (fun c hc => by rw [decide_eq_true_iff]; exact hx c hc)]
  rfl
theorem i64_or_shift (a d : Int) (h0 : 0 ≤ a) (h1 : a ≤ 4294967295) (h2 : 0 ≤ d) (h3 : d < 16) : bits .or .i64 (a * 16) d = 16 * a + d := by
  obtain ⟨m, rfl⟩ := Int.eq_ofNat_of_zero_le h0
  obtain ⟨n, rfl⟩ := Int.eq_ofNat_of_zero_le h2
  have h := i64_or_nat (m * 16) n (by omega) (by omega)
  rw [nat_join 4 (m * 16) n (by omega) (by omega)] at h
  rw [show ((m : Int) * 16) = ((m * 16 : Nat) : Int) by omega, h]
  omega
theorem pow16_le (k : Nat) (h : k ≤ 7) : (16 : Int) ^ k ≤ 268435456 := by
  have : ∀ k, k < 8 → (16 : Int) ^ k ≤ 268435456 := by decide
  exact this k (by omega)
theorem size_toList (s : ByteArray) : s.size = s.data.toList.length := rfl
theorem pw_bad {l : List UInt8} (h : pwb l = false) : Ending.returned (.tuple #[.int .i64 0, .bool false]) = .returned (.tuple #[.int .i64 (pwv l), .bool (pwb l)]) := by
  simp [pwv, h]
theorem pw_good {l : List UInt8} (h : pwb l = true) : Ending.returned (.tuple #[.int .i64 (hexval l), .bool true]) = .returned (.tuple #[.int .i64 (pwv l), .bool (pwb l)]) := by
  simp [pwv, h]
theorem pwb_short {s : ByteArray} (h : ¬ s.size = 8) : pwb s.data.toList = false := by
  unfold pwb
  have : (s.data.toList.length == 8) = false := by rw [← size_toList]; simpa using h
  rw [this]
  rfl
theorem all_snoc {l m : List UInt8} {c : UInt8} (e : m = l ++ [c]) (h : Hid (∀ x ∈ l, 0 ≤ hexv x)) (hc : ¬ hexv c < 0) : Hid (∀ x ∈ m, 0 ≤ hexv x) := by
  subst e
  intro x hx
  rcases List.mem_append.1 hx with hx | hx
  · exact h x hx
  · have : x = c := by simpa using hx
    subst this
    omega
end Go.Proofs.Ytkgliadgedamiaa
