/-
  The code over the field of sixteen elements. Nothing here is a claim.
-/
import Derived.Test.YtkgliadgedamiaaG5
import Derived.Test.YtkgliadgedamiaaPOpened
namespace Go.Proofs.Ytkgliadgedamiaa
open Go.RowKit
set_option linter.unusedVariables false
set_option maxRecDepth 100000

def gmT : Nat := 116196760129267793630862849262464326346044543732748708940920453221664288556434379745879494961270582141731748813355742142288220638766218855867759359510984593843506004200114943278699875244065120512813025380665946106619127097398772031257643617143689515450995722003729973585221105779229319991106539050771048038400
def gm (a b : Nat) : Nat := (gmT / 2 ^ (4 * (16 * a + b))) % 16
def pwT : Nat := 44684875893970114885940500792407720993
def pw (n : Nat) : Nat := (pwT / 2 ^ (4 * n)) % 16
def all16 (f : Nat → Bool) : Bool := (List.range 16).all f
theorem all16_ok {f : Nat → Bool} (h : all16 f = true) {a : Nat} (ha : a < 16) : f a = true := by
  have := List.all_eq_true.1 h a (List.mem_range.2 ha)
  exact this
theorem gm_lt (a b : Nat) : gm a b < 16 := Nat.mod_lt _ (by decide)
theorem pw_lt (n : Nat) : pw n < 16 := Nat.mod_lt _ (by decide)
/-! Facts that the kernel counts out. -/
theorem t_mul : (all16 fun a => all16 fun b => fi_GfMul (Int.ofNat a) (Int.ofNat b) == some (Int.ofNat (gm a b))) = true := by kernel_rfl
theorem t_pow : ((List.range 31).all fun n => fi_GfPow 2 (Int.ofNat n) == some (Int.ofNat (pw n))) = true := by kernel_rfl
theorem t_inv : (all16 fun a => Nat.beq a 0 || (List.range 11).all fun k => (match fi_GfInv (Int.ofNat a) with
    | some y => (match fi_GfMul (Int.ofNat (gm a (pw k))) y with
      | some x => (match fi_GfLog x with
        | some n => decide (n = Int.ofNat k)
        | none => false) && (match fi_GfMul (Int.ofNat (gm a (pw k))) x with
        | some z => decide (z = Int.ofNat (gm a (pw (k * 2))))
        | none => false) && !Nat.beq (gm a (pw k)) 0
      | none => false)
    | none => false)) = true := by kernel_rfl
theorem t_xor : (all16 fun a => all16 fun b => decide (bits .xor .i64 (Int.ofNat a) (Int.ofNat b) = Int.ofNat (a ^^^ b)) && Nat.blt (a ^^^ b) 16) = true := by kernel_rfl
theorem t_lin : (all16 fun a => all16 fun b => all16 fun c => Nat.beq (gm (a ^^^ b) c) (gm a c ^^^ gm b c)) = true := by kernel_rfl
theorem t_one : (all16 fun a => Nat.beq (gm a 1) a && Nat.beq (gm 0 a) 0) = true := by kernel_rfl
theorem t_enc : (all16 fun s0 => all16 fun s1 => all16 fun s2 =>
    (fun y z => (fun x => Nat.beq (gm x 1 ^^^ (gm y 1 ^^^ (gm z 1 ^^^ s0))) 0 && Nat.beq (gm x 1 ^^^ (gm y 2 ^^^ (gm z 4 ^^^ s1))) 0 && Nat.beq (gm x 1 ^^^ (gm y 4 ^^^ (gm z 3 ^^^ s2))) 0) (s0 ^^^ y ^^^ z))
      (gm (gm 2 (s0 ^^^ s1) ^^^ gm 5 (s0 ^^^ s2)) 13) (gm (gm 3 (s0 ^^^ s2) ^^^ gm 5 (s0 ^^^ s1)) 13)) = true := by kernel_rfl
theorem t_i4 : fi_GfInv 4 = some 13 := by kernel_rfl
end Go.Proofs.Ytkgliadgedamiaa
