/-
  Facts of the field of sixteen elements for two wrong symbols, counted out. Nothing here is a claim.
-/
import Derived.Test.YtkgliadgedamiaaG6
import Derived.Test.YtkgliadgedamiaaPCodeD
namespace Go.Proofs.Ytkgliadgedamiaa
open Go.RowKit
set_option linter.unusedVariables false
set_option maxRecDepth 100000
def ivT : Nat := 9460475325918865680
def iv (a : Nat) : Nat := (ivT / 2 ^ (4 * a)) % 16
theorem iv_lt (a : Nat) : iv a < 16 := Nat.mod_lt _ (by decide)
theorem t_iv : (all16 fun a => Nat.beq a 0 || fi_GfInv (Int.ofNat a) == some (Int.ofNat (iv a))) = true := by kernel_rfl
theorem t_log : (all16 fun a => (fi_GfLog (Int.ofNat a)).isSome) = true := by kernel_rfl
def byL : List Nat := [8, 14, 7, 1]
theorem t_div : ((List.range 8).all fun m => all16 fun f => (List.range 3).all fun j =>
    Nat.beq (gm (gm 8 f) (pw (m * j)) ^^^ (gm (gm 14 f) (pw ((m + 1) * j)) ^^^ (gm (gm 7 f) (pw ((m + 2) * j)) ^^^ gm f (pw ((m + 3) * j))))) 0) = true := by kernel_rfl
theorem t_two : ((List.range 11).all fun i => (List.range 11).all fun k => Nat.beq i k || all16 fun e => Nat.beq e 0 || all16 fun f => Nat.beq f 0 ||
    (fun s0 s1 s2 => !(Nat.beq s0 0 && (Nat.beq s1 0 && Nat.beq s2 0)) && (Nat.beq s0 0 || (Nat.beq s1 0 || !Nat.beq (gm s1 (gm s1 (iv s0))) s2)))
      (e ^^^ f) (gm e (pw i) ^^^ gm f (pw k)) (gm e (pw (i * 2)) ^^^ gm f (pw (k * 2)))) = true := by kernel_rfl
end Go.Proofs.Ytkgliadgedamiaa
