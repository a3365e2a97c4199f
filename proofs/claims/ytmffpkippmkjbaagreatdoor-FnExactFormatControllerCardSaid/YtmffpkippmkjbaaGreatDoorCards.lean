/-
  DERIVED. GIVEN WITH THE SEED: THE CARDS: each row of YtmffpkippmkjbaaGreatDoorRows.lean that lists a variable, with what it lists TIED to the program's text (the seventh form; the later family's looks); each row that meets fmt, with fmt's text TOLD by the authors' own Lean function (tested against real Go, not proved from fmt's source: count such statements apart). THE CARD IS WHAT COUNTS. Prove the row's statement (the work); the ties are given (YtmffpkippmkjbaaGreatDoorTie.lean); close each card by the builder's one call (the guide's Derived/Test/ToyasCard.lean, 'card_holds'). Laid BY PROGRAM, IN A SANDBOX (cutbox-door.mjs). By AI agents, Wed Nov 11 2026. No macro, syntax, notation, axiom, sorry.
-/
import Derived.Test.YtmffpkippmkjbaaGreatDoorRows
import GoSem.ClaimSeven
namespace Go.Proofs.YtmffpkippmkjbaaGreatDoor
namespace Rows

/-- THE TIED CARD OF 'laws.FnExactFormatController'. -/
def fnExactFormatControllerCard : Claim7 := { stood := { row := fnExactFormatControllerRow, standIns := [], harness := (true, "cbf78038270c8ac86d18034f92324b9ed23d80a9c351b4a632df944c712555d8"), looks := false }, kinds := [], alts := [], laidByText := true, laidKinds := [.data, .data, .data], laidTests := true, laidLooks := .later }
def FnExactFormatControllerCardSaid : Prop := Claim7.holds Tryz.pinned (.plain (OpenSpec.ofChange fnExactFormatControllerSpec)) fnExactFormatControllerCard

/-- THE SECOND FORM's CARD OF 'laws.FnExactFormatController'. -/
def fnExactFormatControllerUptoCard : Claim7 := { stood := { row := fnExactFormatControllerUptoRow, standIns := [], harness := (true, "cbf78038270c8ac86d18034f92324b9ed23d80a9c351b4a632df944c712555d8"), looks := false }, kinds := [], alts := [], laidByText := true, laidKinds := [.data, .data, .data], laidTests := true, laidLooks := .later }
def FnExactFormatControllerUptoCardSaid : Prop := Claim7.holds Tryz.pinned (.plain (OpenSpec.upto fnExactFormatControllerSpec)) fnExactFormatControllerUptoCard
end Rows
end Go.Proofs.YtmffpkippmkjbaaGreatDoor
