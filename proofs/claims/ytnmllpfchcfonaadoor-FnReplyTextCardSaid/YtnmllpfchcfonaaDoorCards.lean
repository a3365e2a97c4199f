/-
  DERIVED. GIVEN WITH THE SEED: THE CARDS: each row of YtnmllpfchcfonaaDoorRows.lean that lists a variable, with what it lists TIED to the program's text (the seventh form; the later family's looks); each row that meets fmt, with fmt's text TOLD by the authors' own Lean function (tested against real Go, not proved from fmt's source: count such statements apart). THE CARD IS WHAT COUNTS. Prove the row's statement (the work); the ties are given (YtnmllpfchcfonaaDoorTie.lean); close each card by the builder's one call (the guide's Derived/Test/ToyasCard.lean, 'card_holds'). Laid BY PROGRAM, IN A SANDBOX (cutbox-door.mjs). By AI agents, Wed Nov 11 2026. No macro, syntax, notation, axiom, sorry.
-/
import Derived.Test.YtnmllpfchcfonaaDoorRows
import GoSem.ClaimSeven
namespace Go.Proofs.YtnmllpfchcfonaaDoor
namespace Rows

/-- THE TIED CARD OF 'laws.FnExactFormatReply'. -/
def fnExactFormatReplyCard : Claim7 := { stood := { row := fnExactFormatReplyRow, standIns := [], harness := (true, "8162fe7296698148c1321f5e830ef0120fe82eed17214f562f54662536736315"), looks := false }, kinds := [], alts := [], laidByText := true, laidKinds := [.data, .data, .data], laidTests := true, laidLooks := .later }
def FnExactFormatReplyCardSaid : Prop := Claim7.holds Tryd.pinned (.plain (OpenSpec.ofChange fnExactFormatReplySpec)) fnExactFormatReplyCard

/-- THE TIED CARD OF 'laws.FnReplyText'. -/
def fnReplyTextCard : Claim7 := { stood := { row := fnReplyTextRow, standIns := [], harness := (true, "8162fe7296698148c1321f5e830ef0120fe82eed17214f562f54662536736315"), looks := false }, kinds := [], alts := [], laidByText := true, laidKinds := [.data, .data, .data], laidTests := true, laidLooks := .later }
def FnReplyTextCardSaid : Prop := Claim7.holds Tryd.pinned (.plain (OpenSpec.ofChange fnReplyTextSpec)) fnReplyTextCard

/-- THE TIED CARD OF 'laws.FnExactFormatErrors'. -/
def fnExactFormatErrorsCard : Claim7 := { stood := { row := fnExactFormatErrorsRow, standIns := [], harness := (true, "8162fe7296698148c1321f5e830ef0120fe82eed17214f562f54662536736315"), looks := false }, kinds := [], alts := [], laidByText := true, laidKinds := [.data, .data, .data], laidTests := true, laidLooks := .later }
def FnExactFormatErrorsCardSaid : Prop := Claim7.holds Tryd.pinned (.plain (OpenSpec.ofChange fnExactFormatErrorsSpec)) fnExactFormatErrorsCard

/-- THE TIED CARD OF 'laws.FnExactFormatRank'. -/
def fnExactFormatRankCard : Claim7 := { stood := { row := fnExactFormatRankRow, standIns := [], harness := (true, "8162fe7296698148c1321f5e830ef0120fe82eed17214f562f54662536736315"), looks := false }, kinds := [], alts := [], laidByText := true, laidKinds := [.data, .data, .data], laidTests := true, laidLooks := .later }
def FnExactFormatRankCardSaid : Prop := Claim7.holds Tryd.pinned (.plain (OpenSpec.ofChange fnExactFormatRankSpec)) fnExactFormatRankCard

/-- THE SECOND FORM's CARD OF 'laws.FnExactFormatReply'. -/
def fnExactFormatReplyUptoCard : Claim7 := { stood := { row := fnExactFormatReplyUptoRow, standIns := [], harness := (true, "8162fe7296698148c1321f5e830ef0120fe82eed17214f562f54662536736315"), looks := false }, kinds := [], alts := [], laidByText := true, laidKinds := [.data, .data, .data], laidTests := true, laidLooks := .later }
def FnExactFormatReplyUptoCardSaid : Prop := Claim7.holds Tryd.pinned (.plain (OpenSpec.upto fnExactFormatReplySpec)) fnExactFormatReplyUptoCard

/-- THE SECOND FORM's CARD OF 'laws.FnReplyText'. -/
def fnReplyTextUptoCard : Claim7 := { stood := { row := fnReplyTextUptoRow, standIns := [], harness := (true, "8162fe7296698148c1321f5e830ef0120fe82eed17214f562f54662536736315"), looks := false }, kinds := [], alts := [], laidByText := true, laidKinds := [.data, .data, .data], laidTests := true, laidLooks := .later }
def FnReplyTextUptoCardSaid : Prop := Claim7.holds Tryd.pinned (.plain (OpenSpec.upto fnReplyTextSpec)) fnReplyTextUptoCard

/-- THE SECOND FORM's CARD OF 'laws.FnExactFormatErrors'. -/
def fnExactFormatErrorsUptoCard : Claim7 := { stood := { row := fnExactFormatErrorsUptoRow, standIns := [], harness := (true, "8162fe7296698148c1321f5e830ef0120fe82eed17214f562f54662536736315"), looks := false }, kinds := [], alts := [], laidByText := true, laidKinds := [.data, .data, .data], laidTests := true, laidLooks := .later }
def FnExactFormatErrorsUptoCardSaid : Prop := Claim7.holds Tryd.pinned (.plain (OpenSpec.upto fnExactFormatErrorsSpec)) fnExactFormatErrorsUptoCard

/-- THE SECOND FORM's CARD OF 'laws.FnExactFormatRank'. -/
def fnExactFormatRankUptoCard : Claim7 := { stood := { row := fnExactFormatRankUptoRow, standIns := [], harness := (true, "8162fe7296698148c1321f5e830ef0120fe82eed17214f562f54662536736315"), looks := false }, kinds := [], alts := [], laidByText := true, laidKinds := [.data, .data, .data], laidTests := true, laidLooks := .later }
def FnExactFormatRankUptoCardSaid : Prop := Claim7.holds Tryd.pinned (.plain (OpenSpec.upto fnExactFormatRankSpec)) fnExactFormatRankUptoCard
end Rows
end Go.Proofs.YtnmllpfchcfonaaDoor
