/-
  DERIVED. GIVEN WITH THE SEED: THE CARDS: each row of YtgdfehacijafhaaDoorRows.lean that lists a variable, with what it lists TIED to the program's text (the seventh form; the later family's looks); each row that meets fmt, with fmt's text TOLD by the authors' own Lean function (tested against real Go, not proved from fmt's source: count such statements apart). THE CARD IS WHAT COUNTS. Prove the row's statement (the work); the ties are given (YtgdfehacijafhaaDoorTie.lean); close each card by the builder's one call (the guide's Derived/Test/ToyasCard.lean, 'card_holds'). Laid BY PROGRAM, IN A SANDBOX (cutbox-door.mjs). By AI agents, Wed Nov 11 2026. No macro, syntax, notation, axiom, sorry.
-/
import Derived.Test.YtgdfehacijafhaaDoorRows
import GoSem.ClaimSeven
namespace Go.Proofs.YtgdfehacijafhaaDoor
namespace Rows

/-- THE TIED CARD OF 'laws.FnExactJams'. -/
def fnExactJamsCard : Claim7 := { stood := { row := fnExactJamsRow, standIns := [], harness := (true, "c39671a5cce2084b57b581dfce11d12c5424e07c634379bc6a435709bf4d5c30"), looks := false }, kinds := [], alts := [], laidByText := true, laidKinds := [.listed, .data], laidTests := true, laidLooks := .later }
def FnExactJamsCardSaid : Prop := Claim7.holds Tryd.pinned (.plain (OpenSpec.ofChange fnExactJamsSpec)) fnExactJamsCard

/-- THE TIED CARD OF 'laws.FnExactCrossed'. -/
def fnExactCrossedCard : Claim7 := { stood := { row := fnExactCrossedRow, standIns := [], harness := (true, "c39671a5cce2084b57b581dfce11d12c5424e07c634379bc6a435709bf4d5c30"), looks := false }, kinds := [], alts := [], laidByText := true, laidKinds := [.listed, .data], laidTests := true, laidLooks := .later }
def FnExactCrossedCardSaid : Prop := Claim7.holds Tryd.pinned (.plain (OpenSpec.ofChange fnExactCrossedSpec)) fnExactCrossedCard

/-- THE TIED CARD OF 'laws.FnExactTimeOf'. -/
def fnExactTimeOfCard : Claim7 := { stood := { row := fnExactTimeOfRow, standIns := [], harness := (true, "c39671a5cce2084b57b581dfce11d12c5424e07c634379bc6a435709bf4d5c30"), looks := false }, kinds := [], alts := [], laidByText := true, laidKinds := [.listed, .data], laidTests := true, laidLooks := .later }
def FnExactTimeOfCardSaid : Prop := Claim7.holds Tryd.pinned (.plain (OpenSpec.ofChange fnExactTimeOfSpec)) fnExactTimeOfCard

/-- THE TIED CARD OF 'laws.FnExactLeast'. -/
def fnExactLeastCard : Claim7 := { stood := { row := fnExactLeastRow, standIns := [], harness := (true, "c39671a5cce2084b57b581dfce11d12c5424e07c634379bc6a435709bf4d5c30"), looks := false }, kinds := [], alts := [], laidByText := true, laidKinds := [.listed, .data], laidTests := true, laidLooks := .later }
def FnExactLeastCardSaid : Prop := Claim7.holds Tryd.pinned (.plain (OpenSpec.ofChange fnExactLeastSpec)) fnExactLeastCard

/-- THE TIED CARD OF 'laws.FnExactMost'. -/
def fnExactMostCard : Claim7 := { stood := { row := fnExactMostRow, standIns := [], harness := (true, "c39671a5cce2084b57b581dfce11d12c5424e07c634379bc6a435709bf4d5c30"), looks := false }, kinds := [], alts := [], laidByText := true, laidKinds := [.listed, .data], laidTests := true, laidLooks := .later }
def FnExactMostCardSaid : Prop := Claim7.holds Tryd.pinned (.plain (OpenSpec.ofChange fnExactMostSpec)) fnExactMostCard

/-- THE TIED CARD OF 'laws.FnLeast'. -/
def fnLeastCard : Claim7 := { stood := { row := fnLeastRow, standIns := [], harness := (true, "c39671a5cce2084b57b581dfce11d12c5424e07c634379bc6a435709bf4d5c30"), looks := false }, kinds := [], alts := [], laidByText := true, laidKinds := [.listed, .data], laidTests := true, laidLooks := .later }
def FnLeastCardSaid : Prop := Claim7.holds Tryd.pinned (.plain (OpenSpec.ofChange fnLeastSpec)) fnLeastCard

/-- THE SECOND FORM's CARD OF 'laws.FnExactJams'. -/
def fnExactJamsUptoCard : Claim7 := { stood := { row := fnExactJamsUptoRow, standIns := [], harness := (true, "c39671a5cce2084b57b581dfce11d12c5424e07c634379bc6a435709bf4d5c30"), looks := false }, kinds := [], alts := [], laidByText := true, laidKinds := [.listed, .data], laidTests := true, laidLooks := .later }
def FnExactJamsUptoCardSaid : Prop := Claim7.holds Tryd.pinned (.plain (OpenSpec.upto fnExactJamsSpec)) fnExactJamsUptoCard

/-- THE SECOND FORM's CARD OF 'laws.FnExactCrossed'. -/
def fnExactCrossedUptoCard : Claim7 := { stood := { row := fnExactCrossedUptoRow, standIns := [], harness := (true, "c39671a5cce2084b57b581dfce11d12c5424e07c634379bc6a435709bf4d5c30"), looks := false }, kinds := [], alts := [], laidByText := true, laidKinds := [.listed, .data], laidTests := true, laidLooks := .later }
def FnExactCrossedUptoCardSaid : Prop := Claim7.holds Tryd.pinned (.plain (OpenSpec.upto fnExactCrossedSpec)) fnExactCrossedUptoCard

/-- THE SECOND FORM's CARD OF 'laws.FnExactTimeOf'. -/
def fnExactTimeOfUptoCard : Claim7 := { stood := { row := fnExactTimeOfUptoRow, standIns := [], harness := (true, "c39671a5cce2084b57b581dfce11d12c5424e07c634379bc6a435709bf4d5c30"), looks := false }, kinds := [], alts := [], laidByText := true, laidKinds := [.listed, .data], laidTests := true, laidLooks := .later }
def FnExactTimeOfUptoCardSaid : Prop := Claim7.holds Tryd.pinned (.plain (OpenSpec.upto fnExactTimeOfSpec)) fnExactTimeOfUptoCard

/-- THE SECOND FORM's CARD OF 'laws.FnExactLeast'. -/
def fnExactLeastUptoCard : Claim7 := { stood := { row := fnExactLeastUptoRow, standIns := [], harness := (true, "c39671a5cce2084b57b581dfce11d12c5424e07c634379bc6a435709bf4d5c30"), looks := false }, kinds := [], alts := [], laidByText := true, laidKinds := [.listed, .data], laidTests := true, laidLooks := .later }
def FnExactLeastUptoCardSaid : Prop := Claim7.holds Tryd.pinned (.plain (OpenSpec.upto fnExactLeastSpec)) fnExactLeastUptoCard

/-- THE SECOND FORM's CARD OF 'laws.FnExactMost'. -/
def fnExactMostUptoCard : Claim7 := { stood := { row := fnExactMostUptoRow, standIns := [], harness := (true, "c39671a5cce2084b57b581dfce11d12c5424e07c634379bc6a435709bf4d5c30"), looks := false }, kinds := [], alts := [], laidByText := true, laidKinds := [.listed, .data], laidTests := true, laidLooks := .later }
def FnExactMostUptoCardSaid : Prop := Claim7.holds Tryd.pinned (.plain (OpenSpec.upto fnExactMostSpec)) fnExactMostUptoCard

/-- THE SECOND FORM's CARD OF 'laws.FnLeast'. -/
def fnLeastUptoCard : Claim7 := { stood := { row := fnLeastUptoRow, standIns := [], harness := (true, "c39671a5cce2084b57b581dfce11d12c5424e07c634379bc6a435709bf4d5c30"), looks := false }, kinds := [], alts := [], laidByText := true, laidKinds := [.listed, .data], laidTests := true, laidLooks := .later }
def FnLeastUptoCardSaid : Prop := Claim7.holds Tryd.pinned (.plain (OpenSpec.upto fnLeastSpec)) fnLeastUptoCard
end Rows
end Go.Proofs.YtgdfehacijafhaaDoor
