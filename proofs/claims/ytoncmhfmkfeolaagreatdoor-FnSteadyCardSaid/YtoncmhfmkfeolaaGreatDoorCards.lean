/-
  DERIVED. GIVEN WITH THE SEED: THE CARDS: each row of YtoncmhfmkfeolaaGreatDoorRows.lean that lists a variable, with what it lists TIED to the program's text (the seventh form; the later family's looks); each row that meets fmt, with fmt's text TOLD by the authors' own Lean function (tested against real Go, not proved from fmt's source: count such statements apart). THE CARD IS WHAT COUNTS. Prove the row's statement (the work); the ties are given (YtoncmhfmkfeolaaGreatDoorTie.lean); close each card by the builder's one call (the guide's Derived/Test/ToyasCard.lean, 'card_holds'). Laid BY PROGRAM, IN A SANDBOX (cutbox-door.mjs). By AI agents, Wed Nov 11 2026. No macro, syntax, notation, axiom, sorry.
-/
import Derived.Test.YtoncmhfmkfeolaaGreatDoorRows
import GoSem.ClaimSeven
namespace Go.Proofs.YtoncmhfmkfeolaaGreatDoor
namespace Rows

/-- THE TIED CARD OF 'laws.FnRun'. -/
def fnRunCard : Claim7 := { stood := { row := fnRunRow, standIns := [], harness := (true, "c400cc5f58f2133d787e2cac6bdab9db8d20598ef617fb50e4ea283aab9c4714"), looks := false }, kinds := [], alts := [], laidByText := true, laidKinds := [.listed, .data], laidTests := true, laidLooks := .later }
def FnRunCardSaid : Prop := Claim7.holds Tryz.pinned (.plain (OpenSpec.ofChange fnRunSpec)) fnRunCard

/-- THE TIED CARD OF 'laws.FnExactRun'. -/
def fnExactRunCard : Claim7 := { stood := { row := fnExactRunRow, standIns := [], harness := (true, "c400cc5f58f2133d787e2cac6bdab9db8d20598ef617fb50e4ea283aab9c4714"), looks := false }, kinds := [], alts := [], laidByText := true, laidKinds := [.listed, .data], laidTests := true, laidLooks := .later }
def FnExactRunCardSaid : Prop := Claim7.holds Tryz.pinned (.plain (OpenSpec.ofChange fnExactRunSpec)) fnExactRunCard

/-- THE TIED CARD OF 'laws.FnLast'. -/
def fnLastCard : Claim7 := { stood := { row := fnLastRow, standIns := [], harness := (true, "c400cc5f58f2133d787e2cac6bdab9db8d20598ef617fb50e4ea283aab9c4714"), looks := false }, kinds := [], alts := [], laidByText := true, laidKinds := [.listed, .data], laidTests := true, laidLooks := .later }
def FnLastCardSaid : Prop := Claim7.holds Tryz.pinned (.plain (OpenSpec.ofChange fnLastSpec)) fnLastCard

/-- THE TIED CARD OF 'laws.FnBusy'. -/
def fnBusyCard : Claim7 := { stood := { row := fnBusyRow, standIns := [], harness := (true, "c400cc5f58f2133d787e2cac6bdab9db8d20598ef617fb50e4ea283aab9c4714"), looks := false }, kinds := [], alts := [], laidByText := true, laidKinds := [.listed, .data], laidTests := true, laidLooks := .later }
def FnBusyCardSaid : Prop := Claim7.holds Tryz.pinned (.plain (OpenSpec.ofChange fnBusySpec)) fnBusyCard

/-- THE TIED CARD OF 'laws.FnSteady'. -/
def fnSteadyCard : Claim7 := { stood := { row := fnSteadyRow, standIns := [], harness := (true, "c400cc5f58f2133d787e2cac6bdab9db8d20598ef617fb50e4ea283aab9c4714"), looks := false }, kinds := [], alts := [], laidByText := true, laidKinds := [.listed, .data], laidTests := true, laidLooks := .later }
def FnSteadyCardSaid : Prop := Claim7.holds Tryz.pinned (.plain (OpenSpec.ofChange fnSteadySpec)) fnSteadyCard

/-- THE TIED CARD OF 'laws.FnBefore'. -/
def fnBeforeCard : Claim7 := { stood := { row := fnBeforeRow, standIns := [], harness := (true, "c400cc5f58f2133d787e2cac6bdab9db8d20598ef617fb50e4ea283aab9c4714"), looks := false }, kinds := [], alts := [], laidByText := true, laidKinds := [.listed, .data], laidTests := true, laidLooks := .later }
def FnBeforeCardSaid : Prop := Claim7.holds Tryz.pinned (.plain (OpenSpec.ofChange fnBeforeSpec)) fnBeforeCard

/-- THE SECOND FORM's CARD OF 'laws.FnRun'. -/
def fnRunUptoCard : Claim7 := { stood := { row := fnRunUptoRow, standIns := [], harness := (true, "c400cc5f58f2133d787e2cac6bdab9db8d20598ef617fb50e4ea283aab9c4714"), looks := false }, kinds := [], alts := [], laidByText := true, laidKinds := [.listed, .data], laidTests := true, laidLooks := .later }
def FnRunUptoCardSaid : Prop := Claim7.holds Tryz.pinned (.plain (OpenSpec.upto fnRunSpec)) fnRunUptoCard

/-- THE SECOND FORM's CARD OF 'laws.FnExactRun'. -/
def fnExactRunUptoCard : Claim7 := { stood := { row := fnExactRunUptoRow, standIns := [], harness := (true, "c400cc5f58f2133d787e2cac6bdab9db8d20598ef617fb50e4ea283aab9c4714"), looks := false }, kinds := [], alts := [], laidByText := true, laidKinds := [.listed, .data], laidTests := true, laidLooks := .later }
def FnExactRunUptoCardSaid : Prop := Claim7.holds Tryz.pinned (.plain (OpenSpec.upto fnExactRunSpec)) fnExactRunUptoCard

/-- THE SECOND FORM's CARD OF 'laws.FnLast'. -/
def fnLastUptoCard : Claim7 := { stood := { row := fnLastUptoRow, standIns := [], harness := (true, "c400cc5f58f2133d787e2cac6bdab9db8d20598ef617fb50e4ea283aab9c4714"), looks := false }, kinds := [], alts := [], laidByText := true, laidKinds := [.listed, .data], laidTests := true, laidLooks := .later }
def FnLastUptoCardSaid : Prop := Claim7.holds Tryz.pinned (.plain (OpenSpec.upto fnLastSpec)) fnLastUptoCard

/-- THE SECOND FORM's CARD OF 'laws.FnBusy'. -/
def fnBusyUptoCard : Claim7 := { stood := { row := fnBusyUptoRow, standIns := [], harness := (true, "c400cc5f58f2133d787e2cac6bdab9db8d20598ef617fb50e4ea283aab9c4714"), looks := false }, kinds := [], alts := [], laidByText := true, laidKinds := [.listed, .data], laidTests := true, laidLooks := .later }
def FnBusyUptoCardSaid : Prop := Claim7.holds Tryz.pinned (.plain (OpenSpec.upto fnBusySpec)) fnBusyUptoCard

/-- THE SECOND FORM's CARD OF 'laws.FnSteady'. -/
def fnSteadyUptoCard : Claim7 := { stood := { row := fnSteadyUptoRow, standIns := [], harness := (true, "c400cc5f58f2133d787e2cac6bdab9db8d20598ef617fb50e4ea283aab9c4714"), looks := false }, kinds := [], alts := [], laidByText := true, laidKinds := [.listed, .data], laidTests := true, laidLooks := .later }
def FnSteadyUptoCardSaid : Prop := Claim7.holds Tryz.pinned (.plain (OpenSpec.upto fnSteadySpec)) fnSteadyUptoCard

/-- THE SECOND FORM's CARD OF 'laws.FnBefore'. -/
def fnBeforeUptoCard : Claim7 := { stood := { row := fnBeforeUptoRow, standIns := [], harness := (true, "c400cc5f58f2133d787e2cac6bdab9db8d20598ef617fb50e4ea283aab9c4714"), looks := false }, kinds := [], alts := [], laidByText := true, laidKinds := [.listed, .data], laidTests := true, laidLooks := .later }
def FnBeforeUptoCardSaid : Prop := Claim7.holds Tryz.pinned (.plain (OpenSpec.upto fnBeforeSpec)) fnBeforeUptoCard
end Rows
end Go.Proofs.YtoncmhfmkfeolaaGreatDoor
