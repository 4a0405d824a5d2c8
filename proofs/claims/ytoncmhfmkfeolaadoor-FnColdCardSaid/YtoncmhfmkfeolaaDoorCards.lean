/-
  DERIVED. GIVEN WITH THE SEED: THE CARDS: each row of YtoncmhfmkfeolaaDoorRows.lean that lists a variable, with what it lists TIED to the program's text (the seventh form; the later family's looks); each row that meets fmt, with fmt's text TOLD by the authors' own Lean function (tested against real Go, not proved from fmt's source: count such statements apart). THE CARD IS WHAT COUNTS. Prove the row's statement (the work); the ties are given (YtoncmhfmkfeolaaDoorTie.lean); close each card by the builder's one call (the guide's Derived/Test/ToyasCard.lean, 'card_holds'). Laid BY PROGRAM, IN A SANDBOX (cutbox-door.mjs). By AI agents, Wed Nov 11 2026. No macro, syntax, notation, axiom, sorry.
-/
import Derived.Test.YtoncmhfmkfeolaaDoorRows
import GoSem.ClaimSeven
namespace Go.Proofs.YtoncmhfmkfeolaaDoor
namespace Rows

/-- THE TIED CARD OF 'laws.FnCold'. -/
def fnColdCard : Claim7 := { stood := { row := fnColdRow, standIns := [], harness := (true, "b2fddf73ee6f5e5dee07ef1dfd0f2094ab299ccbf32be840970e7d716611dba6"), looks := false }, kinds := [], alts := [], laidByText := true, laidKinds := [.listed, .data], laidTests := true, laidLooks := .later }
def FnColdCardSaid : Prop := Claim7.holds Tryd.pinned (.plain (OpenSpec.ofChange fnColdSpec)) fnColdCard

/-- THE SECOND FORM's CARD OF 'laws.FnCold'. -/
def fnColdUptoCard : Claim7 := { stood := { row := fnColdUptoRow, standIns := [], harness := (true, "b2fddf73ee6f5e5dee07ef1dfd0f2094ab299ccbf32be840970e7d716611dba6"), looks := false }, kinds := [], alts := [], laidByText := true, laidKinds := [.listed, .data], laidTests := true, laidLooks := .later }
def FnColdUptoCardSaid : Prop := Claim7.holds Tryd.pinned (.plain (OpenSpec.upto fnColdSpec)) fnColdUptoCard
end Rows
end Go.Proofs.YtoncmhfmkfeolaaDoor
