/-
  DERIVED. GIVEN WITH THE SEED: THE CARDS: each row of YtbffbinipipkkaaDoorRows.lean that lists a variable, with what it lists TIED to the program's text (the seventh form; the later family's looks); each row that meets fmt, with fmt's text TOLD by the authors' own Lean function (tested against real Go, not proved from fmt's source: count such statements apart). THE CARD IS WHAT COUNTS. Prove the row's statement (the work); the ties are given (YtbffbinipipkkaaDoorTie.lean); close each card by the builder's one call (the guide's Derived/Test/ToyasCard.lean, 'card_holds'). Laid BY PROGRAM, IN A SANDBOX (cutbox-door.mjs). By AI agents, Wed Nov 11 2026. No macro, syntax, notation, axiom, sorry.
-/
import Derived.Test.YtbffbinipipkkaaDoorRows
import GoSem.ClaimSeven
namespace Go.Proofs.YtbffbinipipkkaaDoor
namespace Rows

/-- THE TIED CARD OF 'laws.FnPushed'. -/
def fnPushedCard : Claim7 := { stood := { row := fnPushedRow, standIns := [], harness := (true, "4ef7cb59a7fae07217719736320721c521ad18f2f5044f9921608d5ff1092d27"), looks := false }, kinds := [], alts := [], laidByText := true, laidKinds := [.listed, .data], laidTests := true, laidLooks := .later }
def FnPushedCardSaid : Prop := Claim7.holds Tryd.pinned (.plain (OpenSpec.ofChange fnPushedSpec)) fnPushedCard

/-- THE TIED CARD OF 'laws.FnCall'. -/
def fnCallCard : Claim7 := { stood := { row := fnCallRow, standIns := [], harness := (true, "4ef7cb59a7fae07217719736320721c521ad18f2f5044f9921608d5ff1092d27"), looks := false }, kinds := [], alts := [], laidByText := true, laidKinds := [.listed, .data], laidTests := true, laidLooks := .later }
def FnCallCardSaid : Prop := Claim7.holds Tryd.pinned (.plain (OpenSpec.ofChange fnCallSpec)) fnCallCard

/-- THE TIED CARD OF 'laws.FnCold'. -/
def fnColdCard : Claim7 := { stood := { row := fnColdRow, standIns := [], harness := (true, "4ef7cb59a7fae07217719736320721c521ad18f2f5044f9921608d5ff1092d27"), looks := false }, kinds := [], alts := [], laidByText := true, laidKinds := [.listed, .data], laidTests := true, laidLooks := .later }
def FnColdCardSaid : Prop := Claim7.holds Tryd.pinned (.plain (OpenSpec.ofChange fnColdSpec)) fnColdCard

/-- THE SECOND FORM's CARD OF 'laws.FnPushed'. -/
def fnPushedUptoCard : Claim7 := { stood := { row := fnPushedUptoRow, standIns := [], harness := (true, "4ef7cb59a7fae07217719736320721c521ad18f2f5044f9921608d5ff1092d27"), looks := false }, kinds := [], alts := [], laidByText := true, laidKinds := [.listed, .data], laidTests := true, laidLooks := .later }
def FnPushedUptoCardSaid : Prop := Claim7.holds Tryd.pinned (.plain (OpenSpec.upto fnPushedSpec)) fnPushedUptoCard

/-- THE SECOND FORM's CARD OF 'laws.FnCall'. -/
def fnCallUptoCard : Claim7 := { stood := { row := fnCallUptoRow, standIns := [], harness := (true, "4ef7cb59a7fae07217719736320721c521ad18f2f5044f9921608d5ff1092d27"), looks := false }, kinds := [], alts := [], laidByText := true, laidKinds := [.listed, .data], laidTests := true, laidLooks := .later }
def FnCallUptoCardSaid : Prop := Claim7.holds Tryd.pinned (.plain (OpenSpec.upto fnCallSpec)) fnCallUptoCard

/-- THE SECOND FORM's CARD OF 'laws.FnCold'. -/
def fnColdUptoCard : Claim7 := { stood := { row := fnColdUptoRow, standIns := [], harness := (true, "4ef7cb59a7fae07217719736320721c521ad18f2f5044f9921608d5ff1092d27"), looks := false }, kinds := [], alts := [], laidByText := true, laidKinds := [.listed, .data], laidTests := true, laidLooks := .later }
def FnColdUptoCardSaid : Prop := Claim7.holds Tryd.pinned (.plain (OpenSpec.upto fnColdSpec)) fnColdUptoCard
end Rows
end Go.Proofs.YtbffbinipipkkaaDoor
