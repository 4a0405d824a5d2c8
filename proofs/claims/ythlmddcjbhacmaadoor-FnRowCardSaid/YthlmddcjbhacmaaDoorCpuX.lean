/- A processor of the exact laws: its copies. -/
import Derived.Test.YthlmddcjbhacmaaDoorCore
import Derived.Test.YthlmddcjbhacmaaDoorRamX
set_option linter.unusedVariables false
set_option linter.unusedSimpArgs false
namespace Go.Proofs.YthlmddcjbhacmaaDoor
open Go.RowKit Go.Proofs.YthlmddcjbhacmaaDoorW.PrintWords
def Cpu.ok (x : Cpu) : Prop := 0 ≤ x.A ∧ x.A < 256 ∧ 0 ≤ x.X ∧ x.X < 256 ∧ 0 ≤ x.Y ∧ x.Y < 256 ∧ 0 ≤ x.S ∧ x.S < 256 ∧ 0 ≤ x.PC ∧ x.PC < 65536
end Go.Proofs.YthlmddcjbhacmaaDoor
