/- The memory of the processor: sizes, reading a byte. -/
import Derived.Test.YthlmddcjbhacmaaDoorSlc
import Derived.Test.YthlmddcjbhacmaaDoorCore
import Derived.Deep.RegionHeld3
set_option linter.unusedVariables false
set_option linter.unusedSimpArgs false
namespace Go.Proofs.YthlmddcjbhacmaaDoor
open Go.RowKit Go.Proofs.YthlmddcjbhacmaaDoorW.PrintWords
end Go.Proofs.YthlmddcjbhacmaaDoor
