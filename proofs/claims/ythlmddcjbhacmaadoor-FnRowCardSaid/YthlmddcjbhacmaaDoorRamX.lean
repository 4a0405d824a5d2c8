/- Memories that are copied, compared, measured and marked by the exact laws. -/
import Derived.Test.YthlmddcjbhacmaaDoorByt
import Derived.Test.YthlmddcjbhacmaaDoorCore
set_option linter.unusedVariables false
set_option linter.unusedSimpArgs false
namespace Go.Proofs.YthlmddcjbhacmaaDoor
open Go.RowKit Go.Proofs.YthlmddcjbhacmaaDoorW.PrintWords
end Go.Proofs.YthlmddcjbhacmaaDoor
