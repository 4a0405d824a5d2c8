/- Plain laws of serve: lengths. -/
import Derived.Test.YtghmeghbekkanaaServeI
set_option linter.unusedVariables false
set_option linter.unusedSimpArgs false
namespace Go.Proofs.Ytghmeghbekkanaa
open Go.RowKit Go.Proofs.YtghmeghbekkanaaW.PrintWords
theorem serve_ml (c : Cpu) (l : List Int) (nmi : Bool) : (serve c l nmi).m.length ≤ l.length := by
  unfold serve
  split
  · simp [serveB, push3, Bus.rd, Bus.wr]
  · simp
theorem serve_tl (c : Cpu) (l : List Int) (nmi : Bool) : (serve c l nmi).t.length ≤ 7 := by
  unfold serve
  split
  · simp [serveB, push3, Bus.rd, Bus.wr]
  · simp
end Go.Proofs.Ytghmeghbekkanaa
