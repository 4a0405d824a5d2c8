/- Desks of the exact laws: a processor, a memory and a list. -/
import Derived.Test.YtghmeghbekkanaaApply
import Derived.Test.YtghmeghbekkanaaNewRam
import Derived.Test.YtghmeghbekkanaaMark
import Derived.Test.YtghmeghbekkanaaCold
import Derived.Test.YtghmeghbekkanaaCpuX
set_option linter.unusedVariables false
set_option linter.unusedSimpArgs false
namespace Go.Proofs.Ytghmeghbekkanaa
open Go.RowKit Go.Proofs.YtghmeghbekkanaaW.PrintWords
theorem OwnC.lower {w : World} {base base' : Nat} {v : Value} {l : List Cyc} (h : OwnC w base v l) (hb : base' ≤ base) : OwnC w base' v l := Kd.R_lower h hb
theorem OwnC.alloc {w : World} {base : Nat} {v : Value} {l : List Cyc} (h : OwnC w base v l) (o : Obj) : OwnC (w.alloc o) base v l := h.below (below_alloc (Below.refl _ _) o)
theorem OwnC.drew {w : World} {base : Nat} {v : Value} {l : List Cyc} (h : OwnC w base v l) : OwnC w.drew base v l := h.below (below_drew1 (Below.refl _ _))
theorem OwnC.drewN {w : World} {base : Nat} {v : Value} {l : List Cyc} (h : OwnC w base v l) (n : Nat) : OwnC (w.drewN n) base v l := h.below (pw_below_drewN (Below.refl _ _) n)
theorem OwnC.set {w : World} {base : Nat} {v : Value} {l : List Cyc} (h : OwnC w base v l) {p : Addr} (hp : p.block < base) (u : Value) : OwnC (w.setCell p u) base v l :=
  Kd.R_mono (Kd.R_far (Kd.R_bound h) (fun k hk => by have := hk.2.1; omega) u) (fun _ _ => trivial)
end Go.Proofs.Ytghmeghbekkanaa
