/- A cell that is stored twice. -/
import Derived.Test.YthlmddcjbhacmaaDoorKit
set_option linter.unusedVariables false
set_option linter.unusedSimpArgs false
namespace Go.Proofs.YthlmddcjbhacmaaDoor
open Go.RowKit Go.Proofs.YthlmddcjbhacmaaDoorW.PrintWords
theorem set_set (w : World) (p : Addr) (v u : Value) : (w.setCell p v).setCell p u = w.setCell p u := by
  unfold World.setCell
  congr 1
  apply Array.ext_getElem?
  intro i
  simp only [Array.getElem?_modify]
  split
  · cases w.heap[i]? with
    | none => rfl
    | some o =>
      cases o with
      | cells c e fz => simp only [Option.map_some]; split <;> simp [Array.setIfInBounds_setIfInBounds]
      | _ => rfl
  · rfl
attribute [go_sem] set_set
end Go.Proofs.YthlmddcjbhacmaaDoor
