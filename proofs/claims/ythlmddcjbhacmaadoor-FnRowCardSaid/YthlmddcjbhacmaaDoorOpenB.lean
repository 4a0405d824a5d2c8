/- A law's argument that is a slice of bytes, read as data. -/
import Derived.Test.YthlmddcjbhacmaaDoorSlc
import Derived.ChangeSame
import Derived.WideShapes
import Derived.ChangeSlices
import Derived.Test.YthlmddcjbhacmaaDoorWSized
set_option linter.unusedVariables false
set_option linter.unusedSimpArgs false
namespace Go.Proofs.YthlmddcjbhacmaaDoor
open Go.ChangeShapes Go.WideShapes Go.ChangeAt Go.RowKit
open Go.Proofs.YthlmddcjbhacmaaDoorW
set_option maxRecDepth 100000 in
theorem open_bytes {H : Type} {enc : TypeId × Value → H} {W : World} {fuel : Nat} {cs : List Value} {x : DataW H × List MemPlace}
    (hf : DataW.trod enc Tryd.prog W 0 (fun _ => true) true fuel 29 cs = some x) : ∃ A l c, cs = [.slice A (List.length l) c] ∧ Bs W A l ∧ l.length ≤ 9223372036854775807 := by
  rcases open_ints Tryd.underlying29 Tryd.underlying5 (by kernel_rfl) hf with ⟨hcs, _⟩ | ⟨x, l, c, zs, hcs, _, hl, hm, hz, _, hcell, hwz⟩
  · obtain ⟨zs, hz, hb⟩ := bs_of_row (w := W) (a := none) (len := 0) (cap := 0) (z := []) (.inl ⟨rfl, rfl, rfl, rfl⟩)
    refine ⟨none, zs, 0, ?_, hb, hb.max⟩
    rw [hcs, hz]
  · obtain ⟨zs, hz, hb⟩ := bs_of_row (w := W) (a := some x) (.inr ⟨_, rfl, hl, hm, by simpa using hz, hcell, hwz⟩)
    refine ⟨some x, zs, c, ?_, hb, hb.max⟩
    rw [hcs, hz]
set_option maxRecDepth 100000 in
theorem open_bytesV {H : Type} {enc : TypeId × Value → H} {W : World} {base : Nat} {d : DataW H} {p : List MemPlace} {v : Value} (hv : Value.okWide Tryd.prog W .any base 29 v)
    (h : DataW.Trod enc Tryd.prog W 0 (fun _ => true) true 29 v d p) : ∃ A l c, v = .slice A (List.length l) c ∧ Bs W A l ∧ l.length ≤ 9223372036854775807 := by
  obtain ⟨a0, len0, cap0, rfl⟩ := okWide_slice Tryd.underlying29 hv
  obtain ⟨fuel, hf⟩ := h
  obtain ⟨A, l, c, e, hb, hm⟩ := open_bytes (enc := enc) (W := W) (fuel := fuel) (cs := [.slice a0 len0 cap0]) (x := (d, p)) hf
  injection e with e
  exact ⟨A, l, c, e, hb, hm⟩
end Go.Proofs.YthlmddcjbhacmaaDoor
