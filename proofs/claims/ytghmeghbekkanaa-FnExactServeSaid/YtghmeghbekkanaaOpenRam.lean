/- A law's argument that is a memory, read as data. -/
import Derived.Test.YtghmeghbekkanaaSlc
import Derived.ChangeSame
import Derived.WideShapes
import Derived.ChangeSlices
import Derived.Test.YtghmeghbekkanaaWSized
set_option linter.unusedVariables false
set_option linter.unusedSimpArgs false
namespace Go.Proofs.Ytghmeghbekkanaa
open Go.ChangeShapes Go.WideShapes Go.ChangeAt Go.RowKit
open Go.Proofs.YtghmeghbekkanaaW
set_option maxRecDepth 100000 in
theorem open_bytes {H : Type} {enc : TypeId × Value → H} {W : World} {fuel : Nat} {cs : List Value} {x : DataW H × List MemPlace}
    (hf : DataW.trod enc Try.prog W 0 (fun _ => true) true fuel 27 cs = some x) : ∃ A l c, cs = [.slice A (List.length l) c] ∧ Bs W A l ∧ l.length ≤ 9223372036854775807 := by
  rcases open_ints Try.underlying27 Try.underlying5 (by kernel_rfl) hf with ⟨hcs, _⟩ | ⟨x, l, c, zs, hcs, _, hl, hm, hz, _, hcell, hwz⟩
  · obtain ⟨zs, hz, hb⟩ := bs_of_row (w := W) (a := none) (len := 0) (cap := 0) (z := []) (.inl ⟨rfl, rfl, rfl, rfl⟩)
    refine ⟨none, zs, 0, ?_, hb, hb.max⟩
    rw [hcs, hz]
  · obtain ⟨zs, hz, hb⟩ := bs_of_row (w := W) (a := some x) (.inr ⟨_, rfl, hl, hm, by simpa using hz, hcell, hwz⟩)
    refine ⟨some x, zs, c, ?_, hb, hb.max⟩
    rw [hcs, hz]
set_option maxRecDepth 100000 in
theorem open_bytesV {H : Type} {enc : TypeId × Value → H} {W : World} {base : Nat} {d : DataW H} {p : List MemPlace} {v : Value} (hv : Value.okWide Try.prog W .any base 27 v)
    (h : DataW.Trod enc Try.prog W 0 (fun _ => true) true 27 v d p) : ∃ A l c, v = .slice A (List.length l) c ∧ Bs W A l ∧ l.length ≤ 9223372036854775807 := by
  obtain ⟨a0, len0, cap0, rfl⟩ := okWide_slice Try.underlying27 hv
  obtain ⟨fuel, hf⟩ := h
  obtain ⟨A, l, c, e, hb, hm⟩ := open_bytes (enc := enc) (W := W) (fuel := fuel) (cs := [.slice a0 len0 cap0]) (x := (d, p)) hf
  injection e with e
  exact ⟨A, l, c, e, hb, hm⟩
set_option maxRecDepth 100000 in
theorem open_ram {H : Type} {enc : TypeId × Value → H} {W : World} {base : Nat} {d : DataW H} {p : List MemPlace} {v : Value} (hv : Value.okWide Try.prog W .any base 29 v)
    (h : DataW.Trod enc Try.prog W 0 (fun _ => true) true 29 v d p) : ∃ A l c, v = .agg #[.slice A (List.length l) c] ∧ Bs W A l ∧ l.length ≤ 9223372036854775807 := by
  obtain ⟨cs, rfl, hs⟩ := okWide_struct Try.underlying29 hv
  obtain ⟨fuel, hf⟩ := h
  have hc : Try.prog.cellsOf 29 = 1 := by kernel_rfl
  rw [hc] at hs
  obtain ⟨y0, n, _, _, h0⟩ := trod_struct1 Try.underlying29 hf
  match cs, hs with
  | ⟨[x]⟩, _ =>
    obtain ⟨A, l, c, e, hb, hm⟩ := open_bytes (enc := enc) (W := W) (fuel := n) (cs := [x]) (x := y0) (by
      have hc2 : Try.prog.cellsOf 27 = 1 := by kernel_rfl
      simpa [Value.cells, hc2] using h0)
    injection e with e
    subst e
    exact ⟨A, l, c, rfl, hb, hm⟩
end Go.Proofs.Ytghmeghbekkanaa
