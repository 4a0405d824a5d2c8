/- A law's argument that is a list of cycles, read as data. -/
import Derived.Test.YthlmddcjbhacmaaDoorSlc
import Derived.ChangeSame
import Derived.WideShapes
import Derived.ChangeSlices
import Derived.Test.YthlmddcjbhacmaaDoorWSized
import Derived.Test.YthlmddcjbhacmaaDoorCyc
import Derived.Deep.Slices
import Derived.Deep.Strs
set_option linter.unusedVariables false
set_option linter.unusedSimpArgs false
namespace Go.Proofs.YthlmddcjbhacmaaDoor
open Go.ChangeShapes Go.WideShapes Go.ChangeAt Go.RowKit
open Go.Proofs.YthlmddcjbhacmaaDoorW Go.Proofs.YthlmddcjbhacmaaDoorW.PrintWords
theorem bounds_u16 {x : Int} (w : (Lit.int .u16 x).wf = true) : 0 ≤ x ∧ x < 65536 := by
  simp [Lit.wf, IntKind.min, IntKind.max, IntKind.signed, IntKind.bits] at w
  omega
instance : Inhabited Cyc := ⟨⟨0, 0, false⟩⟩
set_option maxRecDepth 100000 in
theorem open_cyc1 {H : Type} {enc : TypeId × Value → H} {W : World} {fuel : Nat} {cs : List Value} {x : DataW H × List MemPlace}
    (h : DataW.trod enc Tryd.prog W 0 (fun _ => true) true fuel 50 cs = some x) : ∃ c : Cyc, c.ok ∧ cs = [.int .u16 c.a, .int .u8 c.d, .bool c.w] := by
  obtain ⟨y0, y1, y2, n, _, hl, h0, h1, h2⟩ := Deep.trod_struct3 Tryd.underlying50 h
  have hc : Tryd.prog.cellsOf 50 = 3 := by kernel_rfl
  have e0 : Tryd.prog.cellsOf 43 = 1 := by kernel_rfl
  have e1 : Tryd.prog.cellsOf 5 = 1 := by kernel_rfl
  have e2 : Tryd.prog.cellsOf 4 = 1 := by kernel_rfl
  rw [hc] at hl
  match cs, hl with
  | [u0, u1, u2], _ =>
    simp only [e0, e1, e2, List.drop_zero, List.drop_succ_cons, List.take_succ_cons, List.take_zero] at h0 h1 h2
    obtain ⟨a, ea, _, wa⟩ := DataW.trod_int Tryd.underlying43 h0
    obtain ⟨d, ed, _, wd⟩ := DataW.trod_int Tryd.underlying5 h1
    obtain ⟨b, eb, _⟩ := DataW.trod_bool Tryd.underlying4 h2
    injection ea with ea
    injection ed with ed
    injection eb with eb
    subst ea ed eb
    have qa := bounds_u16 wa
    have qd := bounds_u8 wd
    exact ⟨⟨a, d, b⟩, ⟨qa.1, qa.2, by show 0 ≤ d; omega, by show d < 256; omega⟩, rfl⟩
set_option maxRecDepth 100000 in
theorem open_cycs0 {H : Type} {enc : TypeId × Value → H} {W : World} {fuel : Nat} {cs : List Value} {x : DataW H × List MemPlace}
    (h : DataW.trod enc Tryd.prog W 0 (fun _ => true) true fuel 22 cs = some x) : ∃ A t c, cs = [.slice A (List.length t) c] ∧ Cs W A t ∧ t.length ≤ 9223372036854775807 := by
  rcases Deep.open_slice Tryd.underlying22 h with ⟨rfl, _⟩ | ⟨a, len, cap, m, n, D, Pl, rfl, hb, hl, hm, hmm, _, hx⟩
  · exact ⟨none, [], 0, rfl, ⟨Kd.C_nil _ _, fun k => by simp [cd, Cyc.ok]⟩, by simp⟩
  · have hc : Tryd.prog.cellsOf 50 = 3 := by kernel_rfl
    rw [hc] at hx
    have hmm : m = cap := by simpa using hmm
    have hmx : cap ≤ 9223372036854775807 := hm
    obtain ⟨V, hV⟩ := Deep.choose_lt (α := Cyc) (p := fun i c => c.ok ∧ ∀ j u, ([.int .u16 c.a, .int .u8 c.d, .bool c.w] : List Value)[j]? = some u → W.cell? (a.add (i * 3 + j)) = some u) (n := len) (fun i hi => by
      obtain ⟨cs', h1, h2⟩ := hx i (by omega)
      obtain ⟨_, _, h3⟩ := World.cells?_some h1
      obtain ⟨c, ho, rfl⟩ := open_cyc1 h2
      refine ⟨c, ho, fun j u hu => ?_⟩
      have hj : j < 3 := by
        have := (List.getElem?_eq_some_iff.1 hu).1
        simpa using this
      rw [← Deep.add_add, h3 j hj, hu])
    have hlen : ((List.range len).map V).length = len := by simp
    refine ⟨some a, (List.range len).map V, cap, by rw [hlen], ⟨⟨by rw [hlen], by rw [hlen]; omega, fun _ => ⟨a, rfl, fun j p hp => ?_⟩⟩, fun k => ?_⟩, by rw [hlen]; omega⟩
    · rw [List.getElem?_map] at hp
      obtain ⟨j', hj', rfl⟩ := Option.map_eq_some_iff.1 hp
      obtain ⟨hj1, rfl⟩ := List.getElem?_eq_some_iff.1 hj'
      rw [List.getElem_range] at *
      have hj2 : j < len := by simpa using hj1
      exact ⟨_, rfl, ⟨[_], _, rfl, rfl, [_], [_], rfl, rfl, rfl⟩, (hV j hj2).2⟩
    · unfold cd
      rw [List.getD_eq_getElem?_getD, List.getElem?_map]
      by_cases hk : k < len
      · rw [List.getElem?_range hk]
        exact (hV k hk).1
      · rw [List.getElem?_eq_none (by simp; omega)]
        simp [Cyc.ok]
set_option maxRecDepth 100000 in
theorem open_cycs {H : Type} {enc : TypeId × Value → H} {W : World} {base : Nat} {d : DataW H} {p : List MemPlace} {v : Value} (hv : Value.okWide Tryd.prog W .any base 22 v)
    (h : DataW.Trod enc Tryd.prog W 0 (fun _ => true) true 22 v d p) : ∃ A t c, v = .slice A (List.length t) c ∧ Cs W A t ∧ t.length ≤ 9223372036854775807 := by
  obtain ⟨a0, len0, cap0, rfl⟩ := okWide_slice Tryd.underlying22 hv
  obtain ⟨fuel, hf⟩ := h
  obtain ⟨A, l, c, e, hb, hm⟩ := open_cycs0 (enc := enc) (W := W) (fuel := fuel) (cs := [.slice a0 len0 cap0]) (x := (d, p)) hf
  injection e with e
  exact ⟨A, l, c, e, hb, hm⟩
end Go.Proofs.YthlmddcjbhacmaaDoor
