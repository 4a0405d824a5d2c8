/- Reading a slice of bytes that came in; the laws' own big and at. -/
import Derived.Test.YthlmddcjbhacmaaDoorKit
set_option linter.unusedVariables false
set_option linter.unusedSimpArgs false
namespace Go.Proofs.YthlmddcjbhacmaaDoor
open Go.RowKit Go.Proofs.YthlmddcjbhacmaaDoorW.PrintWords
/-- A slice of bytes that can be read. -/
structure Bs (w : World) (A : Option Addr) (l : List Int) : Prop where
  c : Kd.C (Kd.int .u8) w A l.length l
  b : ∀ i, 0 ≤ rd l i ∧ rd l i < 256
theorem Bs.below {w w1 : World} {A : Option Addr} {l : List Int} (h : Bs w A l) (hb : Below w.heap.size w w1) : Bs w1 A l := ⟨Kd.C_below h.c hb, h.b⟩
theorem Bs.at {w : World} {A : Option Addr} {l : List Int} (h : Bs w A l) (i : Int) (h0 : 0 ≤ i) (h1 : i < l.length) : ∃ ad, A = some ad ∧ w.cell? (ad.add i.toNat) = some (.int .u8 (rd l i)) := Kd.at_int h.c i h0 h1
theorem Bs.max {w : World} {A : Option Addr} {l : List Int} (h : Bs w A l) : l.length ≤ 9223372036854775807 := Kd.C_max h.c
theorem rd_wf {l : List Int} (h : ∀ x ∈ l, (Lit.int .u8 x).wf = true) (i : Int) : 0 ≤ rd l i ∧ rd l i < 256 := by
  unfold rd
  rw [List.getD_eq_getElem?_getD]
  rcases Nat.lt_or_ge i.toNat l.length with hi | hi
  · rw [List.getElem?_eq_getElem hi]
    have := bounds_u8 (h _ (List.getElem_mem hi))
    simp only [Option.getD_some]
    omega
  · rw [List.getElem?_eq_none hi]; simp
theorem bs_of_row {w : World} {a : Option Addr} {len cap : Nat} {z : List Int} (h : (a = none ∧ len = 0 ∧ cap = 0 ∧ z = []) ∨ ∃ x, a = some x ∧ len ≤ cap ∧ cap ≤ maxLen ∧ z.length = cap ∧ (∀ i, i < z.length → w.cell? (x.add i) = some (.int .u8 (z.getD i 0))) ∧ ∀ n ∈ z, (Lit.int .u8 n).wf = true) :
    ∃ zs : List Int, zs.length = len ∧ Bs w a zs := by
  obtain ⟨l, rfl, hr, hm, hw, hc⟩ := ReadsInt.ofRowC h
  exact ⟨l, rfl, Kd.C_of_reads (d := (0 : Int)) (h1 := fun _ => rfl) hr, rd_wf hw⟩
theorem laws_big (A : Option Addr) (c : Nat) (l : List Int) (w : World) (hl : l.length ≤ 9223372036854775807) :
    Calls Tryd.prog 11 #[.slice A l.length c] w fun e w' => e = .returned (.bool (decide (1048576 < l.length))) ∧ w = w' := by
  have HB := hR w; go_enter Tryd.func11, Tryd.ntmps11
  go_wp2
  go_ret
  exact ⟨ret_of (by simp; omega), rfl⟩
def atF (l : List Int) (i : Int) : Int := if i < l.length then rd l i else (i * 7 + l.length) % 256
theorem atF_b {w : World} {A : Option Addr} {l : List Int} (h : Bs w A l) (i : Int) : 0 ≤ atF l i ∧ atF l i < 256 := by
  unfold atF; split
  · exact h.b i
  · omega
end Go.Proofs.YthlmddcjbhacmaaDoor
