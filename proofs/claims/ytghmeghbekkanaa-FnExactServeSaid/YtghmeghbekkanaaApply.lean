/- Apply: the writes of a list of cycles, made in a memory. -/
import Derived.Test.YtghmeghbekkanaaFill
import Derived.Test.YtghmeghbekkanaaCyc
set_option linter.unusedVariables false
set_option linter.unusedSimpArgs false
namespace Go.Proofs.Ytghmeghbekkanaa
open Go.RowKit Go.Proofs.YtghmeghbekkanaaW.PrintWords
def cd (l : List Cyc) (k : Nat) : Cyc := l.getD k ⟨0, 0, false⟩
structure Cs (w : World) (A : Option Addr) (l : List Cyc) : Prop where
  c : cycK.C w A l.length l
  b : ∀ k, (cd l k).ok
theorem Cs.below {w w1 : World} {A : Option Addr} {l : List Cyc} (h : Cs w A l) (hb : Below w.heap.size w w1) : Cs w1 A l := ⟨Kd.C_below h.c hb, h.b⟩
theorem OwnC.cs {w : World} {base : Nat} {A : Option Addr} {c : Nat} {l : List Cyc} (h : OwnC w base (.slice A l.length c) l) (hb : ∀ k, (cd l k).ok) : Cs w A l := ⟨(Kd.R_reads' h).2.2, hb⟩
theorem Cs.max {w : World} {A : Option Addr} {l : List Cyc} (h : Cs w A l) : l.length ≤ 9223372036854775807 := Kd.C_max h.c
theorem OwnC.row {w : World} {base : Nat} {v : Value} {l : List Cyc} (h : OwnC w base v l) : ∀ k, v.ownBlock = some k → base ≤ k ∧ k < w.heap.size := fun k e => ⟨Kd.R_base h k e, Kd.R_lt h k e⟩
theorem OwnC.away {w0 w w1 : World} {base lo hi : Nat} {v : Value} {l : List Cyc} {row : Option Nat} (h0 : OwnC w0 base v l) (hb : Below w0.heap.size w0 w) (hg : w.grownBy w1 row)
    (hr : ∀ k, row = some k → lo ≤ k ∧ k < hi) (hd : w0.heap.size ≤ lo ∨ hi ≤ base) : OwnC w1 base v l :=
  Kd.R_mono (Kd.R_grown (Kd.R_below (Kd.R_bound h0) hb) hg (fun k hk e => by have h1 := hk.2.1; have h2 := hk.2.2.1; have h3 := hr k e.symm; omega)) (fun _ _ => trivial)
theorem OwnC.below {w w1 : World} {base : Nat} {v : Value} {l : List Cyc} (h : OwnC w base v l) (hb : Below w.heap.size w w1) : OwnC w1 base v l := Kd.R_below h hb
def applyN (cs : List Cyc) (l : List Int) : Nat → List Int
  | 0 => l
  | k + 1 => if (cd cs k).w then (applyN cs l k).set ((cd cs k).a % l.length).toNat (cd cs k).d else applyN cs l k
def apply (l : List Int) (cs : List Cyc) : List Int := if ramSize l.length then applyN cs l cs.length else []
theorem applyN_len (cs : List Cyc) (l : List Int) (k : Nat) : (applyN cs l k).length = l.length := by
  induction k with
  | zero => rfl
  | succ k ih =>
    unfold applyN
    split
    · rw [List.length_set, ih]
    · exact ih
theorem applyN_on (cs : List Cyc) (l : List Int) (k : Nat) (h : (cd cs k).w = true) : applyN cs l (k + 1) = (applyN cs l k).set ((cd cs k).a % l.length).toNat (cd cs k).d := by rw [applyN, if_pos h]
theorem applyN_off (cs : List Cyc) (l : List Int) (k : Nat) (h : (cd cs k).w = false) : applyN cs l (k + 1) = applyN cs l k := by rw [applyN, if_neg (by simp [h])]
theorem set_rd {l : List Int} {n : Nat} {x : Int} (hl : ∀ i, 0 ≤ rd l i ∧ rd l i < 256) (h0 : 0 ≤ x) (h1 : x < 256) (i : Int) : 0 ≤ rd (l.set n x) i ∧ rd (l.set n x) i < 256 := by
  have ih := hl i
  unfold rd at *
  rw [List.getD_eq_getElem?_getD, List.getElem?_set]
  split
  · split
    · simpa using ⟨h0, h1⟩
    · simp
  · rw [← List.getD_eq_getElem?_getD]; exact ih
theorem applyN_rd (cs : List Cyc) (l : List Int) (hl : ∀ i, 0 ≤ rd l i ∧ rd l i < 256) (hb : ∀ k, (cd cs k).ok) (k : Nat) : ∀ i, 0 ≤ rd (applyN cs l k) i ∧ rd (applyN cs l k) i < 256 := by
  induction k with
  | zero => exact hl
  | succ k ih =>
    intro i
    unfold applyN
    split
    · exact set_rd ih (hb k).2.2.1 (hb k).2.2.2 i
    · exact ih i
theorem apply_rd (l : List Int) (cs : List Cyc) (hl : ∀ i, 0 ≤ rd l i ∧ rd l i < 256) (hb : ∀ k, (cd cs k).ok) (i : Int) : 0 ≤ rd (apply l cs) i ∧ rd (apply l cs) i < 256 := by
  unfold apply
  split
  · exact applyN_rd cs l hl hb _ i
  · simp [rd]
theorem apply_le (l : List Int) (cs : List Cyc) : (apply l cs).length ≤ l.length := by
  unfold apply
  split
  · rw [applyN_len]; exact Nat.le_refl _
  · simp
end Go.Proofs.Ytghmeghbekkanaa
