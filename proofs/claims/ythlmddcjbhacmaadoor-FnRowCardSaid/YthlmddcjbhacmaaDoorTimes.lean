/- The times of operations: the program's and the reference's are the same. -/
import Derived.Test.YthlmddcjbhacmaaDoorTimeI
import Derived.Test.YthlmddcjbhacmaaDoorOpS
set_option linter.unusedVariables false
set_option linter.unusedSimpArgs false
namespace Go.Proofs.YthlmddcjbhacmaaDoor
open Go.RowKit Go.Proofs.YthlmddcjbhacmaaDoorW.PrintWords
theorem kindI_b : ∀ c : Nat, c < 256 → 0 ≤ kindI c ∧ kindI c ≤ 12 := by decide +kernel
theorem mdI_b : ∀ c : Nat, c < 256 → -1 ≤ mdI c ∧ mdI c ≤ 12 := by decide +kernel
theorem kindSI : ∀ c : Nat, c < 256 → kindS c = kindI c := by decide +kernel
theorem mdSI : ∀ c : Nat, c < 256 → mdS c = mdI c := by decide +kernel
theorem nmSI : ∀ c : Nat, c < 256 → nmS c = nmL c := by decide +kernel
theorem of_byte {p : Int → Prop} (h : ∀ c : Nat, c < 256 → p c) (code : Int) (h0 : 0 ≤ code) (h1 : code < 256) : p code := by
  have := h code.toNat (by omega)
  rwa [Int.toNat_of_nonneg h0] at this
def baseT (m : Int) : Int := if m == 2 then 2 else if m == 3 then 3 else if m == 4 || m == 5 || m == 6 then 4 else if m == 7 || m == 8 then 5 else 6
def wideT (m : Int) : Bool := m == 7 || m == 8 || m == 11
def placeT (k m : Int) (c : Bool) : Int := baseT m + (if k == 2 && wideT m then b2i c - 1 else 0) + (if k == 4 then 2 else 0)
theorem mode_cases (m : Int) (h0 : -1 ≤ m) (h1 : m ≤ 12) : m = -1 ∨ m = 0 ∨ m = 1 ∨ m = 2 ∨ m = 3 ∨ m = 4 ∨ m = 5 ∨ m = 6 ∨ m = 7 ∨ m = 8 ∨ m = 9 ∨ m = 10 ∨ m = 11 ∨ m = 12 := by omega
def timeT (k m : Int) (c t : Bool) : Int :=
  if k == 1 then 2 else if k == 2 || k == 3 || k == 4 then placeT k m c else if k == 5 then (if t then 3 + b2i c else 2) else if k == 6 then (if m == 9 then 5 else 3) else if k == 7 || k == 8 || k == 9 then 6 else if k == 10 then 7 else if k == 11 then 3 else if k == 12 then 4 else 0
def timeI (code : Int) (c t : Bool) : Int := timeT (kindI code) (mdI code) c t
theorem kind_cases (k : Int) (h0 : 0 ≤ k) (h1 : k ≤ 12) : k = 0 ∨ k = 1 ∨ k = 2 ∨ k = 3 ∨ k = 4 ∨ k = 5 ∨ k = 6 ∨ k = 7 ∨ k = 8 ∨ k = 9 ∨ k = 10 ∨ k = 11 ∨ k = 12 := by omega
end Go.Proofs.YthlmddcjbhacmaaDoor
