/- The processor's moves, comparisons and flags: what impl's functions return. -/
import Derived.Test.YthlmddcjbhacmaaDoorAlu2
import Derived.Test.YthlmddcjbhacmaaDoorPack
import Derived.Test.YthlmddcjbhacmaaDoorSet
import Derived.Deep.RegionHeld3
set_option linter.unusedVariables false
set_option linter.unusedSimpArgs false
namespace Go.Proofs.YthlmddcjbhacmaaDoor
open Go.RowKit Go.Proofs.YthlmddcjbhacmaaDoorW.PrintWords
attribute [local go_sem] u8_and1 u8_and15 u8_and240 i64_and15
def bitT (b k : Int) : Bool := b / k % 2 == 1
def unpackP (b : Int) : F6 := ⟨decide (128 ≤ b), bitT b 64, bitT b 8, bitT b 4, bitT b 2, bitT b 1⟩
def cmpF (a b : Int) (f : F6) : F6 := { nz ((a - b) % 256) f with C := decide (b ≤ a) }
def movF (b : Int) (out : Bool) (f : F6) : F6 := { nz b f with C := out }
def aslT (b : Int) (f : F6) : Int × F6 := (b * 2 % 256, movF (b * 2 % 256) (decide (128 ≤ b)) f)
def lsrT (b : Int) (f : F6) : Int × F6 := (b / 2, movF (b / 2) (bitT b 1) f)
def rolT (b : Int) (f : F6) : Int × F6 := (b * 2 % 256 + b2i f.C, movF (b * 2 % 256 + b2i f.C) (decide (128 ≤ b)) f)
def rorT (b : Int) (f : F6) : Int × F6 := (b / 2 + 128 * b2i f.C, movF (b / 2 + 128 * b2i f.C) (bitT b 1) f)
theorem u8_rol : ∀ n : Nat, n < 256 → ∀ c : Bool, bits .or .u8 (((n : Int)) * 2 % 256) (bitI c 0) = (n : Int) * 2 % 256 + b2i c := by decide +kernel
theorem u8_ror : ∀ n : Nat, n < 256 → ∀ c : Bool, bits .or .u8 ((n : Int) / 2) (bitI c 7) = (n : Int) / 2 + 128 * b2i c := by decide +kernel
theorem of_u8 {P : Int → Prop} (h : ∀ n : Nat, n < 256 → P n) (b : Int) (h0 : 0 ≤ b) (h1 : b < 256) : P b := by
  obtain ⟨n, rfl⟩ := Int.eq_ofNat_of_zero_le h0
  exact h n (by omega)
def bitF (a m : Int) (f : F6) : F6 := { f with N := decide (128 ≤ m), V := bitT m 64, Z := bits .and .u8 a m == 0 }
end Go.Proofs.YthlmddcjbhacmaaDoor
