/- The processor as plain functions of numbers and lists: no program, no memory. -/
import Derived.Test.YthlmddcjbhacmaaDoorKit
set_option linter.unusedVariables false
set_option linter.unusedSimpArgs false
namespace Go.Proofs.YthlmddcjbhacmaaDoor
open Go.Proofs.YthlmddcjbhacmaaDoorW.PrintWords
structure F6 where
  N : Bool
  V : Bool
  D : Bool
  I : Bool
  Z : Bool
  C : Bool
def nz (b : Int) (f : F6) : F6 := { f with N := decide (128 ≤ b), Z := b == 0 }
def over (a b c : Int) : Bool := (decide (128 ≤ a) == decide (128 ≤ b)) && !(decide (128 ≤ c) == decide (128 ≤ a))
def adcLow (a b : Int) (c : Bool) : Int := if 10 ≤ a % 16 + b % 16 + b2i c then (a % 16 + b % 16 + b2i c + 6) % 16 + 16 else a % 16 + b % 16 + b2i c
def adcHigh (a b : Int) (c : Bool) : Int := a / 16 * 16 + b / 16 * 16 + adcLow a b c
def adcSum (a b : Int) (c : Bool) : Int := if 160 ≤ adcHigh a b c then adcHigh a b c + 96 else adcHigh a b c
def adc (a b : Int) (f : F6) : Int × F6 :=
  match f.D with
  | false => ((a + b + b2i f.C) % 256, { nz ((a + b + b2i f.C) % 256) f with C := decide (255 < a + b + b2i f.C), V := over a b ((a + b + b2i f.C) % 256) })
  | true => (adcSum a b f.C % 256, { f with N := decide (128 ≤ adcHigh a b f.C % 256), V := over a b (adcHigh a b f.C % 256), C := decide (255 < adcSum a b f.C), Z := (a + b + b2i f.C) % 256 == 0 })
def sbcLow (a b : Int) (c : Bool) : Int := if a % 16 - b % 16 - 1 + b2i c < 0 then (a % 16 - b % 16 - 1 + b2i c - 6) % 16 - 16 else a % 16 - b % 16 - 1 + b2i c
def sbcHigh (a b : Int) (c : Bool) : Int := a / 16 * 16 - b / 16 * 16 + sbcLow a b c
def sbcSum (a b : Int) (c : Bool) : Int := if sbcHigh a b c < 0 then sbcHigh a b c - 96 else sbcHigh a b c
def sbc (a b : Int) (f : F6) : Int × F6 :=
  match f.D with
  | false => adc a (255 - b) f
  | true => (sbcSum a b f.C % 256, { (adc a (255 - b) { f with D := false }).2 with D := true })
def ramSize (n : Int) : Bool := n == 256 || n == 512 || n == 1024 || n == 2048 || n == 4096
theorem ramSize_le {n : Int} (h : ramSize n = true) : 256 ≤ n ∧ n ≤ 4096 := by
  simp [ramSize] at h
  omega
def peek (l : List Int) (a : Int) : Int := if ramSize l.length then rd l (a % l.length) else 0
structure Cpu where
  A : Int
  X : Int
  Y : Int
  S : Int
  PC : Int
  F : F6
def word2 (lo hi : Int) : Int := lo + 256 * hi
def cold (m : List Int) : Cpu := if ramSize m.length then ⟨0, 0, 0, 253, word2 (peek m 65532) (peek m 65533), ⟨false, false, false, true, false, false⟩⟩ else ⟨0, 0, 0, 0, 0, ⟨false, false, false, false, false, false⟩⟩
def fillN (a : Int) (list m : List Int) : Nat → List Int
  | 0 => m
  | k + 1 => (fillN a list m k).set ((a + k) % 65536 % m.length).toNat (rd list k)
theorem fillN_len (a : Int) (list m : List Int) (k : Nat) : (fillN a list m k).length = m.length := by
  induction k with
  | zero => rfl
  | succ k ih => simp [fillN, ih]
def fill (m : List Int) (a : Int) (list : List Int) : List Int := if ramSize m.length && decide (list.length ≤ 1024) then fillN a list m list.length else []
end Go.Proofs.YthlmddcjbhacmaaDoor
