/- The processor as plain functions of numbers and lists: no program, no memory. -/
import Derived.Test.YtohnclkhamccfaaKit
namespace Go.Proofs.Ytohnclkhamccfaa
structure F6 where
  N : Bool
  V : Bool
  D : Bool
  I : Bool
  Z : Bool
  C : Bool
def nz (b : Int) (f : F6) : F6 := { f with N := decide (128 ≤ b), Z := b == 0 }
def over (a b c : Int) : Bool := (decide (128 ≤ a) == decide (128 ≤ b)) && !(decide (128 ≤ c) == decide (128 ≤ a))
def adcLow (a b : Int) (c : Bool) : Int := if 10 ≤ a % 16 + b % 16 + b2i c then (a % 16 + b % 16 + b2i c + 6) % 16 + 16 else a % 16 + b % 16 + b2i c
def adcHigh (a b : Int) (c : Bool) : Int := a / 16 * 16 + b / 16 * 16 + adcLow a b c
def adcSum (a b : Int) (c : Bool) : Int := if 160 ≤ adcHigh a b c then adcHigh a b c + 96 else adcHigh a b c
def adc (a b : Int) (f : F6) : Int × F6 :=
  match f.D with
  | false => ((a + b + b2i f.C) % 256, { nz ((a + b + b2i f.C) % 256) f with C := decide (255 < a + b + b2i f.C), V := over a b ((a + b + b2i f.C) % 256) })
  | true => (adcSum a b f.C % 256, { f with N := decide (128 ≤ adcHigh a b f.C % 256), V := over a b (adcHigh a b f.C % 256), C := decide (255 < adcSum a b f.C), Z := (a + b + b2i f.C) % 256 == 0 })
def sbcLow (a b : Int) (c : Bool) : Int := if a % 16 - b % 16 - 1 + b2i c < 0 then (a % 16 - b % 16 - 1 + b2i c - 6) % 16 - 16 else a % 16 - b % 16 - 1 + b2i c
def sbcHigh (a b : Int) (c : Bool) : Int := a / 16 * 16 - b / 16 * 16 + sbcLow a b c
def sbcSum (a b : Int) (c : Bool) : Int := if sbcHigh a b c < 0 then sbcHigh a b c - 96 else sbcHigh a b c
def sbc (a b : Int) (f : F6) : Int × F6 :=
  match f.D with
  | false => adc a (255 - b) f
  | true => (sbcSum a b f.C % 256, { (adc a (255 - b) { f with D := false }).2 with D := true })
end Go.Proofs.Ytohnclkhamccfaa
