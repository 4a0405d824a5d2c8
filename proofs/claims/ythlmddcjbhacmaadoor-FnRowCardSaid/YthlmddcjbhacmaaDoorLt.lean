/- Which block is older: rules that the walk uses by itself. -/
import Derived.Test.YthlmddcjbhacmaaDoorKit
set_option linter.unusedVariables false
set_option linter.unusedSimpArgs false
namespace Go.Proofs.YthlmddcjbhacmaaDoor
open Go.RowKit Go.Proofs.YthlmddcjbhacmaaDoorW.PrintWords
theorem lt_s1T {a b : Nat} (h : a < b) : (a < b + 1) = True := eq_true (by omega)
theorem lt_s2T {a b : Nat} (h : a < b) : (a < b + 1 + 1) = True := eq_true (by omega)
theorem le_s0T {a b : Nat} (h : a < b) : (a ≤ b) = True := eq_true (by omega)
theorem ne_s1T {a b : Nat} (h : a < b) : (a = b + 1) = False := eq_false (by omega)
theorem en_s1T {a b : Nat} (h : a < b) : (b + 1 = a) = False := eq_false (by omega)
theorem ne_s0T {a b : Nat} (h : a < b) : (a = b) = False := eq_false (by omega)
theorem en_s0T {a b : Nat} (h : a < b) : (b = a) = False := eq_false (by omega)
theorem lt_z1 (n : Nat) : (n < n + 1) = True := eq_true (by omega)
theorem lt_z2 (n : Nat) : (n + 1 < n + 1 + 1) = True := eq_true (by omega)
theorem ne_z1 (n : Nat) : (n = n + 1) = False := eq_false (by omega)
theorem en_z1 (n : Nat) : (n + 1 = n) = False := eq_false (by omega)
attribute [go_sem] lt_z1 lt_z2 ne_z1 en_z1 lt_s1T lt_s2T le_s0T ne_s1T en_s1T ne_s0T en_s0T
end Go.Proofs.YthlmddcjbhacmaaDoor
