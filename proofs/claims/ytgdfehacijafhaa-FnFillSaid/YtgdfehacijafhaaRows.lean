/-
  No cell of these rows narrows 'for every input' (looked for: loops, veiled, ifaces, maps, wideKeys, modest, calm, conditions, laid).
  DERIVED. THE GIVEN ROWS OF THIS SEAT. 4 by the template 'for every input the law returns true; each argument reads behind the call as it read before'; 0 by the template 'total and deterministic' (their statements: YtgdfehacijafhaaTotals.lean).
  GIVEN WITH THE SEED: the statements are not yours to turn. If you find one false, say at which input.
  Laid BY PROGRAM, IN A SANDBOX (cutbox-rows.mjs): the forced cells as the released guide's own fill.sh prints them over the translation a4dd00f1aab688d3… (all of the seat's roots in one cut). By AI agents, Wed Nov 11 2026. No macro, syntax, notation, axiom, sorry.
-/
import Derived.Test.YtgdfehacijafhaaChecked
import GoSem.Claim
import GoSem.ClaimJoined
import GoSem.ClaimMapViews
import Derived.JoinedTies
import Derived.KernelRfl
namespace Go.Proofs.Ytgdfehacijafhaa
/- THE CELL 'sum', in the pinned program and in every row, IS THE sha256 OF THE DUMP (.gsa) THAT YtgdfehacijafhaaProg.lean LOADS. Nothing in Lean hashes anything: it is a label: what it is worth is what the hold of that sum in a sandbox is worth. -/
noncomputable def Try.pinned : Pinned := { name := "ytgdfehacijafhaa", sum := "a4dd00f1aab688d3d41251cc46415e1c6e952d159cd1c54be338822a70d70de4", checked := Try.checked }
namespace Rows
def none {H : Type} : Left H := { results := [], args := [] }

/-- 'laws.FnRam': WHATEVER THE INPUT: true; the input reads as it did. -/
def fnRamSpec : ChangeSpec := { name := "fnRam", fn := fun _ => fun
  | [d] => { results := [.lit (.bool true)], args := [d] }
  | _ => none }
def fnRamRow : OpenClaim := { program := "ytgdfehacijafhaa", sum := "a4dd00f1aab688d3d41251cc46415e1c6e952d159cd1c54be338822a70d70de4", func := "loop.example/g00693/laws.FnRam", spec := "fnRam", apart := false }
def FnRamSaid : Prop := fnRamRow.holds Try.pinned (OpenSpec.ofChange fnRamSpec)

/-- ITS FALSE NEIGHBOUR: 'it returns false'. Refute it at one input. -/
def fnRamWrong : ChangeSpec := { name := "fnRam", fn := fun _ => fun
  | [d] => { results := [.lit (.bool false)], args := [d] }
  | _ => none }
def FnRamWrongFalsely : Prop := fnRamRow.holds Try.pinned (OpenSpec.ofChange fnRamWrong)

/-- 'laws.FnFill': WHATEVER THE INPUT: true; the input reads as it did. -/
def fnFillSpec : ChangeSpec := { name := "fnFill", fn := fun _ => fun
  | [d] => { results := [.lit (.bool true)], args := [d] }
  | _ => none }
def fnFillRow : OpenClaim := { program := "ytgdfehacijafhaa", sum := "a4dd00f1aab688d3d41251cc46415e1c6e952d159cd1c54be338822a70d70de4", func := "loop.example/g00693/laws.FnFill", spec := "fnFill", apart := false }
def FnFillSaid : Prop := fnFillRow.holds Try.pinned (OpenSpec.ofChange fnFillSpec)

/-- ITS FALSE NEIGHBOUR: 'it returns false'. Refute it at one input. -/
def fnFillWrong : ChangeSpec := { name := "fnFill", fn := fun _ => fun
  | [d] => { results := [.lit (.bool false)], args := [d] }
  | _ => none }
def FnFillWrongFalsely : Prop := fnFillRow.holds Try.pinned (OpenSpec.ofChange fnFillWrong)

/-- 'laws.FnExactServe': WHATEVER THE INPUT: true; the input reads as it did. -/
def fnExactServeSpec : ChangeSpec := { name := "fnExactServe", fn := fun _ => fun
  | [d1, d2, d3] => { results := [.lit (.bool true)], args := [d1, d2, d3] }
  | _ => none }
def fnExactServeRow : OpenClaim := { program := "ytgdfehacijafhaa", sum := "a4dd00f1aab688d3d41251cc46415e1c6e952d159cd1c54be338822a70d70de4", func := "loop.example/g00693/laws.FnExactServe", spec := "fnExactServe", apart := false }
def FnExactServeSaid : Prop := fnExactServeRow.holds Try.pinned (OpenSpec.ofChange fnExactServeSpec)

/-- ITS FALSE NEIGHBOUR: 'it returns false'. Refute it at one input. -/
def fnExactServeWrong : ChangeSpec := { name := "fnExactServe", fn := fun _ => fun
  | [d1, d2, d3] => { results := [.lit (.bool false)], args := [d1, d2, d3] }
  | _ => none }
def FnExactServeWrongFalsely : Prop := fnExactServeRow.holds Try.pinned (OpenSpec.ofChange fnExactServeWrong)

/-- 'laws.FnAgrees': WHATEVER THE INPUT: true; the input reads as it did. -/
def fnAgreesSpec : ChangeSpec := { name := "fnAgrees", fn := fun _ => fun
  | [d] => { results := [.lit (.bool true)], args := [d] }
  | _ => none }
def fnAgreesRow : OpenClaim := { program := "ytgdfehacijafhaa", sum := "a4dd00f1aab688d3d41251cc46415e1c6e952d159cd1c54be338822a70d70de4", func := "loop.example/g00693/laws.FnAgrees", spec := "fnAgrees", inPlace := ["internal/abi.NoEscape", "internal/bytealg.MakeNoZero"], apart := false }
def FnAgreesSaid : Prop := fnAgreesRow.holds Try.pinned (OpenSpec.ofChange fnAgreesSpec)

/-- ITS FALSE NEIGHBOUR: 'it returns false'. Refute it at one input. -/
def fnAgreesWrong : ChangeSpec := { name := "fnAgrees", fn := fun _ => fun
  | [d] => { results := [.lit (.bool false)], args := [d] }
  | _ => none }
def FnAgreesWrongFalsely : Prop := fnAgreesRow.holds Try.pinned (OpenSpec.ofChange fnAgreesWrong)

/- THE SECOND FORM. 'bulk': how many values and letters a reading holds, each counted each time it is reached (what is shared counts as often as it is met; a slice's spare places count too). A statement '..UptoSaid' is the law's where the arguments, and the package variables that the reading takes, are together of bulk at most 1048576: NARROWER than '..Said'. Prove '..Said' where nothing that the law and all that it calls make is longer than what came in: it says more and counts as full. Else prove '..UptoSaid'. A law counts once. -/
mutual
def uptoBulk {H : Type} : DataW H → Nat
  | .lit (.string bytes) => bytes.length + 1
  | .lit _ => 1
  | .nil => 1
  | .ptr d => uptoBulk d + 1
  | .slice elems spare => uptoBulkAll elems + uptoBulkAll spare + 1
  | .agg parts => uptoBulkAll parts + 1
  | .iface _ d => uptoBulk d + 1
  | .map entries => uptoBulkEntries entries + 1
  | .held _ => 1
def uptoBulkAll {H : Type} : List (DataW H) → Nat
  | [] => 0
  | d :: r => uptoBulk d + uptoBulkAll r
def uptoBulkEntries {H : Type} : List (Lit × DataW H) → Nat
  | [] => 0
  | x :: r => uptoBulkEntry x + uptoBulkEntries r
def uptoBulkEntry {H : Type} : Lit × DataW H → Nat
  | (.string bytes, d) => bytes.length + uptoBulk d + 1
  | (_, d) => uptoBulk d + 1
 end
def uptoSmall : (H : Type) → List (DataW H) → Bool := fun _ ds => decide (uptoBulkAll ds ≤ 1048576)
def OpenSpec.upto (s : _root_.Go.ChangeSpec) : _root_.Go.OpenSpec := { _root_.Go.OpenSpec.ofChange s with cond := some uptoSmall }

/-- 'laws.FnRam', WHERE WHAT IT READS IS OF BULK AT MOST 1048576: true; the input reads as it did. -/
def fnRamUptoRow : OpenClaim := { program := "ytgdfehacijafhaa", sum := "a4dd00f1aab688d3d41251cc46415e1c6e952d159cd1c54be338822a70d70de4", func := "loop.example/g00693/laws.FnRam", spec := "fnRam", apart := false, narrowed := true }
def FnRamUptoSaid : Prop := fnRamUptoRow.holds Try.pinned (OpenSpec.upto fnRamSpec)

/-- 'laws.FnFill', WHERE WHAT IT READS IS OF BULK AT MOST 1048576: true; the input reads as it did. -/
def fnFillUptoRow : OpenClaim := { program := "ytgdfehacijafhaa", sum := "a4dd00f1aab688d3d41251cc46415e1c6e952d159cd1c54be338822a70d70de4", func := "loop.example/g00693/laws.FnFill", spec := "fnFill", apart := false, narrowed := true }
def FnFillUptoSaid : Prop := fnFillUptoRow.holds Try.pinned (OpenSpec.upto fnFillSpec)

/-- 'laws.FnExactServe', WHERE WHAT IT READS IS OF BULK AT MOST 1048576: true; the input reads as it did. -/
def fnExactServeUptoRow : OpenClaim := { program := "ytgdfehacijafhaa", sum := "a4dd00f1aab688d3d41251cc46415e1c6e952d159cd1c54be338822a70d70de4", func := "loop.example/g00693/laws.FnExactServe", spec := "fnExactServe", apart := false, narrowed := true }
def FnExactServeUptoSaid : Prop := fnExactServeUptoRow.holds Try.pinned (OpenSpec.upto fnExactServeSpec)

/-- 'laws.FnAgrees', WHERE WHAT IT READS IS OF BULK AT MOST 1048576: true; the input reads as it did. -/
def fnAgreesUptoRow : OpenClaim := { program := "ytgdfehacijafhaa", sum := "a4dd00f1aab688d3d41251cc46415e1c6e952d159cd1c54be338822a70d70de4", func := "loop.example/g00693/laws.FnAgrees", spec := "fnAgrees", inPlace := ["internal/abi.NoEscape", "internal/bytealg.MakeNoZero"], apart := false, narrowed := true }
def FnAgreesUptoSaid : Prop := fnAgreesUptoRow.holds Try.pinned (OpenSpec.upto fnAgreesSpec)

end Rows
end Go.Proofs.Ytgdfehacijafhaa
