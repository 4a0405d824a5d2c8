/-
  No cell of these rows narrows 'for every input' (looked for: loops, veiled, ifaces, maps, wideKeys, modest, calm, conditions, laid).
  DERIVED. THE GIVEN ROWS OF THIS SEAT. 6 by the template 'for every input the law returns true; each argument reads behind the call as it read before'; 0 by the template 'total and deterministic' (their statements: YtohnclkhamccfaaTotals.lean).
  GIVEN WITH THE SEED: the statements are not yours to turn. If you find one false, say at which input.
  Laid BY PROGRAM, IN A SANDBOX (cutbox-rows.mjs): the forced cells as the released guide's own fill.sh prints them over the translation 2adf204f28bd4b88… (all of the seat's roots in one cut). By AI agents, Wed Nov 11 2026. No macro, syntax, notation, axiom, sorry.
-/
import Derived.Test.YtohnclkhamccfaaChecked
import GoSem.Claim
import GoSem.ClaimJoined
import GoSem.ClaimMapViews
import Derived.JoinedTies
import Derived.KernelRfl
namespace Go.Proofs.Ytohnclkhamccfaa
/- THE CELL 'sum', in the pinned program and in every row, IS THE sha256 OF THE DUMP (.gsa) THAT YtohnclkhamccfaaProg.lean LOADS. Nothing in Lean hashes anything: it is a label: what it is worth is what the hold of that sum in a sandbox is worth. -/
noncomputable def Try.pinned : Pinned := { name := "ytohnclkhamccfaa", sum := "2adf204f28bd4b88fd480c1c48f3052b02d79860ba5800a6a3a8f2834d7a1eab", checked := Try.checked }
namespace Rows
def none {H : Type} : Left H := { results := [], args := [] }

/-- 'laws.FnDecimal': WHATEVER THE INPUT: true; the input reads as it did. -/
def fnDecimalSpec : ChangeSpec := { name := "fnDecimal", fn := fun _ => fun
  | [d] => { results := [.lit (.bool true)], args := [d] }
  | _ => none }
def fnDecimalRow : OpenClaim := { program := "ytohnclkhamccfaa", sum := "2adf204f28bd4b88fd480c1c48f3052b02d79860ba5800a6a3a8f2834d7a1eab", func := "loop.example/g00693/laws.FnDecimal", spec := "fnDecimal", apart := false }
def FnDecimalSaid : Prop := fnDecimalRow.holds Try.pinned (OpenSpec.ofChange fnDecimalSpec)

/-- ITS FALSE NEIGHBOUR: 'it returns false'. Refute it at one input. -/
def fnDecimalWrong : ChangeSpec := { name := "fnDecimal", fn := fun _ => fun
  | [d] => { results := [.lit (.bool false)], args := [d] }
  | _ => none }
def FnDecimalWrongFalsely : Prop := fnDecimalRow.holds Try.pinned (OpenSpec.ofChange fnDecimalWrong)

/-- 'laws.FnNewRam': WHATEVER THE INPUT: true; the input reads as it did. -/
def fnNewRamSpec : ChangeSpec := { name := "fnNewRam", fn := fun _ => fun
  | [d] => { results := [.lit (.bool true)], args := [d] }
  | _ => none }
def fnNewRamRow : OpenClaim := { program := "ytohnclkhamccfaa", sum := "2adf204f28bd4b88fd480c1c48f3052b02d79860ba5800a6a3a8f2834d7a1eab", func := "loop.example/g00693/laws.FnNewRam", spec := "fnNewRam", apart := false }
def FnNewRamSaid : Prop := fnNewRamRow.holds Try.pinned (OpenSpec.ofChange fnNewRamSpec)

/-- ITS FALSE NEIGHBOUR: 'it returns false'. Refute it at one input. -/
def fnNewRamWrong : ChangeSpec := { name := "fnNewRam", fn := fun _ => fun
  | [d] => { results := [.lit (.bool false)], args := [d] }
  | _ => none }
def FnNewRamWrongFalsely : Prop := fnNewRamRow.holds Try.pinned (OpenSpec.ofChange fnNewRamWrong)

/-- 'laws.FnExactPeek': WHATEVER THE INPUT: true; the input reads as it did. -/
def fnExactPeekSpec : ChangeSpec := { name := "fnExactPeek", fn := fun _ => fun
  | [d1, d2] => { results := [.lit (.bool true)], args := [d1, d2] }
  | _ => none }
def fnExactPeekRow : OpenClaim := { program := "ytohnclkhamccfaa", sum := "2adf204f28bd4b88fd480c1c48f3052b02d79860ba5800a6a3a8f2834d7a1eab", func := "loop.example/g00693/laws.FnExactPeek", spec := "fnExactPeek", apart := false }
def FnExactPeekSaid : Prop := fnExactPeekRow.holds Try.pinned (OpenSpec.ofChange fnExactPeekSpec)

/-- ITS FALSE NEIGHBOUR: 'it returns false'. Refute it at one input. -/
def fnExactPeekWrong : ChangeSpec := { name := "fnExactPeek", fn := fun _ => fun
  | [d1, d2] => { results := [.lit (.bool false)], args := [d1, d2] }
  | _ => none }
def FnExactPeekWrongFalsely : Prop := fnExactPeekRow.holds Try.pinned (OpenSpec.ofChange fnExactPeekWrong)

/-- 'laws.FnExactPoke': WHATEVER THE INPUT: true; the input reads as it did. -/
def fnExactPokeSpec : ChangeSpec := { name := "fnExactPoke", fn := fun _ => fun
  | [d1, d2, d3] => { results := [.lit (.bool true)], args := [d1, d2, d3] }
  | _ => none }
def fnExactPokeRow : OpenClaim := { program := "ytohnclkhamccfaa", sum := "2adf204f28bd4b88fd480c1c48f3052b02d79860ba5800a6a3a8f2834d7a1eab", func := "loop.example/g00693/laws.FnExactPoke", spec := "fnExactPoke", apart := false }
def FnExactPokeSaid : Prop := fnExactPokeRow.holds Try.pinned (OpenSpec.ofChange fnExactPokeSpec)

/-- ITS FALSE NEIGHBOUR: 'it returns false'. Refute it at one input. -/
def fnExactPokeWrong : ChangeSpec := { name := "fnExactPoke", fn := fun _ => fun
  | [d1, d2, d3] => { results := [.lit (.bool false)], args := [d1, d2, d3] }
  | _ => none }
def FnExactPokeWrongFalsely : Prop := fnExactPokeRow.holds Try.pinned (OpenSpec.ofChange fnExactPokeWrong)

/-- 'laws.FnExactFill': WHATEVER THE INPUT: true; the input reads as it did. -/
def fnExactFillSpec : ChangeSpec := { name := "fnExactFill", fn := fun _ => fun
  | [d1, d2, d3] => { results := [.lit (.bool true)], args := [d1, d2, d3] }
  | _ => none }
def fnExactFillRow : OpenClaim := { program := "ytohnclkhamccfaa", sum := "2adf204f28bd4b88fd480c1c48f3052b02d79860ba5800a6a3a8f2834d7a1eab", func := "loop.example/g00693/laws.FnExactFill", spec := "fnExactFill", apart := false }
def FnExactFillSaid : Prop := fnExactFillRow.holds Try.pinned (OpenSpec.ofChange fnExactFillSpec)

/-- ITS FALSE NEIGHBOUR: 'it returns false'. Refute it at one input. -/
def fnExactFillWrong : ChangeSpec := { name := "fnExactFill", fn := fun _ => fun
  | [d1, d2, d3] => { results := [.lit (.bool false)], args := [d1, d2, d3] }
  | _ => none }
def FnExactFillWrongFalsely : Prop := fnExactFillRow.holds Try.pinned (OpenSpec.ofChange fnExactFillWrong)

/-- 'laws.FnExactCold': WHATEVER THE INPUT: true; the input reads as it did. -/
def fnExactColdSpec : ChangeSpec := { name := "fnExactCold", fn := fun _ => fun
  | [d] => { results := [.lit (.bool true)], args := [d] }
  | _ => none }
def fnExactColdRow : OpenClaim := { program := "ytohnclkhamccfaa", sum := "2adf204f28bd4b88fd480c1c48f3052b02d79860ba5800a6a3a8f2834d7a1eab", func := "loop.example/g00693/laws.FnExactCold", spec := "fnExactCold", apart := false }
def FnExactColdSaid : Prop := fnExactColdRow.holds Try.pinned (OpenSpec.ofChange fnExactColdSpec)

/-- ITS FALSE NEIGHBOUR: 'it returns false'. Refute it at one input. -/
def fnExactColdWrong : ChangeSpec := { name := "fnExactCold", fn := fun _ => fun
  | [d] => { results := [.lit (.bool false)], args := [d] }
  | _ => none }
def FnExactColdWrongFalsely : Prop := fnExactColdRow.holds Try.pinned (OpenSpec.ofChange fnExactColdWrong)

/- THE SECOND FORM. 'bulk': how many values and letters a reading holds, each counted each time it is reached (what is shared counts as often as it is met; a slice's spare places count too). A statement '..UptoSaid' is the law's where the arguments, and the package variables that the reading takes, are together of bulk at most 1048576: NARROWER than '..Said'. Prove '..Said' where nothing that the law and all that it calls make is longer than what came in: it says more and counts as full. Else prove '..UptoSaid'. A law counts once. -/
mutual
def uptoBulk {H : Type} : DataW H → Nat
  | .lit (.string bytes) => bytes.length + 1
  | .lit _ => 1
  | .nil => 1
  | .ptr d => uptoBulk d + 1
  | .slice elems spare => uptoBulkAll elems + uptoBulkAll spare + 1
  | .agg parts => uptoBulkAll parts + 1
  | .iface _ d => uptoBulk d + 1
  | .map entries => uptoBulkEntries entries + 1
  | .held _ => 1
def uptoBulkAll {H : Type} : List (DataW H) → Nat
  | [] => 0
  | d :: r => uptoBulk d + uptoBulkAll r
def uptoBulkEntries {H : Type} : List (Lit × DataW H) → Nat
  | [] => 0
  | x :: r => uptoBulkEntry x + uptoBulkEntries r
def uptoBulkEntry {H : Type} : Lit × DataW H → Nat
  | (.string bytes, d) => bytes.length + uptoBulk d + 1
  | (_, d) => uptoBulk d + 1
 end
def uptoSmall : (H : Type) → List (DataW H) → Bool := fun _ ds => decide (uptoBulkAll ds ≤ 1048576)
def OpenSpec.upto (s : _root_.Go.ChangeSpec) : _root_.Go.OpenSpec := { _root_.Go.OpenSpec.ofChange s with cond := some uptoSmall }

/-- 'laws.FnDecimal', WHERE WHAT IT READS IS OF BULK AT MOST 1048576: true; the input reads as it did. -/
def fnDecimalUptoRow : OpenClaim := { program := "ytohnclkhamccfaa", sum := "2adf204f28bd4b88fd480c1c48f3052b02d79860ba5800a6a3a8f2834d7a1eab", func := "loop.example/g00693/laws.FnDecimal", spec := "fnDecimal", apart := false, narrowed := true }
def FnDecimalUptoSaid : Prop := fnDecimalUptoRow.holds Try.pinned (OpenSpec.upto fnDecimalSpec)

/-- 'laws.FnNewRam', WHERE WHAT IT READS IS OF BULK AT MOST 1048576: true; the input reads as it did. -/
def fnNewRamUptoRow : OpenClaim := { program := "ytohnclkhamccfaa", sum := "2adf204f28bd4b88fd480c1c48f3052b02d79860ba5800a6a3a8f2834d7a1eab", func := "loop.example/g00693/laws.FnNewRam", spec := "fnNewRam", apart := false, narrowed := true }
def FnNewRamUptoSaid : Prop := fnNewRamUptoRow.holds Try.pinned (OpenSpec.upto fnNewRamSpec)

/-- 'laws.FnExactPeek', WHERE WHAT IT READS IS OF BULK AT MOST 1048576: true; the input reads as it did. -/
def fnExactPeekUptoRow : OpenClaim := { program := "ytohnclkhamccfaa", sum := "2adf204f28bd4b88fd480c1c48f3052b02d79860ba5800a6a3a8f2834d7a1eab", func := "loop.example/g00693/laws.FnExactPeek", spec := "fnExactPeek", apart := false, narrowed := true }
def FnExactPeekUptoSaid : Prop := fnExactPeekUptoRow.holds Try.pinned (OpenSpec.upto fnExactPeekSpec)

/-- 'laws.FnExactPoke', WHERE WHAT IT READS IS OF BULK AT MOST 1048576: true; the input reads as it did. -/
def fnExactPokeUptoRow : OpenClaim := { program := "ytohnclkhamccfaa", sum := "2adf204f28bd4b88fd480c1c48f3052b02d79860ba5800a6a3a8f2834d7a1eab", func := "loop.example/g00693/laws.FnExactPoke", spec := "fnExactPoke", apart := false, narrowed := true }
def FnExactPokeUptoSaid : Prop := fnExactPokeUptoRow.holds Try.pinned (OpenSpec.upto fnExactPokeSpec)

/-- 'laws.FnExactFill', WHERE WHAT IT READS IS OF BULK AT MOST 1048576: true; the input reads as it did. -/
def fnExactFillUptoRow : OpenClaim := { program := "ytohnclkhamccfaa", sum := "2adf204f28bd4b88fd480c1c48f3052b02d79860ba5800a6a3a8f2834d7a1eab", func := "loop.example/g00693/laws.FnExactFill", spec := "fnExactFill", apart := false, narrowed := true }
def FnExactFillUptoSaid : Prop := fnExactFillUptoRow.holds Try.pinned (OpenSpec.upto fnExactFillSpec)

/-- 'laws.FnExactCold', WHERE WHAT IT READS IS OF BULK AT MOST 1048576: true; the input reads as it did. -/
def fnExactColdUptoRow : OpenClaim := { program := "ytohnclkhamccfaa", sum := "2adf204f28bd4b88fd480c1c48f3052b02d79860ba5800a6a3a8f2834d7a1eab", func := "loop.example/g00693/laws.FnExactCold", spec := "fnExactCold", apart := false, narrowed := true }
def FnExactColdUptoSaid : Prop := fnExactColdUptoRow.holds Try.pinned (OpenSpec.upto fnExactColdSpec)

end Rows
end Go.Proofs.Ytohnclkhamccfaa
