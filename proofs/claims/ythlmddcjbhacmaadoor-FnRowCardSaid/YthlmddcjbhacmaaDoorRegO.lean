/- Regions by number. -/
import Derived.Test.YthlmddcjbhacmaaDoorKit
set_option linter.unusedVariables false
set_option linter.unusedSimpArgs false
namespace Go.Proofs.YthlmddcjbhacmaaDoor
open Go.RowKit Go.Proofs.YthlmddcjbhacmaaDoorW.PrintWords
/-- The region of that number in a code. -/
def regOf (n : Nat) : Code → Option Code
  | .region id ops b => if id = n then some (.region id ops b) else none
  | .seq a b => match regOf n a with
    | some c => some c
    | none => regOf n b
  | .cond _ a b => match regOf n a with
    | some c => some c
    | none => regOf n b
  | .block _ c => regOf n c
  | .loop c => regOf n c
  | .scope c => regOf n c
  | _ => none
/-- A post that speaks of the normal end alone. -/
def OnNormal (R : Act → World → Prop) : Exit → Act → World → Prop
  | .normal, a, w => R a w
  | _, _, _ => False
@[go_sem] theorem onNormal_normal (R : Act → World → Prop) (a : Act) (w : World) : OnNormal R .normal a w = R a w := rfl
theorem wp_normal {P : Program} {c : Code} {R : Act → World → Prop} {Q : Exit → Act → World → Prop} {a : Act} {w : World} (h : c.wp P (OnNormal R) a w) (hq : ∀ a' w', R a' w' → Q .normal a' w') : c.wp P Q a w :=
  wp_mono h (fun e a' w' k => by
    cases e <;> first | exact hq a' w' k | exact absurd k (by simp [OnNormal]))
end Go.Proofs.YthlmddcjbhacmaaDoor
