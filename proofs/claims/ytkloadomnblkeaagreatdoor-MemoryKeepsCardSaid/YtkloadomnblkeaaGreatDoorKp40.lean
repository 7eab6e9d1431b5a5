/- Part 40 of the library that the proof of the statement uses: an abstract run of the program, proved right, and what its functions give. -/
import Derived.Test.YtkloadomnblkeaaGreatDoorKp39
set_option linter.unusedVariables false
set_option linter.unusedSimpArgs false

section
/- Choices of truths. -/
set_option linter.unusedVariables false
set_option linter.unusedSimpArgs false
namespace Go.Abs
open Classical

theorem condO_ss {p a b : Bool} : condO p (some a) (some b) = some (bif p then a else b) := by cases p <;> rfl
theorem condO_ts {p a : Bool} : condO p (some true) (some a) = some (p || a) := by cases p <;> rfl
theorem condO_sf {p a : Bool} : condO p (some a) (some false) = some (p && a) := by cases p <;> rfl
theorem condO_fx {R : Type} {x y : Option R} : condO false x y = y := rfl
theorem condO_tx {R : Type} {x y : Option R} : condO true x y = x := rfl

end Go.Abs
end

