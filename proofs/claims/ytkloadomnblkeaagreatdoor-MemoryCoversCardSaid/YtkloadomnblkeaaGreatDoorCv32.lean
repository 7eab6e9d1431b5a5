/- Part 32 of the library that the proof of the statement uses: an abstract run of the program, proved right, and what its functions give. -/
import Derived.Test.YtkloadomnblkeaaGreatDoorCv31
set_option linter.unusedVariables false
set_option linter.unusedSimpArgs false

section
/- Choices of truths. -/
set_option linter.unusedVariables false
set_option linter.unusedSimpArgs false
namespace Go.Abs
open Classical

theorem condO_ss {p a b : Bool} : condO p (some a) (some b) = some (bif p then a else b) := by cases p <;> rfl
theorem condO_ts {p a : Bool} : condO p (some true) (some a) = some (p || a) := by cases p <;> rfl
theorem condO_sf {p a : Bool} : condO p (some a) (some false) = some (p && a) := by cases p <;> rfl
theorem condO_fx {R : Type} {x y : Option R} : condO false x y = y := rfl
theorem condO_tx {R : Type} {x y : Option R} : condO true x y = x := rfl

theorem leaf_agg {cs : List AV} (h : ∀ c ∈ cs, Cell c) : LeafOk (.v (.agg cs)) :=
  ⟨.agg cs fun c hc => (h c hc).pure, (fun _ _ e => by cases e), fun cs' e c hc => by cases e; exact h c hc⟩

theorem cells_ii (a b : Int) : ∀ c ∈ [AV.int .i64 a, AV.int .i64 b], Cell c := by
  intro c hc
  rcases List.mem_cons.1 hc with rfl | hc
  · exact .int _ _
  rcases List.mem_cons.1 hc with rfl | hc
  · exact .int _ _
  cases hc

theorem cells_ff (a b : Option Nat) : ∀ c ∈ [AV.flo .f32 a, AV.flo .f32 b], Cell c := by
  intro c hc
  rcases List.mem_cons.1 hc with rfl | hc
  · exact .flo _ _
  rcases List.mem_cons.1 hc with rfl | hc
  · exact .flo _ _
  cases hc

end Go.Abs
end

