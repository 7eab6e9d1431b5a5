/- Part 15 of the library that the proof of the statement uses: an abstract run of the program, proved right, and what its functions give. -/
import Derived.Test.YtkloadomnblkeaaGreatDoorBd14
import Derived.Laws.Bits64b
set_option linter.unusedVariables false
set_option linter.unusedSimpArgs false

section
/- Words that are packed. -/
set_option linter.unusedVariables false
set_option linter.unusedSimpArgs false
namespace Go.Abs
open Go.Proofs Classical

/-- A list of words. -/
def Words (n : Nat) (cs : List AV) : Prop := Nums .u16 n cs ∧ ∀ z ∈ intsOf cs, 0 ≤ z ∧ z < 65536

end Go.Abs
end

section
/- Words of 64 bits. -/
set_option linter.unusedVariables false
set_option linter.unusedSimpArgs false
namespace Go.Abs
open Classical

theorem mul_le_sq {a b m : Int} (ha : 0 ≤ a) (hb : 0 ≤ b) (h1 : a ≤ m) (h2 : b ≤ m) : 0 ≤ a * b ∧ a * b ≤ m * m :=
  ⟨Int.mul_nonneg ha hb, Int.mul_le_mul h1 h2 hb (by omega)⟩

end Go.Abs
end

section
/- Words that the program unpacks. -/
set_option linter.unusedVariables false
set_option linter.unusedSimpArgs false
namespace Go.Abs
open Go.Proofs Classical

theorem firstNZ_2 (a b : Int) : firstNZ (intsOf [AV.int .i64 a, AV.int .i64 b]) = if a = 0 then b else a := by
  simp only [intsOf, List.map_cons, List.map_nil, toI, firstNZ]
  by_cases h : a = 0 <;> by_cases h2 : b = 0 <;> simp [h, h2]

theorem put3n (u v w : Int) : putCells (putCells (putCells (zrow (ofV (Go.Value.int IntKind.i64 (0 : Int))).cells 3) 0 [AV.int IntKind.i64 u]) 1 [AV.int IntKind.i64 v]) 2 [AV.int IntKind.i64 w] = [AV.int .i64 u, AV.int .i64 v, AV.int .i64 w] := by
  rfl
theorem ints3n (u v w : Int) : Ints 3 [AV.int IntKind.i64 u, AV.int IntKind.i64 v, AV.int IntKind.i64 w] := ⟨by omega, rfl, rfl⟩
theorem firstNZ_3 (a b c : Int) : firstNZ (intsOf [AV.int .i64 a, AV.int .i64 b, AV.int .i64 c]) = if a = 0 then (if b = 0 then c else b) else a := by
  simp only [intsOf, List.map_cons, List.map_nil, toI, firstNZ]
  by_cases h : a = 0 <;> by_cases h2 : b = 0 <;> by_cases h3 : c = 0 <;> simp [h, h2, h3]

end Go.Abs
end

section
/- Choices of truths. -/
set_option linter.unusedVariables false
set_option linter.unusedSimpArgs false
namespace Go.Abs
open Classical

theorem condO_ts {p a : Bool} : condO p (some true) (some a) = some (p || a) := by cases p <;> rfl
theorem condO_fx {R : Type} {x y : Option R} : condO false x y = y := rfl
theorem condO_tx {R : Type} {x y : Option R} : condO true x y = x := rfl

theorem leaf_agg {cs : List AV} (h : ∀ c ∈ cs, Cell c) : LeafOk (.v (.agg cs)) :=
  ⟨.agg cs fun c hc => (h c hc).pure, (fun _ _ e => by cases e), fun cs' e c hc => by cases e; exact h c hc⟩

theorem cells_ff (a b : Option Nat) : ∀ c ∈ [AV.flo .f32 a, AV.flo .f32 b], Cell c := by
  intro c hc
  rcases List.mem_cons.1 hc with rfl | hc
  · exact .flo _ _
  rcases List.mem_cons.1 hc with rfl | hc
  · exact .flo _ _
  cases hc

end Go.Abs
end

