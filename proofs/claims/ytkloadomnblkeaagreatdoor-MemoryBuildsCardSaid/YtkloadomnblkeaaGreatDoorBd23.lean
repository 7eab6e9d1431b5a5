/- Part 23 of the library that the proof of the statement uses: an abstract run of the program, proved right, and what its functions give. -/
import Derived.Test.YtkloadomnblkeaaGreatDoorBd22
set_option linter.unusedVariables false
set_option linter.unusedSimpArgs false

section
/- A copy of pairs, lifted (printed by the tool gen2.py). -/
set_option maxRecDepth 100000
set_option linter.unusedVariables false
namespace Go.Abs
open Go.Proofs Classical

theorem run_44 (N : Nat) (n : Nat) (cs : List AV) : (fsM mzJ waysP N 12).call (List RLeaf) 44 [.ofB (.list n cs)] [] (resK [true]) = (
 loopC N (fun r_0 (x0_0 : Nat) (x1_0 : List AV) (x2_0 : Int) (x3_0 : Int) (x4_0 : Nat) (x5_0 : List AV) (x6_0 : Nat) (x7_0 : List AV) =>
 condO (shut (decide (x3_0 < x2_0)))
 (
 guardO (shut (decide ((0 : Int) ≤ x3_0 ∧ x3_0 < (↑x0_0 : Int) ∧ 0 < x1_0.length))) <|
 guardO (shut (decide (x3_0.toNat * 2 + 2 ≤ x1_0.length))) <|
 bindO (asFloat Go.FloatKind.f32 (x1_0.getD (x3_0.toNat * 2) AV.top)) fun v4 =>
 bindO (asFloat Go.FloatKind.f32 (x1_0.getD (x3_0.toNat * 2 + 1) AV.top)) fun v5 =>
 guardO (shut (decide ((x6_0 + 1) * 9 ≤ 549755813888))) <|
 r_0 (x0_0) (x1_0) (x2_0) (shut (IntKind.i64.wrap (x3_0 + (1 : Int)))) (x4_0) (x5_0) (x6_0 + 1) (x7_0 ++ putCells (zrow (ofV (Go.Value.agg #[Go.Value.float Go.FloatKind.f32 0, Go.Value.float Go.FloatKind.f32 0])).cells 2) 0 [AV.flo Go.FloatKind.f32 v4, AV.flo Go.FloatKind.f32 v5]))
 (
 some ([RLeaf.fz x6_0 x7_0])))
 (fun _ _ _ _ _ _ _ _ => none) (n) (cs) ((↑n : Int)) ((0 : Int)) (0) ([]) (0) ([])) := by kernel_rfl


end Go.Abs
end

