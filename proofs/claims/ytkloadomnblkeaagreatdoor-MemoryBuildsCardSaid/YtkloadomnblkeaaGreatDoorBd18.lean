/- Part 18 of the library that the proof of the statement uses: an abstract run of the program, proved right, and what its functions give. -/
import Derived.Test.YtkloadomnblkeaaGreatDoorBd17
set_option linter.unusedVariables false
set_option linter.unusedSimpArgs false

section
/- Groups of samples and of pairs, lifted (printed by the tool gen2.py). -/
set_option maxRecDepth 100000
set_option linter.unusedVariables false
namespace Go.Abs
open Go.Proofs Classical

theorem run_128 (N : Nat) (n : Nat) (cs : List AV) (a : Int) : (fsM mzH waysP N 12).call (List RLeaf) 128 [.ofB (.list n cs), .ofB (.int .i64 a), .s (.o (.fn 129 [] [])), .s (.o (.fn 130 [] []))] [] (resK [true]) = (
 loopC N (fun r_0 (x0_0 : Int) (x1_0 : Nat) (x2_0 : List AV) (x3_0 : Int) (x4_0 : Int) (x5_0 : Nat) (x6_0 : List AV) (x7_0 : Nat) (x8_0 : List AV) =>
 condO (shut (decide (x4_0 < x3_0)))
 (
 guardO (shut (decide ((0 : Int) ≤ x4_0 ∧ x4_0 < (↑x1_0 : Int) ∧ 0 < x2_0.length))) <|
 bindO (asFloat Go.FloatKind.f32 (x2_0.getD (x4_0.toNat * 1) AV.top)) fun v3 =>
 guardO (shut (decide (x0_0 ≠ (0 : Int)))) <|
 condO (shut (shut (x4_0.tmod x0_0) == (0 : Int)))
 (
 guardO (shut (decide ((x7_0 + 1) * 9 ≤ 549755813888))) <|
 r_0 (x0_0) (x1_0) (x2_0) (x3_0) (shut (IntKind.i64.wrap (x4_0 + (1 : Int)))) (x5_0) (x6_0) (x7_0 + 1) (x8_0 ++ putCells (zrow (ofV (Go.Value.agg #[Go.Value.float Go.FloatKind.f32 0, Go.Value.float Go.FloatKind.f32 0])).cells 2) 0 [AV.flo Go.FloatKind.f32 (shut (clean1 v3)), AV.flo Go.FloatKind.f32 (shut (clean1 v3))]))
 (
 guardO (shut (decide ((0 : Int) ≤ shut (IntKind.i64.wrap ((↑x7_0 : Int) - (1 : Int))) ∧ shut (IntKind.i64.wrap ((↑x7_0 : Int) - (1 : Int))) < (↑x7_0 : Int)))) <|
 guardO (shut !(true && x7_0.beq (0 : Nat))) <|
 guardO (shut (decide ((shut (IntKind.i64.wrap ((↑x7_0 : Int) - (1 : Int)))).toNat * 2 + 2 ≤ x8_0.length))) <|
 bindO (asFloat Go.FloatKind.f32 (x8_0.getD ((shut (IntKind.i64.wrap ((↑x7_0 : Int) - (1 : Int)))).toNat * 2) AV.top)) fun v9 =>
 bindO (asFloat Go.FloatKind.f32 (x8_0.getD ((shut (IntKind.i64.wrap ((↑x7_0 : Int) - (1 : Int)))).toNat * 2 + 1) AV.top)) fun v10 =>
 guardO (shut (decide (finB v9 = true ∧ finB v10 = true ∧ finB (shut (clean1 v3)) = true ∧ finB (shut (clean1 v3)) = true))) <|
 guardO (shut (decide ((0 : Int) ≤ shut (IntKind.i64.wrap ((↑x7_0 : Int) - (1 : Int))) ∧ shut (IntKind.i64.wrap ((↑x7_0 : Int) - (1 : Int))) < (↑x7_0 : Int)))) <|
 guardO (shut !(true && x7_0.beq (0 : Nat))) <|
 guardO (shut (decide ((shut (IntKind.i64.wrap ((↑x7_0 : Int) - (1 : Int)))).toNat * 2 + 2 ≤ x8_0.length))) <|
 r_0 (x0_0) (x1_0) (x2_0) (x3_0) (shut (IntKind.i64.wrap (x4_0 + (1 : Int)))) (x5_0) (x6_0) (x7_0) (putCells x8_0 ((shut (IntKind.i64.wrap ((↑x7_0 : Int) - (1 : Int)))).toNat * 2) [AV.flo Go.FloatKind.f32 (shut (minO v9 (shut (clean1 v3)))), AV.flo Go.FloatKind.f32 (shut (maxO v10 (shut (clean1 v3))))])))
 (
 some ([RLeaf.fz x7_0 x8_0])))
 (fun _ _ _ _ _ _ _ _ _ => none) (a) (n) (cs) ((↑n : Int)) ((0 : Int)) (0) ([]) (0) ([])) := by kernel_rfl

theorem run_131 (N : Nat) (n : Nat) (cs : List AV) (a : Int) : (fsM mzH waysP N 12).call (List RLeaf) 131 [.ofB (.list n cs), .ofB (.int .i64 a), .s (.o (.fn 132 [] [])), .s (.o (.fn 130 [] []))] [] (resK [true]) = (
 loopC N (fun r_0 (x0_0 : Int) (x1_0 : Nat) (x2_0 : List AV) (x3_0 : Int) (x4_0 : Int) (x5_0 : Nat) (x6_0 : List AV) (x7_0 : Nat) (x8_0 : List AV) =>
 condO (shut (decide (x4_0 < x3_0)))
 (
 guardO (shut (decide ((0 : Int) ≤ x4_0 ∧ x4_0 < (↑x1_0 : Int) ∧ 0 < x2_0.length))) <|
 guardO (shut (decide (x4_0.toNat * 2 + 2 ≤ x2_0.length))) <|
 bindO (asFloat Go.FloatKind.f32 (x2_0.getD (x4_0.toNat * 2) AV.top)) fun v4 =>
 bindO (asFloat Go.FloatKind.f32 (x2_0.getD (x4_0.toNat * 2 + 1) AV.top)) fun v5 =>
 guardO (shut (decide (x0_0 ≠ (0 : Int)))) <|
 condO (shut (shut (x4_0.tmod x0_0) == (0 : Int)))
 (
 guardO (shut (decide ((x7_0 + 1) * 9 ≤ 549755813888))) <|
 r_0 (x0_0) (x1_0) (x2_0) (x3_0) (shut (IntKind.i64.wrap (x4_0 + (1 : Int)))) (x5_0) (x6_0) (x7_0 + 1) (x8_0 ++ putCells (zrow (ofV (Go.Value.agg #[Go.Value.float Go.FloatKind.f32 0, Go.Value.float Go.FloatKind.f32 0])).cells 2) 0 [AV.flo Go.FloatKind.f32 (shut v4), AV.flo Go.FloatKind.f32 (shut v5)]))
 (
 guardO (shut (decide ((0 : Int) ≤ shut (IntKind.i64.wrap ((↑x7_0 : Int) - (1 : Int))) ∧ shut (IntKind.i64.wrap ((↑x7_0 : Int) - (1 : Int))) < (↑x7_0 : Int)))) <|
 guardO (shut !(true && x7_0.beq (0 : Nat))) <|
 guardO (shut (decide ((shut (IntKind.i64.wrap ((↑x7_0 : Int) - (1 : Int)))).toNat * 2 + 2 ≤ x8_0.length))) <|
 bindO (asFloat Go.FloatKind.f32 (x8_0.getD ((shut (IntKind.i64.wrap ((↑x7_0 : Int) - (1 : Int)))).toNat * 2) AV.top)) fun v11 =>
 bindO (asFloat Go.FloatKind.f32 (x8_0.getD ((shut (IntKind.i64.wrap ((↑x7_0 : Int) - (1 : Int)))).toNat * 2 + 1) AV.top)) fun v12 =>
 guardO (shut (decide (finB v11 = true ∧ finB v12 = true ∧ finB (shut v4) = true ∧ finB (shut v5) = true))) <|
 guardO (shut (decide ((0 : Int) ≤ shut (IntKind.i64.wrap ((↑x7_0 : Int) - (1 : Int))) ∧ shut (IntKind.i64.wrap ((↑x7_0 : Int) - (1 : Int))) < (↑x7_0 : Int)))) <|
 guardO (shut !(true && x7_0.beq (0 : Nat))) <|
 guardO (shut (decide ((shut (IntKind.i64.wrap ((↑x7_0 : Int) - (1 : Int)))).toNat * 2 + 2 ≤ x8_0.length))) <|
 r_0 (x0_0) (x1_0) (x2_0) (x3_0) (shut (IntKind.i64.wrap (x4_0 + (1 : Int)))) (x5_0) (x6_0) (x7_0) (putCells x8_0 ((shut (IntKind.i64.wrap ((↑x7_0 : Int) - (1 : Int)))).toNat * 2) [AV.flo Go.FloatKind.f32 (shut (minO v11 (shut v4))), AV.flo Go.FloatKind.f32 (shut (maxO v12 (shut v5)))])))
 (
 some ([RLeaf.fz x7_0 x8_0])))
 (fun _ _ _ _ _ _ _ _ _ => none) (a) (n) (cs) ((↑n : Int)) ((0 : Int)) (0) ([]) (0) ([])) := by kernel_rfl


end Go.Abs
end

