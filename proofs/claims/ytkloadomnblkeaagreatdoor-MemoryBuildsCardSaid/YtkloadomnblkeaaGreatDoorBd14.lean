/- Part 14 of the library that the proof of the statement uses: an abstract run of the program, proved right, and what its functions give. -/
import Derived.Test.YtkloadomnblkeaaGreatDoorBd13
set_option linter.unusedVariables false
set_option linter.unusedSimpArgs false

section
/- Functions of the Memory seat, lifted (printed by the tool gen2.py). -/
set_option maxRecDepth 100000
set_option linter.unusedVariables false
namespace Go.Abs
open Go.Proofs Classical

theorem run_90 (N : Nat) (a b : Int) : (fsM mz2 waysP N 12).call (List RLeaf) 90 [.ofB (.int .i64 a), .ofB (.int .i64 b)] [] (resK [false]) = (
 condO (shut (b == (0 : Int)))
 (
 some ([RLeaf.v (AV.int IntKind.i64 (0 : Int))]))
 (
 loopC N (fun r_1 (x0_1 : Int) (x1_1 : Int) (x2_1 : Int) =>
 condO (shut (decide (x2_1 < x0_1)))
 (
 r_1 (x0_1) (shut (IntKind.i64.wrap (x1_1 + (1 : Int)))) (shut (IntKind.i64.wrap ((2 : Int) * x2_1))))
 (
 some ([RLeaf.v (AV.int IntKind.i64 x1_1)])))
 (fun _ _ _ => none) (b) ((1 : Int)) (a))) := by kernel_rfl

theorem run_78 (N : Nat) (a b l i : Int) : (fsM mz2 waysP N 12).call (List RLeaf) 78 [.ofB (.int .i64 a), .ofB (.int .i64 b), .s (.agg [.b (.int .i64 l), .b (.int .i64 i)])] [] (resK [false, false]) = (
 condO (shut (decide (l < (0 : Int))))
 (
 some ([RLeaf.v (AV.int IntKind.i64 i), RLeaf.v (AV.int IntKind.i64 (shut (IntKind.i64.wrap (i + (1 : Int)))))]))
 (
 loopC N (fun r_1 (x0_1 : Int) (x1_1 : Int) (x2_1 : Int) (x3_1 : Int) (x4_1 : Int) =>
 condO (shut (decide (x2_1 < x3_1)))
 (
 r_1 (x0_1) (shut (IntKind.i64.wrap ((2 : Int) * x1_1))) (shut (IntKind.i64.wrap (x2_1 + (1 : Int)))) (x3_1) (x4_1))
 (
 some ([RLeaf.v (AV.int IntKind.i64 (shut (if shut (IntKind.i64.wrap (x1_1 * x4_1)) < x0_1 then shut (IntKind.i64.wrap (x1_1 * x4_1)) else x0_1))), RLeaf.v (AV.int IntKind.i64 (shut (if shut (IntKind.i64.wrap (x1_1 * shut (IntKind.i64.wrap (x4_1 + (1 : Int))))) < x0_1 then shut (IntKind.i64.wrap (x1_1 * shut (IntKind.i64.wrap (x4_1 + (1 : Int))))) else x0_1)))])))
 (fun _ _ _ _ _ => none) (b) (a) ((0 : Int)) (l) (i))) := by kernel_rfl

theorem run_33 (N : Nat) (n : Nat) (cs : List AV) (m : Nat) (ds : List AV) : (fsM mz2 waysP N 12).call (List RLeaf) 33 [.ofB (.list n cs), .ofB (.list m ds)] [] (resK [false]) = (
 condO (shut ((↑n : Int) != (↑m : Int)))
 (
 some ([RLeaf.v (AV.bool false)]))
 (
 loopC N (fun r_1 (x0_1 : Nat) (x1_1 : List AV) (x2_1 : Nat) (x3_1 : List AV) (x4_1 : Int) =>
 condO (shut (decide (x4_1 < (↑x0_1 : Int))))
 (
 guardO (shut (decide ((0 : Int) ≤ x4_1 ∧ x4_1 < (↑x0_1 : Int) ∧ 0 < x1_1.length))) <|
 guardO (shut (decide (x4_1.toNat * 2 + 2 ≤ x1_1.length))) <|
 bindO (asInt IntKind.i64 (x1_1.getD (x4_1.toNat * 2) AV.top)) fun v5 =>
 bindO (asInt IntKind.i64 (x1_1.getD (x4_1.toNat * 2 + 1) AV.top)) fun v6 =>
 guardO (shut (decide ((0 : Int) ≤ x4_1 ∧ x4_1 < (↑x2_1 : Int) ∧ 0 < x3_1.length))) <|
 guardO (shut (decide (x4_1.toNat * 2 + 2 ≤ x3_1.length))) <|
 bindO (asInt IntKind.i64 (x3_1.getD (x4_1.toNat * 2) AV.top)) fun v9 =>
 bindO (asInt IntKind.i64 (x3_1.getD (x4_1.toNat * 2 + 1) AV.top)) fun v10 =>
 condO (shut !(shut (v5 == v9) && (shut (v6 == v10) && true)))
 (
 some ([RLeaf.v (AV.bool false)]))
 (
 r_1 (x0_1) (x1_1) (x2_1) (x3_1) (shut (IntKind.i64.wrap (x4_1 + (1 : Int))))))
 (
 some ([RLeaf.v (AV.bool true)])))
 (fun _ _ _ _ _ => none) (n) (cs) (m) (ds) ((0 : Int)))) := by kernel_rfl

theorem run_34 (N : Nat) (n : Nat) (cs : List AV) : (fsM mz2 waysP N 12).call (List RLeaf) 34 [.ofB (.list n cs)] [] (resK [true]) = (
 loopC N (fun r_0 (x0_0 : Nat) (x1_0 : List AV) (x2_0 : Int) (x3_0 : Int) (x4_0 : Nat) (x5_0 : List AV) (x6_0 : Nat) (x7_0 : List AV) =>
 condO (shut (decide (x3_0 < x2_0)))
 (
 guardO (shut (decide ((0 : Int) ≤ x3_0 ∧ x3_0 < (↑x0_0 : Int) ∧ 0 < x1_0.length))) <|
 guardO (shut (decide (x3_0.toNat * 2 + 2 ≤ x1_0.length))) <|
 bindO (asInt IntKind.i64 (x1_0.getD (x3_0.toNat * 2) AV.top)) fun v4 =>
 bindO (asInt IntKind.i64 (x1_0.getD (x3_0.toNat * 2 + 1) AV.top)) fun v5 =>
 guardO (shut (decide ((x6_0 + 1) * 17 ≤ 549755813888))) <|
 r_0 (x0_0) (x1_0) (x2_0) (shut (IntKind.i64.wrap (x3_0 + (1 : Int)))) (x4_0) (x5_0) (x6_0 + 1) (x7_0 ++ putCells (zrow (ofV (Go.Value.agg #[Go.Value.int IntKind.i64 (0 : Int), Go.Value.int IntKind.i64 (0 : Int)])).cells 2) 0 [AV.int IntKind.i64 v4, AV.int IntKind.i64 v5]))
 (
 some ([RLeaf.fz x6_0 x7_0])))
 (fun _ _ _ _ _ _ _ _ => none) (n) (cs) ((↑n : Int)) ((0 : Int)) (0) ([]) (0) ([])) := by kernel_rfl

theorem run_88 (N : Nat) (a b c : Int) : (fsM mz2 waysP N 12).call (List RLeaf) 88 [.ofB (.int .i64 a), .ofB (.int .i64 b), .ofB (.int .i64 c)] [] (resK [false]) = (
 guardO (shut (decide (Ints 3 (putCells (putCells (putCells (zrow (ofV (Go.Value.int IntKind.i64 (0 : Int))).cells 3) 0 [AV.int IntKind.i64 (shut (if b < (0 : Int) ∨ b > a then (3 : Int) else (0 : Int)))]) 1 [AV.int IntKind.i64 (shut (if c < (0 : Int) ∨ c > a then (3 : Int) else (0 : Int)))]) 2 [AV.int IntKind.i64 (shut (if shut (decide (c < b)) = true then (11 : Int) else (0 : Int)))])))) <|
 some ([RLeaf.v (AV.int IntKind.i64 (shut (firstNZ (intsOf (putCells (putCells (putCells (zrow (ofV (Go.Value.int IntKind.i64 (0 : Int))).cells 3) 0 [AV.int IntKind.i64 (shut (if b < (0 : Int) ∨ b > a then (3 : Int) else (0 : Int)))]) 1 [AV.int IntKind.i64 (shut (if c < (0 : Int) ∨ c > a then (3 : Int) else (0 : Int)))]) 2 [AV.int IntKind.i64 (shut (if shut (decide (c < b)) = true then (11 : Int) else (0 : Int)))])))))])) := by kernel_rfl


end Go.Abs
end

