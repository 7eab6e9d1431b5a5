/- Part 18 of the library that the proof of the statement uses: an abstract run of the program, proved right, and what its functions give. -/
import Derived.Test.YtkloadomnblkeaaGreatDoorCv17
set_option linter.unusedVariables false
set_option linter.unusedSimpArgs false

section
/- Functions of the Memory seat, lifted (printed by the tool gen2.py). -/
set_option maxRecDepth 100000
set_option linter.unusedVariables false
namespace Go.Abs
open Go.Proofs Classical

theorem run_66 (N : Nat) (n : Nat) (cs : List AV) : (fsM mz2 waysP N 8).call (List RLeaf) 66 [.ofB (.list n cs)] [] (resK [true, false]) = (
 condO (shut (decide ((↑n : Int) > (4096 : Int))))
 (
 some ([RLeaf.fz 0 [], RLeaf.v (AV.int IntKind.i64 (5 : Int))]))
 (
 loopC N (fun r_1 (x0_1 : Int) (x1_1 : Nat) (x2_1 : List AV) (x3_1 : Int) (x4_1 : Int) (x5_1 : Nat) (x6_1 : List AV) (x7_1 : Nat) (x8_1 : List AV) =>
 condO (shut (decide (x4_1 < x3_1)))
 (
 guardO (shut (decide ((0 : Int) ≤ x4_1 ∧ x4_1 < (↑x1_1 : Int) ∧ 0 < x2_1.length))) <|
 bindO (asInt IntKind.i64 (x2_1.getD (x4_1.toNat * 1) AV.top)) fun v4 =>
 condO (shut (shut (if v4 < (0 : Int) ∨ v4 > (4095 : Int) then (3 : Int) else (0 : Int)) != (0 : Int)))
 (
 some ([RLeaf.fz 0 [], RLeaf.v (AV.int IntKind.i64 (shut (if v4 < (0 : Int) ∨ v4 > (4095 : Int) then (3 : Int) else (0 : Int))))]))
 (
 condO (shut (decide (shut (zigW (shut (IntKind.i64.wrap (v4 - x0_1)))) < (128 : Int))))
 (
 guardO (shut (decide ((x7_1 + 1) * 2 ≤ 549755813888))) <|
 r_1 (v4) (x1_1) (x2_1) (x3_1) (shut (IntKind.i64.wrap (x4_1 + (1 : Int)))) (x5_1) (x6_1) (x7_1 + 1) (x8_1 ++ putCells (zrow (ofV (Go.Value.int IntKind.u8 (0 : Int))).cells 1) 0 [AV.int IntKind.u8 (shut (IntKind.u8.wrap (shut (zigW (shut (IntKind.i64.wrap (v4 - x0_1)))))))]))
 (
 guardO (shut (decide ((128 : Int) ≠ (0 : Int)))) <|
 guardO (shut (decide ((128 : Int) ≠ (0 : Int)))) <|
 guardO (shut (decide ((x7_1 + 2) * 2 ≤ 549755813888))) <|
 r_1 (v4) (x1_1) (x2_1) (x3_1) (shut (IntKind.i64.wrap (x4_1 + (1 : Int)))) (x5_1) (x6_1) (x7_1 + 2) (x8_1 ++ putCells (putCells (zrow (ofV (Go.Value.int IntKind.u8 (0 : Int))).cells 2) 0 [AV.int IntKind.u8 (shut (IntKind.u8.wrap (shut (IntKind.i64.wrap (shut ((shut (zigW (shut (IntKind.i64.wrap (v4 - x0_1))))).tmod (128 : Int)) + (128 : Int))))))]) 1 [AV.int IntKind.u8 (shut (IntKind.u8.wrap (shut (IntKind.i64.wrap ((shut (zigW (shut (IntKind.i64.wrap (v4 - x0_1))))).tdiv (128 : Int))))))]))))
 (
 some ([RLeaf.fz x7_1 x8_1, RLeaf.v (AV.int IntKind.i64 (0 : Int))])))
 (fun _ _ _ _ _ _ _ _ _ => none) ((0 : Int)) (n) (cs) ((↑n : Int)) ((0 : Int)) (0) ([]) (0) ([]))) := by kernel_rfl

theorem run_67 (N : Nat) (n : Nat) (cs : List AV) : (fsM mz2 waysP N 8).call (List RLeaf) 67 [.ofB (.list n cs)] [] (resK [true, false]) = (
 condO (shut (decide ((↑n : Int) > (8192 : Int))))
 (
 some ([RLeaf.fz 0 [], RLeaf.v (AV.int IntKind.i64 (26 : Int))]))
 (
 loopC N (fun r_1 (x0_1 : Nat) (x1_1 : List AV) (x2_1 : Int) (x3_1 : Int) (x4_1 : Nat) (x5_1 : List AV) (x6_1 : Nat) (x7_1 : List AV) =>
 condO (shut (decide (x3_1 < (↑x0_1 : Int))))
 (
 guardO (shut (decide ((0 : Int) ≤ x3_1 ∧ x3_1 < (↑x0_1 : Int) ∧ 0 < x1_1.length))) <|
 bindO (asInt IntKind.u8 (x1_1.getD (x3_1.toNat * 1) AV.top)) fun v4 =>
 joinC N (
 (fun (y0_5 : Nat) (y1_5 : List AV) (y2_5 : Int) (y3_5 : Int) (y4_5 : Int) (y5_5 : Nat) (y6_5 : List AV) (y7_5 : Nat) (y8_5 : List AV) =>
 guardO (shut (decide (Ints 2 (putCells (putCells (zrow (ofV (Go.Value.int IntKind.i64 (0 : Int))).cells 2) 0 [AV.int IntKind.i64 (shut (if shut (IntKind.i64.wrap (y2_5 + shut (unzW y4_5))) < (0 : Int) ∨ shut (IntKind.i64.wrap (y2_5 + shut (unzW y4_5))) > (4095 : Int) then (3 : Int) else (0 : Int)))]) 1 [AV.int IntKind.i64 (shut (if shut ((↑y7_5 : Int) == (4096 : Int)) = true then (5 : Int) else (0 : Int)))])))) <|
 condO (shut (shut (firstNZ (intsOf (putCells (putCells (zrow (ofV (Go.Value.int IntKind.i64 (0 : Int))).cells 2) 0 [AV.int IntKind.i64 (shut (if shut (IntKind.i64.wrap (y2_5 + shut (unzW y4_5))) < (0 : Int) ∨ shut (IntKind.i64.wrap (y2_5 + shut (unzW y4_5))) > (4095 : Int) then (3 : Int) else (0 : Int)))]) 1 [AV.int IntKind.i64 (shut (if shut ((↑y7_5 : Int) == (4096 : Int)) = true then (5 : Int) else (0 : Int)))]))) != (0 : Int)))
 (
 some ([RLeaf.fz 0 [], RLeaf.v (AV.int IntKind.i64 (shut (firstNZ (intsOf (putCells (putCells (zrow (ofV (Go.Value.int IntKind.i64 (0 : Int))).cells 2) 0 [AV.int IntKind.i64 (shut (if shut (IntKind.i64.wrap (y2_5 + shut (unzW y4_5))) < (0 : Int) ∨ shut (IntKind.i64.wrap (y2_5 + shut (unzW y4_5))) > (4095 : Int) then (3 : Int) else (0 : Int)))]) 1 [AV.int IntKind.i64 (shut (if shut ((↑y7_5 : Int) == (4096 : Int)) = true then (5 : Int) else (0 : Int)))])))))]))
 (
 guardO (shut (decide ((y7_5 + 1) * 9 ≤ 549755813888))) <|
 r_1 (y0_5) (y1_5) (shut (IntKind.i64.wrap (y2_5 + shut (unzW y4_5)))) (shut (IntKind.i64.wrap (y3_5 + (1 : Int)))) (y5_5) (y6_5) (y7_5 + 1) (y8_5 ++ putCells (zrow (ofV (Go.Value.int IntKind.i64 (0 : Int))).cells 1) 0 [AV.int IntKind.i64 (shut (IntKind.i64.wrap (y2_5 + shut (unzW y4_5))))]))), PUnit.unit) fun k_5 =>
 condO (shut (decide (shut (IntKind.i64.wrap v4) ≥ (128 : Int))))
 (
 condO (shut (shut (IntKind.i64.wrap (x3_1 + (1 : Int))) == (↑x0_1 : Int)))
 (
 some ([RLeaf.fz 0 [], RLeaf.v (AV.int IntKind.i64 (28 : Int))]))
 (
 guardO (shut (decide ((0 : Int) ≤ shut (IntKind.i64.wrap (x3_1 + (1 : Int))) ∧ shut (IntKind.i64.wrap (x3_1 + (1 : Int))) < (↑x0_1 : Int) ∧ 0 < x1_1.length))) <|
 bindO (asInt IntKind.u8 (x1_1.getD ((shut (IntKind.i64.wrap (x3_1 + (1 : Int)))).toNat * 1) AV.top)) fun v9 =>
 joinC N (
 (fun (y0_10 : Nat) (y1_10 : List AV) (y2_10 : Int) (y3_10 : Int) (y4_10 : Int) (y5_10 : Int) (y6_10 : Bool) (y7_10 : Nat) (y8_10 : List AV) (y9_10 : Nat) (y10_10 : List AV) =>
 condO (y6_10)
 (
 some ([RLeaf.fz 0 [], RLeaf.v (AV.int IntKind.i64 (1 : Int))]))
 (
 k_5.1 (y0_10) (y1_10) (y2_10) (y3_10) (shut (IntKind.i64.wrap (y4_10 + shut (IntKind.i64.wrap ((128 : Int) * shut (IntKind.i64.wrap (y5_10 - (1 : Int)))))))) (y7_10) (y8_10) (y9_10) (y10_10))), PUnit.unit) fun k_10 =>
 bindO (
 condO (shut (shut (IntKind.i64.wrap v9) == (0 : Int)))
 (
 some (true))
 (
 some (shut (decide (shut (IntKind.i64.wrap v9) ≥ (128 : Int)))))) fun v11 =>
 k_10.1 (x0_1) (x1_1) (x2_1) (shut (IntKind.i64.wrap (x3_1 + (1 : Int)))) (shut (IntKind.i64.wrap v4)) (shut (IntKind.i64.wrap v9)) (v11) (x4_1) (x5_1) (x6_1) (x7_1)))
 (
 k_5.1 (x0_1) (x1_1) (x2_1) (x3_1) (shut (IntKind.i64.wrap v4)) (x4_1) (x5_1) (x6_1) (x7_1)))
 (
 some ([RLeaf.fz x6_1 x7_1, RLeaf.v (AV.int IntKind.i64 (0 : Int))])))
 (fun _ _ _ _ _ _ _ _ => none) (n) (cs) ((0 : Int)) ((0 : Int)) (0) ([]) (0) ([]))) := by kernel_rfl

theorem run_69 (N : Nat) (n : Nat) (cs : List AV) : (fsM mz2 waysP N 8).call (List RLeaf) 69 [.ofB (.list n cs)] [] (resK [true]) = (
 loopC N (fun r_0 (x0_0 : Nat) (x1_0 : List AV) (x2_0 : Int) (x3_0 : Int) (x4_0 : Nat) (x5_0 : List AV) (x6_0 : Nat) (x7_0 : List AV) =>
 condO (shut (decide (x3_0 < (↑x0_0 : Int))))
 (
 guardO (shut (decide ((0 : Int) ≤ x3_0 ∧ x3_0 < (↑x0_0 : Int) ∧ 0 < x1_0.length))) <|
 bindO (asInt IntKind.i64 (x1_0.getD (x3_0.toNat * 1) AV.top)) fun v3 =>
 joinC N (
 (fun (y0_4 : Nat) (y1_4 : List AV) (y2_4 : Int) (y3_4 : Int) (y4_4 : Nat) (y5_4 : List AV) (y6_4 : Nat) (y7_4 : List AV) =>
 condO (shut (decide (y3_4 < (128 : Int))))
 (
 guardO (shut (decide ((y6_4 + 1) * 2 ≤ 549755813888))) <|
 guardO (shut (decide ((0 : Int) ≤ y2_4 ∧ y2_4 < (↑y0_4 : Int) ∧ 0 < y1_4.length))) <|
 bindO (asInt IntKind.i64 (y1_4.getD (y2_4.toNat * 1) AV.top)) fun v8 =>
 r_0 (y0_4) (y1_4) (v8) (shut (IntKind.i64.wrap (y2_4 + (1 : Int)))) (y4_4) (y5_4) (y6_4 + 1) (y7_4 ++ putCells (zrow (ofV (Go.Value.int IntKind.u8 (0 : Int))).cells 1) 0 [AV.int IntKind.u8 (shut (IntKind.u8.wrap y3_4))]))
 (
 guardO (shut (decide ((128 : Int) ≠ (0 : Int)))) <|
 guardO (shut (decide ((128 : Int) ≠ (0 : Int)))) <|
 guardO (shut (decide ((y6_4 + 2) * 2 ≤ 549755813888))) <|
 guardO (shut (decide ((0 : Int) ≤ y2_4 ∧ y2_4 < (↑y0_4 : Int) ∧ 0 < y1_4.length))) <|
 bindO (asInt IntKind.i64 (y1_4.getD (y2_4.toNat * 1) AV.top)) fun v10 =>
 r_0 (y0_4) (y1_4) (v10) (shut (IntKind.i64.wrap (y2_4 + (1 : Int)))) (y4_4) (y5_4) (y6_4 + 2) (y7_4 ++ putCells (putCells (zrow (ofV (Go.Value.int IntKind.u8 (0 : Int))).cells 2) 0 [AV.int IntKind.u8 (shut (IntKind.u8.wrap (shut (IntKind.i64.wrap (shut (y3_4.tmod (128 : Int)) + (128 : Int))))))]) 1 [AV.int IntKind.u8 (shut (IntKind.u8.wrap (shut (IntKind.i64.wrap (y3_4.tdiv (128 : Int))))))]))), PUnit.unit) fun k_4 =>
 condO (shut (decide (shut (IntKind.i64.wrap (v3 - x2_0)) < (0 : Int))))
 (
 k_4.1 (x0_0) (x1_0) (x3_0) (shut (IntKind.i64.wrap (shut (IntKind.i64.wrap ((0 : Int) - shut (IntKind.i64.wrap ((2 : Int) * shut (IntKind.i64.wrap (v3 - x2_0)))))) - (1 : Int)))) (x4_0) (x5_0) (x6_0) (x7_0))
 (
 k_4.1 (x0_0) (x1_0) (x3_0) (shut (IntKind.i64.wrap ((2 : Int) * shut (IntKind.i64.wrap (v3 - x2_0))))) (x4_0) (x5_0) (x6_0) (x7_0)))
 (
 some ([RLeaf.fz x6_0 x7_0])))
 (fun _ _ _ _ _ _ _ _ => none) (n) (cs) ((0 : Int)) ((0 : Int)) (0) ([]) (0) ([])) := by kernel_rfl

theorem run_70 (N : Nat) (n : Nat) (cs : List AV) : (fsM mz2 waysP N 8).call (List RLeaf) 70 [.ofB (.list n cs)] [] (resK [true, false]) = (
 condO (shut (decide ((↑n : Int) > (8192 : Int))))
 (
 some ([RLeaf.fz 0 [], RLeaf.v (AV.int IntKind.i64 (26 : Int))]))
 (
 loopC N (fun r_1 (x0_1 : Nat) (x1_1 : List AV) (x2_1 : Int) (x3_1 : Int) (x4_1 : Nat) (x5_1 : List AV) (x6_1 : Nat) (x7_1 : List AV) =>
 condO (shut (decide (x3_1 < (↑x0_1 : Int))))
 (
 guardO (shut (decide ((0 : Int) ≤ x3_1 ∧ x3_1 < (↑x0_1 : Int) ∧ 0 < x1_1.length))) <|
 bindO (asInt IntKind.u8 (x1_1.getD (x3_1.toNat * 1) AV.top)) fun v4 =>
 joinC N (
 (fun (y0_5 : Nat) (y1_5 : List AV) (y2_5 : Int) (y3_5 : Int) (y4_5 : Int) (y5_5 : Nat) (y6_5 : List AV) (y7_5 : Nat) (y8_5 : List AV) =>
 guardO (shut (decide ((2 : Int) ≠ (0 : Int)))) <|
 joinC N (
 (fun (y0_7 : Nat) (y1_7 : List AV) (y2_7 : Int) (y3_7 : Int) (y4_7 : Nat) (y5_7 : List AV) (y6_7 : Nat) (y7_7 : List AV) =>
 joinC N (
 (fun (y0_8 : Nat) (y1_8 : List AV) (y2_8 : Int) (y3_8 : Int) (y4_8 : Bool) (y5_8 : Nat) (y6_8 : List AV) (y7_8 : Nat) (y8_8 : List AV) =>
 condO (y4_8)
 (
 some ([RLeaf.fz 0 [], RLeaf.v (AV.int IntKind.i64 (3 : Int))]))
 (
 condO (shut ((↑y7_8 : Int) == (4096 : Int)))
 (
 some ([RLeaf.fz 0 [], RLeaf.v (AV.int IntKind.i64 (5 : Int))]))
 (
 guardO (shut (decide ((y7_8 + 1) * 9 ≤ 549755813888))) <|
 r_1 (y0_8) (y1_8) (y2_8) (shut (IntKind.i64.wrap (y3_8 + (1 : Int)))) (y5_8) (y6_8) (y7_8 + 1) (y8_8 ++ putCells (zrow (ofV (Go.Value.int IntKind.i64 (0 : Int))).cells 1) 0 [AV.int IntKind.i64 y2_8])))), PUnit.unit) fun k_8 =>
 bindO (
 condO (shut (decide (y2_7 < (0 : Int))))
 (
 some (true))
 (
 some (shut (decide (y2_7 > (4095 : Int)))))) fun v9 =>
 k_8.1 (y0_7) (y1_7) (y2_7) (y3_7) (v9) (y4_7) (y5_7) (y6_7) (y7_7)), PUnit.unit) fun k_7 =>
 condO (shut (shut (y4_5.tmod (2 : Int)) == (0 : Int)))
 (
 guardO (shut (decide ((2 : Int) ≠ (0 : Int)))) <|
 k_7.1 (y0_5) (y1_5) (shut (IntKind.i64.wrap (y2_5 + shut (IntKind.i64.wrap (y4_5.tdiv (2 : Int)))))) (y3_5) (y5_5) (y6_5) (y7_5) (y8_5))
 (
 guardO (shut (decide ((2 : Int) ≠ (0 : Int)))) <|
 k_7.1 (y0_5) (y1_5) (shut (IntKind.i64.wrap (y2_5 - shut (IntKind.i64.wrap ((shut (IntKind.i64.wrap (y4_5 + (1 : Int)))).tdiv (2 : Int)))))) (y3_5) (y5_5) (y6_5) (y7_5) (y8_5))), PUnit.unit) fun k_5 =>
 condO (shut (decide (shut (IntKind.i64.wrap v4) ≥ (128 : Int))))
 (
 condO (shut (shut (IntKind.i64.wrap (x3_1 + (1 : Int))) == (↑x0_1 : Int)))
 (
 some ([RLeaf.fz 0 [], RLeaf.v (AV.int IntKind.i64 (28 : Int))]))
 (
 joinC N (
 (fun (y0_8 : Nat) (y1_8 : List AV) (y2_8 : Int) (y3_8 : Int) (y4_8 : Int) (y5_8 : Bool) (y6_8 : Nat) (y7_8 : List AV) (y8_8 : Nat) (y9_8 : List AV) =>
 condO (y5_8)
 (
 some ([RLeaf.fz 0 [], RLeaf.v (AV.int IntKind.i64 (1 : Int))]))
 (
 guardO (shut (decide ((0 : Int) ≤ y3_8 ∧ y3_8 < (↑y0_8 : Int) ∧ 0 < y1_8.length))) <|
 bindO (asInt IntKind.u8 (y1_8.getD (y3_8.toNat * 1) AV.top)) fun v11 =>
 k_5.1 (y0_8) (y1_8) (y2_8) (y3_8) (shut (IntKind.i64.wrap (shut (IntKind.i64.wrap (y4_8 - (128 : Int))) + shut (IntKind.i64.wrap ((128 : Int) * shut (IntKind.i64.wrap v11)))))) (y6_8) (y7_8) (y8_8) (y9_8))), PUnit.unit) fun k_8 =>
 guardO (shut (decide ((0 : Int) ≤ shut (IntKind.i64.wrap (x3_1 + (1 : Int))) ∧ shut (IntKind.i64.wrap (x3_1 + (1 : Int))) < (↑x0_1 : Int) ∧ 0 < x1_1.length))) <|
 bindO (asInt IntKind.u8 (x1_1.getD ((shut (IntKind.i64.wrap (x3_1 + (1 : Int)))).toNat * 1) AV.top)) fun v10 =>
 bindO (
 condO (shut (v10 == (0 : Int)))
 (
 some (true))
 (
 guardO (shut (decide ((0 : Int) ≤ shut (IntKind.i64.wrap (x3_1 + (1 : Int))) ∧ shut (IntKind.i64.wrap (x3_1 + (1 : Int))) < (↑x0_1 : Int) ∧ 0 < x1_1.length))) <|
 bindO (asInt IntKind.u8 (x1_1.getD ((shut (IntKind.i64.wrap (x3_1 + (1 : Int)))).toNat * 1) AV.top)) fun v14 =>
 some (shut (decide (v14 ≥ (128 : Int)))))) fun v11 =>
 k_8.1 (x0_1) (x1_1) (x2_1) (shut (IntKind.i64.wrap (x3_1 + (1 : Int)))) (shut (IntKind.i64.wrap v4)) (v11) (x4_1) (x5_1) (x6_1) (x7_1)))
 (
 k_5.1 (x0_1) (x1_1) (x2_1) (x3_1) (shut (IntKind.i64.wrap v4)) (x4_1) (x5_1) (x6_1) (x7_1)))
 (
 some ([RLeaf.fz x6_1 x7_1, RLeaf.v (AV.int IntKind.i64 (0 : Int))])))
 (fun _ _ _ _ _ _ _ _ => none) (n) (cs) ((0 : Int)) ((0 : Int)) (0) ([]) (0) ([]))) := by kernel_rfl


end Go.Abs
end

