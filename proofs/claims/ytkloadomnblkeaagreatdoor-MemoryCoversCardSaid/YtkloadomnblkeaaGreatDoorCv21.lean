/- Part 21 of the library that the proof of the statement uses: an abstract run of the program, proved right, and what its functions give. -/
import Derived.Test.YtkloadomnblkeaaGreatDoorCv20
set_option linter.unusedVariables false
set_option linter.unusedSimpArgs false

section
/- Functions of the Memory seat, lifted (printed by the tool gen2.py). -/
set_option maxRecDepth 100000
set_option linter.unusedVariables false
namespace Go.Abs
open Go.Proofs Classical

theorem run_72 (N : Nat) (n : Nat) (cs : List AV) : (fsM mz2 waysP N 8).call (List RLeaf) 72 [.ofB (.list n cs)] [] (resK [true, false]) = (
 condO (shut (decide ((↑n : Int) > (4096 : Int))))
 (
 some ([RLeaf.fz 0 [], RLeaf.v (AV.int IntKind.i64 (5 : Int))]))
 (
 loopC N (fun r_1 (x0_1 : Nat) (x1_1 : List AV) (x2_1 : Int) (x3_1 : Nat) (x4_1 : List AV) (x5_1 : Nat) (x6_1 : List AV) =>
 condO (shut (decide (x2_1 < (↑x0_1 : Int))))
 (
 loopC N (fun r_3 (x0_3 : Nat) (x1_3 : List AV) (x2_3 : Int) (x3_3 : Int) (x4_3 : Nat) (x5_3 : List AV) (x6_3 : Nat) (x7_3 : List AV) =>
 joinC N (
 (fun (y0_4 : Nat) (y1_4 : List AV) (y2_4 : Int) (y3_4 : Int) (y4_4 : Bool) (y5_4 : Nat) (y6_4 : List AV) (y7_4 : Nat) (y8_4 : List AV) =>
 condO (y4_4)
 (
 r_3 (y0_4) (y1_4) (y2_4) (shut (IntKind.i64.wrap (y3_4 + (1 : Int)))) (y5_4) (y6_4) (y7_4) (y8_4))
 (
 guardO (shut (decide ((0 : Int) ≤ y2_4 ∧ y2_4 < (↑y0_4 : Int) ∧ 0 < y1_4.length))) <|
 bindO (asInt IntKind.u16 (y1_4.getD (y2_4.toNat * 1) AV.top)) fun v7 =>
 guardO (shut (decide ((0 : Int) ≤ y2_4 ∧ y2_4 < (↑y0_4 : Int) ∧ 0 < y1_4.length))) <|
 bindO (asInt IntKind.u16 (y1_4.getD (y2_4.toNat * 1) AV.top)) fun v9 =>
 guardO (shut (decide ((0 : Int) ≤ (8 : Int)))) <|
 guardO (shut (decide ((y7_4 + 3) * 2 ≤ 549755813888))) <|
 r_1 (y0_4) (y1_4) (shut (IntKind.i64.wrap (y2_4 + y3_4))) (y5_4) (y6_4) (y7_4 + 3) (y8_4 ++ putCells (putCells (putCells (zrow (ofV (Go.Value.int IntKind.u8 (0 : Int))).cells 3) 0 [AV.int IntKind.u8 (shut (IntKind.u8.wrap y3_4))]) 1 [AV.int IntKind.u8 (shut (IntKind.u8.wrap v7))]) 2 [AV.int IntKind.u8 (shut (IntKind.u8.wrap (shut (v9.fdiv ((2 : Int) ^ 8)))))]))), PUnit.unit) fun k_4 =>
 condO (shut (decide (shut (IntKind.i64.wrap (x2_3 + x3_3)) < (↑x0_3 : Int))))
 (
 condO (shut (decide (x3_3 < (255 : Int))))
 (
 guardO (shut (decide ((0 : Int) ≤ shut (IntKind.i64.wrap (x2_3 + x3_3)) ∧ shut (IntKind.i64.wrap (x2_3 + x3_3)) < (↑x0_3 : Int) ∧ 0 < x1_3.length))) <|
 bindO (asInt IntKind.u16 (x1_3.getD ((shut (IntKind.i64.wrap (x2_3 + x3_3))).toNat * 1) AV.top)) fun v8 =>
 guardO (shut (decide ((0 : Int) ≤ x2_3 ∧ x2_3 < (↑x0_3 : Int) ∧ 0 < x1_3.length))) <|
 bindO (asInt IntKind.u16 (x1_3.getD (x2_3.toNat * 1) AV.top)) fun v10 =>
 k_4.1 (x0_3) (x1_3) (x2_3) (x3_3) (shut (v8 == v10)) (x4_3) (x5_3) (x6_3) (x7_3))
 (
 k_4.1 (x0_3) (x1_3) (x2_3) (x3_3) (false) (x4_3) (x5_3) (x6_3) (x7_3)))
 (
 k_4.1 (x0_3) (x1_3) (x2_3) (x3_3) (false) (x4_3) (x5_3) (x6_3) (x7_3)))
 (fun _ _ _ _ _ _ _ _ => none) (x0_1) (x1_1) (x2_1) ((1 : Int)) (x3_1) (x4_1) (x5_1) (x6_1))
 (
 some ([RLeaf.fz x5_1 x6_1, RLeaf.v (AV.int IntKind.i64 (0 : Int))])))
 (fun _ _ _ _ _ _ _ => none) (n) (cs) ((0 : Int)) (0) ([]) (0) ([]))) := by kernel_rfl

theorem run_74 (N : Nat) (n : Nat) (cs : List AV) : (fsM mz2 waysP N 8).call (List RLeaf) 74 [.ofB (.list n cs)] [] (resK [true]) = (
 loopC N (fun r_0 (x0_0 : Nat) (x1_0 : List AV) (x2_0 : Int) (x3_0 : Nat) (x4_0 : List AV) (x5_0 : Nat) (x6_0 : List AV) =>
 condO (shut (decide (x2_0 < (↑x0_0 : Int))))
 (
 loopC N (fun r_2 (x0_2 : Nat) (x1_2 : List AV) (x2_2 : Int) (x3_2 : Int) (x4_2 : Nat) (x5_2 : List AV) (x6_2 : Nat) (x7_2 : List AV) =>
 joinC N (
 (fun (y0_3 : Nat) (y1_3 : List AV) (y2_3 : Int) (y3_3 : Int) (y4_3 : Bool) (y5_3 : Nat) (y6_3 : List AV) (y7_3 : Nat) (y8_3 : List AV) =>
 condO (y4_3)
 (
 r_2 (y0_3) (y1_3) (y2_3) (shut (IntKind.i64.wrap (y3_3 + (1 : Int)))) (y5_3) (y6_3) (y7_3) (y8_3))
 (
 guardO (shut (decide ((0 : Int) ≤ y2_3 ∧ y2_3 < (↑y0_3 : Int) ∧ 0 < y1_3.length))) <|
 bindO (asInt IntKind.u16 (y1_3.getD (y2_3.toNat * 1) AV.top)) fun v6 =>
 guardO (shut (decide ((256 : Int) ≠ (0 : Int)))) <|
 guardO (shut (decide ((0 : Int) ≤ y2_3 ∧ y2_3 < (↑y0_3 : Int) ∧ 0 < y1_3.length))) <|
 bindO (asInt IntKind.u16 (y1_3.getD (y2_3.toNat * 1) AV.top)) fun v9 =>
 guardO (shut (decide ((256 : Int) ≠ (0 : Int)))) <|
 guardO (shut (decide ((y7_3 + 3) * 2 ≤ 549755813888))) <|
 r_0 (y0_3) (y1_3) (shut (IntKind.i64.wrap (y2_3 + y3_3))) (y5_3) (y6_3) (y7_3 + 3) (y8_3 ++ putCells (putCells (putCells (zrow (ofV (Go.Value.int IntKind.u8 (0 : Int))).cells 3) 0 [AV.int IntKind.u8 (shut (IntKind.u8.wrap y3_3))]) 1 [AV.int IntKind.u8 (shut (IntKind.u8.wrap (shut ((shut (IntKind.i64.wrap v6)).tmod (256 : Int)))))]) 2 [AV.int IntKind.u8 (shut (IntKind.u8.wrap (shut (IntKind.i64.wrap ((shut (IntKind.i64.wrap v9)).tdiv (256 : Int))))))]))), PUnit.unit) fun k_3 =>
 condO (shut (decide (x3_2 < (255 : Int))))
 (
 condO (shut (decide (shut (IntKind.i64.wrap (x2_2 + x3_2)) < (↑x0_2 : Int))))
 (
 guardO (shut (decide ((0 : Int) ≤ shut (IntKind.i64.wrap (x2_2 + x3_2)) ∧ shut (IntKind.i64.wrap (x2_2 + x3_2)) < (↑x0_2 : Int) ∧ 0 < x1_2.length))) <|
 bindO (asInt IntKind.u16 (x1_2.getD ((shut (IntKind.i64.wrap (x2_2 + x3_2))).toNat * 1) AV.top)) fun v7 =>
 guardO (shut (decide ((0 : Int) ≤ x2_2 ∧ x2_2 < (↑x0_2 : Int) ∧ 0 < x1_2.length))) <|
 bindO (asInt IntKind.u16 (x1_2.getD (x2_2.toNat * 1) AV.top)) fun v9 =>
 k_3.1 (x0_2) (x1_2) (x2_2) (x3_2) (shut (v7 == v9)) (x4_2) (x5_2) (x6_2) (x7_2))
 (
 k_3.1 (x0_2) (x1_2) (x2_2) (x3_2) (false) (x4_2) (x5_2) (x6_2) (x7_2)))
 (
 k_3.1 (x0_2) (x1_2) (x2_2) (x3_2) (false) (x4_2) (x5_2) (x6_2) (x7_2)))
 (fun _ _ _ _ _ _ _ _ => none) (x0_0) (x1_0) (x2_0) ((1 : Int)) (x3_0) (x4_0) (x5_0) (x6_0))
 (
 some ([RLeaf.fz x5_0 x6_0])))
 (fun _ _ _ _ _ _ _ => none) (n) (cs) ((0 : Int)) (0) ([]) (0) ([])) := by kernel_rfl

theorem run_75 (N : Nat) (n : Nat) (cs : List AV) : (fsM mz2 waysP N 8).call (List RLeaf) 75 [.ofB (.list n cs)] [] (resK [true, false]) = (
 condO (shut (decide ((↑n : Int) > (12288 : Int))))
 (
 some ([RLeaf.fz 0 [], RLeaf.v (AV.int IntKind.i64 (26 : Int))]))
 (
 guardO (shut (decide ((3 : Int) ≠ (0 : Int)))) <|
 condO (shut (shut ((↑n : Int).tmod (3 : Int)) != (0 : Int)))
 (
 some ([RLeaf.fz 0 [], RLeaf.v (AV.int IntKind.i64 (28 : Int))]))
 (
 loopC N (fun r_3 (x0_3 : Nat) (x1_3 : List AV) (x2_3 : Int) (x3_3 : Nat) (x4_3 : List AV) (x5_3 : Nat) (x6_3 : List AV) =>
 condO (shut (decide (x2_3 < (↑x0_3 : Int))))
 (
 guardO (shut (decide ((0 : Int) ≤ x2_3 ∧ x2_3 < (↑x0_3 : Int) ∧ 0 < x1_3.length))) <|
 bindO (asInt IntKind.u8 (x1_3.getD (x2_3.toNat * 1) AV.top)) fun v6 =>
 condO (shut (v6 == (0 : Int)))
 (
 some ([RLeaf.fz 0 [], RLeaf.v (AV.int IntKind.i64 (6 : Int))]))
 (
 joinC N (
 (fun (y0_8 : Nat) (y1_8 : List AV) (y2_8 : Int) (y3_8 : Bool) (y4_8 : Nat) (y5_8 : List AV) (y6_8 : Nat) (y7_8 : List AV) =>
 condO (y3_8)
 (
 some ([RLeaf.fz 0 [], RLeaf.v (AV.int IntKind.i64 (1 : Int))]))
 (
 guardO (shut (decide ((0 : Int) ≤ y2_8 ∧ y2_8 < (↑y0_8 : Int) ∧ 0 < y1_8.length))) <|
 bindO (asInt IntKind.u8 (y1_8.getD (y2_8.toNat * 1) AV.top)) fun v11 =>
 condO (shut (decide (shut (IntKind.i64.wrap ((↑y6_8 : Int) + shut (IntKind.i64.wrap v11))) > (4096 : Int))))
 (
 some ([RLeaf.fz 0 [], RLeaf.v (AV.int IntKind.i64 (5 : Int))]))
 (
 loopC N (fun r_13 (x0_13 : Nat) (x1_13 : List AV) (x2_13 : Int) (x3_13 : Int) (x4_13 : Nat) (x5_13 : List AV) (x6_13 : Nat) (x7_13 : List AV) =>
 guardO (shut (decide ((0 : Int) ≤ x2_13 ∧ x2_13 < (↑x0_13 : Int) ∧ 0 < x1_13.length))) <|
 bindO (asInt IntKind.u8 (x1_13.getD (x2_13.toNat * 1) AV.top)) fun v15 =>
 condO (shut (decide (x3_13 < shut (IntKind.i64.wrap v15))))
 (
 guardO (shut (decide ((0 : Int) ≤ shut (IntKind.i64.wrap (x2_13 + (1 : Int))) ∧ shut (IntKind.i64.wrap (x2_13 + (1 : Int))) < (↑x0_13 : Int) ∧ 0 < x1_13.length))) <|
 bindO (asInt IntKind.u8 (x1_13.getD ((shut (IntKind.i64.wrap (x2_13 + (1 : Int)))).toNat * 1) AV.top)) fun v18 =>
 guardO (shut (decide ((0 : Int) ≤ shut (IntKind.i64.wrap (x2_13 + (2 : Int))) ∧ shut (IntKind.i64.wrap (x2_13 + (2 : Int))) < (↑x0_13 : Int) ∧ 0 < x1_13.length))) <|
 bindO (asInt IntKind.u8 (x1_13.getD ((shut (IntKind.i64.wrap (x2_13 + (2 : Int)))).toNat * 1) AV.top)) fun v20 =>
 guardO (shut (decide ((x6_13 + 1) * 3 ≤ 549755813888))) <|
 r_13 (x0_13) (x1_13) (x2_13) (shut (IntKind.i64.wrap (x3_13 + (1 : Int)))) (x4_13) (x5_13) (x6_13 + 1) (x7_13 ++ putCells (zrow (ofV (Go.Value.int IntKind.u16 (0 : Int))).cells 1) 0 [AV.int IntKind.u16 (shut (IntKind.u16.wrap (shut (IntKind.i64.wrap (shut (IntKind.i64.wrap v18) + shut (IntKind.i64.wrap ((256 : Int) * shut (IntKind.i64.wrap v20))))))))]))
 (
 r_3 (x0_13) (x1_13) (shut (IntKind.i64.wrap (x2_13 + (3 : Int)))) (x4_13) (x5_13) (x6_13) (x7_13)))
 (fun _ _ _ _ _ _ _ _ => none) (y0_8) (y1_8) (y2_8) ((0 : Int)) (y4_8) (y5_8) (y6_8) (y7_8)))), PUnit.unit) fun k_8 =>
 condO (shut (decide (x2_3 > (0 : Int))))
 (
 guardO (shut (decide ((0 : Int) ≤ shut (IntKind.i64.wrap (x2_3 - (3 : Int))) ∧ shut (IntKind.i64.wrap (x2_3 - (3 : Int))) < (↑x0_3 : Int) ∧ 0 < x1_3.length))) <|
 bindO (asInt IntKind.u8 (x1_3.getD ((shut (IntKind.i64.wrap (x2_3 - (3 : Int)))).toNat * 1) AV.top)) fun v11 =>
 condO (shut (decide (v11 < (255 : Int))))
 (
 guardO (shut (decide ((0 : Int) ≤ shut (IntKind.i64.wrap (x2_3 - (2 : Int))) ∧ shut (IntKind.i64.wrap (x2_3 - (2 : Int))) < (↑x0_3 : Int) ∧ 0 < x1_3.length))) <|
 bindO (asInt IntKind.u8 (x1_3.getD ((shut (IntKind.i64.wrap (x2_3 - (2 : Int)))).toNat * 1) AV.top)) fun v14 =>
 guardO (shut (decide ((0 : Int) ≤ shut (IntKind.i64.wrap (x2_3 + (1 : Int))) ∧ shut (IntKind.i64.wrap (x2_3 + (1 : Int))) < (↑x0_3 : Int) ∧ 0 < x1_3.length))) <|
 bindO (asInt IntKind.u8 (x1_3.getD ((shut (IntKind.i64.wrap (x2_3 + (1 : Int)))).toNat * 1) AV.top)) fun v16 =>
 condO (shut (v14 == v16))
 (
 guardO (shut (decide ((0 : Int) ≤ shut (IntKind.i64.wrap (x2_3 - (1 : Int))) ∧ shut (IntKind.i64.wrap (x2_3 - (1 : Int))) < (↑x0_3 : Int) ∧ 0 < x1_3.length))) <|
 bindO (asInt IntKind.u8 (x1_3.getD ((shut (IntKind.i64.wrap (x2_3 - (1 : Int)))).toNat * 1) AV.top)) fun v19 =>
 guardO (shut (decide ((0 : Int) ≤ shut (IntKind.i64.wrap (x2_3 + (2 : Int))) ∧ shut (IntKind.i64.wrap (x2_3 + (2 : Int))) < (↑x0_3 : Int) ∧ 0 < x1_3.length))) <|
 bindO (asInt IntKind.u8 (x1_3.getD ((shut (IntKind.i64.wrap (x2_3 + (2 : Int)))).toNat * 1) AV.top)) fun v21 =>
 k_8.1 (x0_3) (x1_3) (x2_3) (shut (v19 == v21)) (x3_3) (x4_3) (x5_3) (x6_3))
 (
 k_8.1 (x0_3) (x1_3) (x2_3) (false) (x3_3) (x4_3) (x5_3) (x6_3)))
 (
 k_8.1 (x0_3) (x1_3) (x2_3) (false) (x3_3) (x4_3) (x5_3) (x6_3)))
 (
 k_8.1 (x0_3) (x1_3) (x2_3) (false) (x3_3) (x4_3) (x5_3) (x6_3))))
 (
 some ([RLeaf.fz x5_3 x6_3, RLeaf.v (AV.int IntKind.i64 (0 : Int))])))
 (fun _ _ _ _ _ _ _ => none) (n) (cs) ((0 : Int)) (0) ([]) (0) ([])))) := by kernel_rfl


end Go.Abs
end

