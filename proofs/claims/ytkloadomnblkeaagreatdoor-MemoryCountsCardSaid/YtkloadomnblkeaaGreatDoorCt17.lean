/- Part 17 of the library that the proof of the statement uses: an abstract run of the program, proved right, and what its functions give. -/
import Derived.Test.YtkloadomnblkeaaGreatDoorCt16
set_option linter.unusedVariables false
set_option linter.unusedSimpArgs false

section
/- Functions of the Memory seat, lifted (printed by the tool gen2.py). -/
set_option maxRecDepth 100000
set_option linter.unusedVariables false
namespace Go.Abs
open Go.Proofs Classical

theorem run_53 (N : Nat) (n : Nat) (cs : List AV) (o : Option Nat) : (fsM mzC waysP N 12).call (List RLeaf) 53 [.ofB (.list n cs), .ofB (.flo .f32 o)] [] (resK [false, false]) = (
 guardO (shut (decide (Flos n cs))) <|
 guardO (shut (decide (Ints 2 (putCells (putCells (zrow (ofV (Go.Value.int IntKind.i64 (0 : Int))).cells 2) 0 [AV.int IntKind.i64 (shut (sampErr n (flosOf cs)))]) 1 [AV.int IntKind.i64 (shut (if (!shut (finB o)) = true then (1 : Int) else (0 : Int)))])))) <|
 condO (shut (shut (firstNZ (intsOf (putCells (putCells (zrow (ofV (Go.Value.int IntKind.i64 (0 : Int))).cells 2) 0 [AV.int IntKind.i64 (shut (sampErr n (flosOf cs)))]) 1 [AV.int IntKind.i64 (shut (if (!shut (finB o)) = true then (1 : Int) else (0 : Int)))]))) != (0 : Int)))
 (
 some ([RLeaf.v (AV.agg [AV.int IntKind.i64 (0 : Int), AV.int IntKind.i64 (0 : Int)]), RLeaf.v (AV.int IntKind.i64 (shut (firstNZ (intsOf (putCells (putCells (zrow (ofV (Go.Value.int IntKind.i64 (0 : Int))).cells 2) 0 [AV.int IntKind.i64 (shut (sampErr n (flosOf cs)))]) 1 [AV.int IntKind.i64 (shut (if (!shut (finB o)) = true then (1 : Int) else (0 : Int)))])))))]))
 (
 loopC N (fun r_3 (x0_3 : Option Nat) (x1_3 : Int) (x2_3 : Nat) (x3_3 : List AV) (x4_3 : Int) (x5_3 : Int) (x6_3 : Int) (x7_3 : Int) (x8_3 : Nat) (x9_3 : List AV) (x10_3 : Int) (x11_3 : Int) =>
 condO (shut (decide (x5_3 < x4_3)))
 (
 guardO (shut (decide ((0 : Int) ≤ x5_3 ∧ x5_3 < (↑x2_3 : Int) ∧ 0 < x3_3.length))) <|
 bindO (asFloat Go.FloatKind.f32 (x3_3.getD (x5_3.toNat * 1) AV.top)) fun v6 =>
 condO (shut (ordO Go.FloatKind.f32 v6 x0_3 == Option.some Ordering.lt))
 (
 r_3 (x0_3) (shut (IntKind.i64.wrap (x5_3 + (1 : Int)))) (x2_3) (x3_3) (x4_3) (shut (IntKind.i64.wrap (x5_3 + (1 : Int)))) (x6_3) (x7_3) (x8_3) (x9_3) (x10_3) (x11_3))
 (
 guardO (shut (decide ((0 : Int) ≤ (1 : Int) ∧ (1 : Int) < (↑2 : Int)))) <|
 guardO (shut (decide ((0 : Int) ≤ (0 : Int) ∧ (0 : Int) < (↑2 : Int)))) <|
 condO (shut (decide (shut (IntKind.i64.wrap (shut (IntKind.i64.wrap (x5_3 + (1 : Int))) - x1_3)) > shut (IntKind.i64.wrap (x11_3 - x10_3)))))
 (
 r_3 (x0_3) (x1_3) (x2_3) (x3_3) (x4_3) (shut (IntKind.i64.wrap (x5_3 + (1 : Int)))) (x6_3) (x7_3) (x8_3) (x9_3) (x1_3) (shut (IntKind.i64.wrap (x5_3 + (1 : Int)))))
 (
 r_3 (x0_3) (x1_3) (x2_3) (x3_3) (x4_3) (shut (IntKind.i64.wrap (x5_3 + (1 : Int)))) (x6_3) (x7_3) (x8_3) (x9_3) (x10_3) (x11_3))))
 (
 guardO (shut (decide ((0 : Int) ≤ (0 : Int) ∧ (0 : Int) < (↑2 : Int)))) <|
 guardO (shut (decide ((0 : Int) ≤ (1 : Int) ∧ (1 : Int) < (↑2 : Int)))) <|
 some ([RLeaf.v (AV.agg [AV.int IntKind.i64 x10_3, AV.int IntKind.i64 x11_3]), RLeaf.v (AV.int IntKind.i64 (shut (if shut (x10_3 == x11_3) = true then (7 : Int) else (0 : Int))))])))
 (fun _ _ _ _ _ _ _ _ _ _ _ _ => none) (o) ((0 : Int)) (n) (cs) ((↑n : Int)) ((0 : Int)) ((0 : Int)) ((0 : Int)) (2) (putCells (putCells (zrow (ofV (Go.Value.int IntKind.i64 (0 : Int))).cells 2) 0 [AV.int IntKind.i64 (shut (sampErr n (flosOf cs)))]) 1 [AV.int IntKind.i64 (shut (if (!shut (finB o)) = true then (1 : Int) else (0 : Int)))]) ((0 : Int)) ((0 : Int)))) := by kernel_rfl

theorem run_56 (N : Nat) (n : Nat) (cs : List AV) (o : Option Nat) : (fsM mzC waysP N 12).call (List RLeaf) 56 [.ofB (.list n cs), .ofB (.flo .f32 o)] [] (resK [false, false]) = (
 loopC N (fun r_0 (x0_0 : Nat) (x1_0 : List AV) (x2_0 : Option Nat) (x3_0 : Int) (x4_0 : Int) (x5_0 : Int) (x6_0 : Int) (x7_0 : Int) =>
 condO (shut (decide (x3_0 < (↑x0_0 : Int))))
 (
 loopC N (fun r_2 (x0_2 : Nat) (x1_2 : List AV) (x2_2 : Option Nat) (x3_2 : Int) (x4_2 : Int) (x5_2 : Int) (x6_2 : Int) (x7_2 : Int) (x8_2 : Int) =>
 joinC N (
 (fun (y0_3 : Nat) (y1_3 : List AV) (y2_3 : Option Nat) (y3_3 : Int) (y4_3 : Int) (y5_3 : Bool) (y6_3 : Int) (y7_3 : Int) (y8_3 : Int) (y9_3 : Int) =>
 condO (y5_3)
 (
 r_2 (y0_3) (y1_3) (y2_3) (y3_3) (shut (IntKind.i64.wrap (y4_3 + (1 : Int)))) (y6_3) (y7_3) (y8_3) (y9_3))
 (
 guardO (shut (decide ((0 : Int) ≤ (1 : Int) ∧ (1 : Int) < (↑2 : Int)))) <|
 guardO (shut (decide ((0 : Int) ≤ (0 : Int) ∧ (0 : Int) < (↑2 : Int)))) <|
 condO (shut (decide (shut (IntKind.i64.wrap (y4_3 - y3_3)) > shut (IntKind.i64.wrap (y9_3 - y8_3)))))
 (
 r_0 (y0_3) (y1_3) (y2_3) (shut (IntKind.i64.wrap (y3_3 + (1 : Int)))) (y6_3) (y7_3) (y3_3) (y4_3))
 (
 r_0 (y0_3) (y1_3) (y2_3) (shut (IntKind.i64.wrap (y3_3 + (1 : Int)))) (y6_3) (y7_3) (y8_3) (y9_3)))), PUnit.unit) fun k_3 =>
 bindO (
 condO (shut (decide (x4_2 < (↑x0_2 : Int))))
 (
 guardO (shut (decide ((0 : Int) ≤ x4_2 ∧ x4_2 < (↑x0_2 : Int) ∧ 0 < x1_2.length))) <|
 bindO (asFloat Go.FloatKind.f32 (x1_2.getD (x4_2.toNat * 1) AV.top)) fun v7 =>
 some (shut (ordO Go.FloatKind.f32 v7 x2_2 == Option.some Ordering.gt || ordO Go.FloatKind.f32 v7 x2_2 == Option.some Ordering.eq)))
 (
 some (false))) fun v4 =>
 k_3.1 (x0_2) (x1_2) (x2_2) (x3_2) (x4_2) (v4) (x5_2) (x6_2) (x7_2) (x8_2))
 (fun _ _ _ _ _ _ _ _ _ => none) (x0_0) (x1_0) (x2_0) (x3_0) (x3_0) (x4_0) (x5_0) (x6_0) (x7_0))
 (
 guardO (shut (decide ((0 : Int) ≤ (1 : Int) ∧ (1 : Int) < (↑2 : Int)))) <|
 guardO (shut (decide ((0 : Int) ≤ (0 : Int) ∧ (0 : Int) < (↑2 : Int)))) <|
 some ([RLeaf.v (AV.agg [AV.int IntKind.i64 x6_0, AV.int IntKind.i64 x7_0]), RLeaf.v (AV.bool (shut (decide (x7_0 > x6_0))))])))
 (fun _ _ _ _ _ _ _ _ => none) (n) (cs) (o) ((0 : Int)) ((0 : Int)) ((0 : Int)) ((0 : Int)) ((0 : Int))) := by kernel_rfl

theorem run_57 (N : Nat) (n : Nat) (cs : List AV) : (fsM mzC waysP N 12).call (List RLeaf) 57 [.ofB (.list n cs)] [] (resK [false]) = (
 condO (shut ((↑n : Int) == (0 : Int)))
 (
 some ([RLeaf.v (AV.int IntKind.i64 (12 : Int))]))
 (
 condO (shut (decide ((↑n : Int) > (64 : Int))))
 (
 some ([RLeaf.v (AV.int IntKind.i64 (5 : Int))]))
 (
 loopC N (fun r_2 (x0_2 : Nat) (x1_2 : List AV) (x2_2 : Int) =>
 condO (shut (decide (x2_2 < (↑x0_2 : Int))))
 (
 guardO (shut (decide ((0 : Int) ≤ x2_2 ∧ x2_2 < (↑x0_2 : Int) ∧ 0 < x1_2.length))) <|
 bindO (asFloat Go.FloatKind.f32 (x1_2.getD (x2_2.toNat * 1) AV.top)) fun v5 =>
 condO (!shut (finB v5))
 (
 some ([RLeaf.v (AV.int IntKind.i64 (1 : Int))]))
 (
 joinC N (
 (fun (y0_7 : Nat) (y1_7 : List AV) (y2_7 : Int) (y3_7 : Bool) =>
 condO (y3_7)
 (
 some ([RLeaf.v (AV.int IntKind.i64 (11 : Int))]))
 (
 r_2 (y0_7) (y1_7) (shut (IntKind.i64.wrap (y2_7 + (1 : Int)))))), PUnit.unit) fun k_7 =>
 condO (shut (decide (x2_2 > (0 : Int))))
 (
 guardO (shut (decide ((0 : Int) ≤ x2_2 ∧ x2_2 < (↑x0_2 : Int) ∧ 0 < x1_2.length))) <|
 bindO (asFloat Go.FloatKind.f32 (x1_2.getD (x2_2.toNat * 1) AV.top)) fun v10 =>
 guardO (shut (decide ((0 : Int) ≤ shut (IntKind.i64.wrap (x2_2 - (1 : Int))) ∧ shut (IntKind.i64.wrap (x2_2 - (1 : Int))) < (↑x0_2 : Int) ∧ 0 < x1_2.length))) <|
 bindO (asFloat Go.FloatKind.f32 (x1_2.getD ((shut (IntKind.i64.wrap (x2_2 - (1 : Int)))).toNat * 1) AV.top)) fun v12 =>
 k_7.1 (x0_2) (x1_2) (x2_2) (shut (ordO Go.FloatKind.f32 v10 v12 == Option.some Ordering.lt || ordO Go.FloatKind.f32 v10 v12 == Option.some Ordering.eq)))
 (
 k_7.1 (x0_2) (x1_2) (x2_2) (false))))
 (
 some ([RLeaf.v (AV.int IntKind.i64 (0 : Int))])))
 (fun _ _ _ => none) (n) (cs) ((0 : Int))))) := by kernel_rfl

theorem run_54 (N : Nat) (n : Nat) (cs : List AV) (m : Nat) (ds : List AV) : (fsM mzC waysP N 12).call (List RLeaf) 54 [.ofB (.list n cs), .ofB (.list m ds)] [] (resK [true, false]) = (
 guardO (shut (decide (Flos n cs))) <|
 guardO (shut (decide (Ints 3 (putCells (putCells (putCells (zrow (ofV (Go.Value.int IntKind.i64 (0 : Int))).cells 3) 0 [AV.int IntKind.i64 (shut (sampErr n (flosOf cs)))]) 1 [AV.int IntKind.i64 (shut (if shut ((↑m : Int) == (0 : Int)) = true then (12 : Int) else (0 : Int)))]) 2 [AV.int IntKind.i64 (shut (if shut (decide ((↑m : Int) > (64 : Int))) = true then (5 : Int) else (0 : Int)))])))) <|
 condO (shut (shut (firstNZ (intsOf (putCells (putCells (putCells (zrow (ofV (Go.Value.int IntKind.i64 (0 : Int))).cells 3) 0 [AV.int IntKind.i64 (shut (sampErr n (flosOf cs)))]) 1 [AV.int IntKind.i64 (shut (if shut ((↑m : Int) == (0 : Int)) = true then (12 : Int) else (0 : Int)))]) 2 [AV.int IntKind.i64 (shut (if shut (decide ((↑m : Int) > (64 : Int))) = true then (5 : Int) else (0 : Int)))]))) != (0 : Int)))
 (
 some ([RLeaf.fz 0 [], RLeaf.v (AV.int IntKind.i64 (shut (firstNZ (intsOf (putCells (putCells (putCells (zrow (ofV (Go.Value.int IntKind.i64 (0 : Int))).cells 3) 0 [AV.int IntKind.i64 (shut (sampErr n (flosOf cs)))]) 1 [AV.int IntKind.i64 (shut (if shut ((↑m : Int) == (0 : Int)) = true then (12 : Int) else (0 : Int)))]) 2 [AV.int IntKind.i64 (shut (if shut (decide ((↑m : Int) > (64 : Int))) = true then (5 : Int) else (0 : Int)))])))))]))
 (
 loopC N (fun r_3 (x0_3 : Nat) (x1_3 : List AV) (x2_3 : Nat) (x3_3 : List AV) (x4_3 : Nat) (x5_3 : List AV) (x6_3 : Int) (x7_3 : Int) (x8_3 : Nat) (x9_3 : List AV) (x10_3 : Nat) (x11_3 : List AV) =>
 condO (shut (decide (x7_3 < x6_3)))
 (
 guardO (shut (decide ((0 : Int) ≤ x7_3 ∧ x7_3 < (↑x4_3 : Int) ∧ 0 < x5_3.length))) <|
 bindO (asFloat Go.FloatKind.f32 (x5_3.getD (x7_3.toNat * 1) AV.top)) fun v6 =>
 bindO (
 condO (shut (decide (x7_3 > (0 : Int))))
 (
 guardO (shut (decide ((0 : Int) ≤ shut (if shut (IntKind.i64.wrap (x7_3 - (1 : Int))) > (0 : Int) then shut (IntKind.i64.wrap (x7_3 - (1 : Int))) else (0 : Int)) ∧ shut (if shut (IntKind.i64.wrap (x7_3 - (1 : Int))) > (0 : Int) then shut (IntKind.i64.wrap (x7_3 - (1 : Int))) else (0 : Int)) < (↑x2_3 : Int) ∧ 0 < x3_3.length))) <|
 bindO (asFloat Go.FloatKind.f32 (x3_3.getD ((shut (if shut (IntKind.i64.wrap (x7_3 - (1 : Int))) > (0 : Int) then shut (IntKind.i64.wrap (x7_3 - (1 : Int))) else (0 : Int))).toNat * 1) AV.top)) fun v10 =>
 some (shut (ordO Go.FloatKind.f32 v6 v10 == Option.some Ordering.lt || ordO Go.FloatKind.f32 v6 v10 == Option.some Ordering.eq)))
 (
 some (false))) fun v7 =>
 guardO (shut (decide (Ints 2 (putCells (putCells (zrow (ofV (Go.Value.int IntKind.i64 (0 : Int))).cells 2) 0 [AV.int IntKind.i64 (shut (if (!shut (finB v6)) = true then (1 : Int) else (0 : Int)))]) 1 [AV.int IntKind.i64 (shut (if v7 = true then (11 : Int) else (0 : Int)))])))) <|
 condO (shut (shut (firstNZ (intsOf (putCells (putCells (zrow (ofV (Go.Value.int IntKind.i64 (0 : Int))).cells 2) 0 [AV.int IntKind.i64 (shut (if (!shut (finB v6)) = true then (1 : Int) else (0 : Int)))]) 1 [AV.int IntKind.i64 (shut (if v7 = true then (11 : Int) else (0 : Int)))]))) != (0 : Int)))
 (
 some ([RLeaf.fz 0 [], RLeaf.v (AV.int IntKind.i64 (shut (firstNZ (intsOf (putCells (putCells (zrow (ofV (Go.Value.int IntKind.i64 (0 : Int))).cells 2) 0 [AV.int IntKind.i64 (shut (if (!shut (finB v6)) = true then (1 : Int) else (0 : Int)))]) 1 [AV.int IntKind.i64 (shut (if v7 = true then (11 : Int) else (0 : Int)))])))))]))
 (
 r_3 (x0_3) (x1_3) (x2_3) (x3_3) (x4_3) (x5_3) (x6_3) (shut (IntKind.i64.wrap (x7_3 + (1 : Int)))) (x8_3) (x9_3) (x10_3) (x11_3)))
 (
 guardO (shut (decide ((0 : Int) ≤ shut (IntKind.i64.wrap ((↑x2_3 : Int) + (1 : Int))) ∧ shut (IntKind.i64.wrap ((↑x2_3 : Int) + (1 : Int))) ≤ shut (IntKind.i64.wrap ((↑x2_3 : Int) + (1 : Int))) ∧ shut (IntKind.i64.wrap ((↑x2_3 : Int) + (1 : Int))) ≤ (281474976710656 : Int) ∧ (↑8 : Int) * shut (IntKind.i64.wrap ((↑x2_3 : Int) + (1 : Int))) ≤ (281474976710656 : Int)))) <|
 loopC N (fun r_6 (x0_6 : Nat) (x1_6 : List AV) (x2_6 : Nat) (x3_6 : List AV) (x4_6 : Int) (x5_6 : Int) (x6_6 : Nat) (x7_6 : List AV) (x8_6 : Nat) (x9_6 : List AV) (x10_6 : Nat) (x11_6 : List AV) =>
 condO (shut (decide (x5_6 < x4_6)))
 (
 guardO (shut (decide ((0 : Int) ≤ x5_6 ∧ x5_6 < (↑x2_6 : Int) ∧ 0 < x3_6.length))) <|
 bindO (asFloat Go.FloatKind.f32 (x3_6.getD (x5_6.toNat * 1) AV.top)) fun v9 =>
 loopC N (fun r_10 (x0_10 : Nat) (x1_10 : List AV) (x2_10 : Option Nat) (x3_10 : Int) (x4_10 : Nat) (x5_10 : List AV) (x6_10 : Int) (x7_10 : Int) (x8_10 : Nat) (x9_10 : List AV) (x10_10 : Nat) (x11_10 : List AV) (x12_10 : Nat) (x13_10 : List AV) =>
 bindO (
 condO (shut (decide (x3_10 < (↑x0_10 : Int))))
 (
 guardO (shut (decide ((0 : Int) ≤ x3_10 ∧ x3_10 < (↑x0_10 : Int) ∧ 0 < x1_10.length))) <|
 bindO (asFloat Go.FloatKind.f32 (x1_10.getD (x3_10.toNat * 1) AV.top)) fun v14 =>
 some (shut (ordO Go.FloatKind.f32 x2_10 v14 == Option.some Ordering.gt || ordO Go.FloatKind.f32 x2_10 v14 == Option.some Ordering.eq)))
 (
 some (false))) fun v11 =>
 condO (v11)
 (
 r_10 (x0_10) (x1_10) (x2_10) (shut (IntKind.i64.wrap (x3_10 + (1 : Int)))) (x4_10) (x5_10) (x6_10) (x7_10) (x8_10) (x9_10) (x10_10) (x11_10) (x12_10) (x13_10))
 (
 guardO (shut (decide ((0 : Int) ≤ x3_10 ∧ x3_10 < (↑x12_10 : Int)))) <|
 guardO (shut !(false && x12_10.beq (0 : Nat))) <|
 bindO (asInt IntKind.i64 (x13_10.getD (x3_10.toNat * 1) AV.top)) fun v15 =>
 guardO (shut (decide ((0 : Int) ≤ x3_10 ∧ x3_10 < (↑x12_10 : Int)))) <|
 guardO (shut !(false && x12_10.beq (0 : Nat))) <|
 guardO (shut (decide (x3_10.toNat * 1 + 1 ≤ x13_10.length))) <|
 r_6 (x0_10) (x1_10) (x4_10) (x5_10) (x6_10) (shut (IntKind.i64.wrap (x7_10 + (1 : Int)))) (x8_10) (x9_10) (x10_10) (x11_10) (x12_10) (putCells x13_10 (x3_10.toNat * 1) [AV.int IntKind.i64 (shut (IntKind.i64.wrap (v15 + (1 : Int))))])))
 (fun _ _ _ _ _ _ _ _ _ _ _ _ _ _ => none) (x0_6) (x1_6) (v9) ((0 : Int)) (x2_6) (x3_6) (x4_6) (x5_6) (x6_6) (x7_6) (x8_6) (x9_6) (x10_6) (x11_6))
 (
 some ([RLeaf.fz x10_6 x11_6, RLeaf.v (AV.int IntKind.i64 (0 : Int))])))
 (fun _ _ _ _ _ _ _ _ _ _ _ _ => none) (x2_3) (x3_3) (x0_3) (x1_3) ((↑x0_3 : Int)) ((0 : Int)) (x8_3) (x9_3) (x10_3) (x11_3) ((shut (IntKind.i64.wrap ((↑x2_3 : Int) + (1 : Int)))).toNat) (zrow (ofV (Go.Value.int IntKind.i64 (0 : Int))).cells ((shut (IntKind.i64.wrap ((↑x2_3 : Int) + (1 : Int)))).toNat * 1))))
 (fun _ _ _ _ _ _ _ _ _ _ _ _ => none) (n) (cs) (m) (ds) (m) (ds) ((↑m : Int)) ((0 : Int)) (0) ([]) (3) (putCells (putCells (putCells (zrow (ofV (Go.Value.int IntKind.i64 (0 : Int))).cells 3) 0 [AV.int IntKind.i64 (shut (sampErr n (flosOf cs)))]) 1 [AV.int IntKind.i64 (shut (if shut ((↑m : Int) == (0 : Int)) = true then (12 : Int) else (0 : Int)))]) 2 [AV.int IntKind.i64 (shut (if shut (decide ((↑m : Int) > (64 : Int))) = true then (5 : Int) else (0 : Int)))]))) := by kernel_rfl

theorem run_58 (N : Nat) (n : Nat) (cs : List AV) (m : Nat) (ds : List AV) : (fsM mzC waysP N 12).call (List RLeaf) 58 [.ofB (.list n cs), .ofB (.list m ds)] [] (resK [true]) = (
 guardO (shut (decide ((0 : Int) ≤ shut (IntKind.i64.wrap ((↑m : Int) + (1 : Int))) ∧ shut (IntKind.i64.wrap ((↑m : Int) + (1 : Int))) ≤ shut (IntKind.i64.wrap ((↑m : Int) + (1 : Int))) ∧ shut (IntKind.i64.wrap ((↑m : Int) + (1 : Int))) ≤ (281474976710656 : Int) ∧ (↑8 : Int) * shut (IntKind.i64.wrap ((↑m : Int) + (1 : Int))) ≤ (281474976710656 : Int)))) <|
 loopC N (fun r_1 (x0_1 : Nat) (x1_1 : List AV) (x2_1 : Nat) (x3_1 : List AV) (x4_1 : Int) (x5_1 : Nat) (x6_1 : List AV) (x7_1 : Nat) (x8_1 : List AV) =>
 condO (shut (decide (x4_1 < (↑x0_1 : Int))))
 (
 loopC N (fun r_3 (x0_3 : Nat) (x1_3 : List AV) (x2_3 : Nat) (x3_3 : List AV) (x4_3 : Int) (x5_3 : Int) (x6_3 : Nat) (x7_3 : List AV) (x8_3 : Nat) (x9_3 : List AV) =>
 joinC N (
 (fun (y0_4 : Nat) (y1_4 : List AV) (y2_4 : Nat) (y3_4 : List AV) (y4_4 : Int) (y5_4 : Int) (y6_4 : Bool) (y7_4 : Nat) (y8_4 : List AV) (y9_4 : Nat) (y10_4 : List AV) =>
 condO (y6_4)
 (
 r_3 (y0_4) (y1_4) (y2_4) (y3_4) (y4_4) (shut (IntKind.i64.wrap (y5_4 + (1 : Int)))) (y7_4) (y8_4) (y9_4) (y10_4))
 (
 guardO (shut (decide ((0 : Int) ≤ y5_4 ∧ y5_4 < (↑y9_4 : Int)))) <|
 guardO (shut !(false && y9_4.beq (0 : Nat))) <|
 bindO (asInt IntKind.i64 (y10_4.getD (y5_4.toNat * 1) AV.top)) fun v8 =>
 guardO (shut (decide ((0 : Int) ≤ y5_4 ∧ y5_4 < (↑y9_4 : Int)))) <|
 guardO (shut !(false && y9_4.beq (0 : Nat))) <|
 guardO (shut (decide (y5_4.toNat * 1 + 1 ≤ y10_4.length))) <|
 r_1 (y0_4) (y1_4) (y2_4) (y3_4) (shut (IntKind.i64.wrap (y4_4 + (1 : Int)))) (y7_4) (y8_4) (y9_4) (putCells y10_4 (y5_4.toNat * 1) [AV.int IntKind.i64 (shut (IntKind.i64.wrap (v8 + (1 : Int))))]))), PUnit.unit) fun k_4 =>
 condO (shut (decide (x5_3 < (↑x2_3 : Int))))
 (
 guardO (shut (decide ((0 : Int) ≤ x4_3 ∧ x4_3 < (↑x0_3 : Int) ∧ 0 < x1_3.length))) <|
 bindO (asFloat Go.FloatKind.f32 (x1_3.getD (x4_3.toNat * 1) AV.top)) fun v7 =>
 guardO (shut (decide ((0 : Int) ≤ x5_3 ∧ x5_3 < (↑x2_3 : Int) ∧ 0 < x3_3.length))) <|
 bindO (asFloat Go.FloatKind.f32 (x3_3.getD (x5_3.toNat * 1) AV.top)) fun v9 =>
 k_4.1 (x0_3) (x1_3) (x2_3) (x3_3) (x4_3) (x5_3) (shut (ordO Go.FloatKind.f32 v7 v9 == Option.some Ordering.gt || ordO Go.FloatKind.f32 v7 v9 == Option.some Ordering.eq)) (x6_3) (x7_3) (x8_3) (x9_3))
 (
 k_4.1 (x0_3) (x1_3) (x2_3) (x3_3) (x4_3) (x5_3) (false) (x6_3) (x7_3) (x8_3) (x9_3)))
 (fun _ _ _ _ _ _ _ _ _ _ => none) (x0_1) (x1_1) (x2_1) (x3_1) (x4_1) ((0 : Int)) (x5_1) (x6_1) (x7_1) (x8_1))
 (
 some ([RLeaf.fz x7_1 x8_1])))
 (fun _ _ _ _ _ _ _ _ _ => none) (n) (cs) (m) (ds) ((0 : Int)) (0) ([]) ((shut (IntKind.i64.wrap ((↑m : Int) + (1 : Int)))).toNat) (zrow (ofV (Go.Value.int IntKind.i64 (0 : Int))).cells ((shut (IntKind.i64.wrap ((↑m : Int) + (1 : Int)))).toNat * 1))) := by kernel_rfl

theorem run_55 (N : Nat) (n : Nat) (cs : List AV) (a : Int) : (fsM mzC waysP N 12).call (List RLeaf) 55 [.ofB (.list n cs), .ofB (.int .i64 a)] [] (resK [true, false]) = (
 guardO (shut (decide (Flos n cs))) <|
 guardO (shut (decide (Ints 3 (putCells (putCells (putCells (zrow (ofV (Go.Value.int IntKind.i64 (0 : Int))).cells 3) 0 [AV.int IntKind.i64 (shut (sampErr n (flosOf cs)))]) 1 [AV.int IntKind.i64 (shut (if a < (1 : Int) ∨ a > (2048 : Int) then (3 : Int) else (0 : Int)))]) 2 [AV.int IntKind.i64 (shut (if shut (decide ((↑n : Int) < a)) = true then (16 : Int) else (0 : Int)))])))) <|
 condO (shut (shut (firstNZ (intsOf (putCells (putCells (putCells (zrow (ofV (Go.Value.int IntKind.i64 (0 : Int))).cells 3) 0 [AV.int IntKind.i64 (shut (sampErr n (flosOf cs)))]) 1 [AV.int IntKind.i64 (shut (if a < (1 : Int) ∨ a > (2048 : Int) then (3 : Int) else (0 : Int)))]) 2 [AV.int IntKind.i64 (shut (if shut (decide ((↑n : Int) < a)) = true then (16 : Int) else (0 : Int)))]))) != (0 : Int)))
 (
 some ([RLeaf.fz 0 [], RLeaf.v (AV.int IntKind.i64 (shut (firstNZ (intsOf (putCells (putCells (putCells (zrow (ofV (Go.Value.int IntKind.i64 (0 : Int))).cells 3) 0 [AV.int IntKind.i64 (shut (sampErr n (flosOf cs)))]) 1 [AV.int IntKind.i64 (shut (if a < (1 : Int) ∨ a > (2048 : Int) then (3 : Int) else (0 : Int)))]) 2 [AV.int IntKind.i64 (shut (if shut (decide ((↑n : Int) < a)) = true then (16 : Int) else (0 : Int)))])))))]))
 (
 loopC N (fun r_3 (x0_3 : Nat) (x1_3 : List AV) (x2_3 : Int) (x3_3 : Int) (x4_3 : Int) (x5_3 : Int) (x6_3 : Nat) (x7_3 : List AV) (x8_3 : Nat) (x9_3 : List AV) (x10_3 : Nat) (x11_3 : List AV) =>
 condO (shut (decide (x5_3 < x4_3)))
 (
 guardO (shut (decide (x2_3 ≠ (0 : Int)))) <|
 guardO (shut (decide (x2_3 ≠ (0 : Int)))) <|
 guardO (shut (decide ((0 : Int) ≤ shut (IntKind.i64.wrap ((shut (IntKind.i64.wrap (x5_3 * x3_3))).tdiv x2_3)) ∧ shut (IntKind.i64.wrap ((shut (IntKind.i64.wrap (x5_3 * x3_3))).tdiv x2_3)) ≤ shut (IntKind.i64.wrap ((shut (IntKind.i64.wrap (shut (IntKind.i64.wrap (x5_3 + (1 : Int))) * x3_3))).tdiv x2_3)) ∧ shut (IntKind.i64.wrap ((shut (IntKind.i64.wrap (shut (IntKind.i64.wrap (x5_3 + (1 : Int))) * x3_3))).tdiv x2_3)) ≤ (↑x0_3 : Int)))) <|
 guardO (shut (decide (x0_3 * 1 = x1_3.length))) <|
 loopC N (fun r_9 (x0_9 : Nat) (x1_9 : List AV) (x2_9 : Int) (x3_9 : Int) (x4_9 : Nat) (x5_9 : List AV) (x6_9 : Int) (x7_9 : Int) (x8_9 : Int) (x9_9 : Int) (x10_9 : Nat) (x11_9 : List AV) (x12_9 : Int) (x13_9 : Int) (x14_9 : Nat) (x15_9 : List AV) (x16_9 : Nat) (x17_9 : List AV) (x18_9 : Nat) (x19_9 : List AV) =>
 condO (shut (decide (x13_9 < x12_9)))
 (
 guardO (shut (decide ((0 : Int) ≤ x13_9 ∧ x13_9 < (↑x10_9 : Int) ∧ 0 < x11_9.length))) <|
 bindO (asFloat Go.FloatKind.f32 (x11_9.getD (x13_9.toNat * 1) AV.top)) fun v12 =>
 guardO (shut (decide ((0 : Int) ≤ x6_9 ∧ x6_9 < (↑x4_9 : Int) ∧ 0 < x5_9.length))) <|
 bindO (asFloat Go.FloatKind.f32 (x5_9.getD (x6_9.toNat * 1) AV.top)) fun v14 =>
 condO (shut (ordO Go.FloatKind.f32 v12 v14 == Option.some Ordering.lt))
 (
 guardO (shut (decide ((0 : Int) ≤ x7_9 ∧ x7_9 < (↑x4_9 : Int) ∧ 0 < x5_9.length))) <|
 bindO (asFloat Go.FloatKind.f32 (x5_9.getD (x7_9.toNat * 1) AV.top)) fun v17 =>
 condO (shut (ordO Go.FloatKind.f32 v12 v17 == Option.some Ordering.gt))
 (
 r_9 (x0_9) (x1_9) (x2_9) (x3_9) (x4_9) (x5_9) (x13_9) (x13_9) (x8_9) (x9_9) (x10_9) (x11_9) (x12_9) (shut (IntKind.i64.wrap (x13_9 + (1 : Int)))) (x14_9) (x15_9) (x16_9) (x17_9) (x18_9) (x19_9))
 (
 r_9 (x0_9) (x1_9) (x2_9) (x3_9) (x4_9) (x5_9) (x13_9) (x7_9) (x8_9) (x9_9) (x10_9) (x11_9) (x12_9) (shut (IntKind.i64.wrap (x13_9 + (1 : Int)))) (x14_9) (x15_9) (x16_9) (x17_9) (x18_9) (x19_9)))
 (
 guardO (shut (decide ((0 : Int) ≤ x7_9 ∧ x7_9 < (↑x4_9 : Int) ∧ 0 < x5_9.length))) <|
 bindO (asFloat Go.FloatKind.f32 (x5_9.getD (x7_9.toNat * 1) AV.top)) fun v17 =>
 condO (shut (ordO Go.FloatKind.f32 v12 v17 == Option.some Ordering.gt))
 (
 r_9 (x0_9) (x1_9) (x2_9) (x3_9) (x4_9) (x5_9) (x6_9) (x13_9) (x8_9) (x9_9) (x10_9) (x11_9) (x12_9) (shut (IntKind.i64.wrap (x13_9 + (1 : Int)))) (x14_9) (x15_9) (x16_9) (x17_9) (x18_9) (x19_9))
 (
 r_9 (x0_9) (x1_9) (x2_9) (x3_9) (x4_9) (x5_9) (x6_9) (x7_9) (x8_9) (x9_9) (x10_9) (x11_9) (x12_9) (shut (IntKind.i64.wrap (x13_9 + (1 : Int)))) (x14_9) (x15_9) (x16_9) (x17_9) (x18_9) (x19_9))))
 (
 guardO (shut (decide ((0 : Int) ≤ shut (if x7_9 < x6_9 then x7_9 else x6_9) ∧ shut (if x7_9 < x6_9 then x7_9 else x6_9) < (↑x4_9 : Int) ∧ 0 < x5_9.length))) <|
 bindO (asFloat Go.FloatKind.f32 (x5_9.getD ((shut (if x7_9 < x6_9 then x7_9 else x6_9)).toNat * 1) AV.top)) fun v12 =>
 guardO (shut (decide ((0 : Int) ≤ shut (if x7_9 > x6_9 then x7_9 else x6_9) ∧ shut (if x7_9 > x6_9 then x7_9 else x6_9) < (↑x4_9 : Int) ∧ 0 < x5_9.length))) <|
 bindO (asFloat Go.FloatKind.f32 (x5_9.getD ((shut (if x7_9 > x6_9 then x7_9 else x6_9)).toNat * 1) AV.top)) fun v14 =>
 guardO (shut (decide ((x18_9 + 2) * 5 ≤ 549755813888))) <|
 r_3 (x0_9) (x1_9) (x2_9) (x3_9) (x8_9) (shut (IntKind.i64.wrap (x9_9 + (1 : Int)))) (x14_9) (x15_9) (x16_9) (x17_9) (x18_9 + 2) (x19_9 ++ putCells (putCells (zrow (ofV (Go.Value.float Go.FloatKind.f32 0)).cells 2) 0 [AV.flo Go.FloatKind.f32 (shut (clean1 v12))]) 1 [AV.flo Go.FloatKind.f32 (shut (clean1 v14))])))
 (fun _ _ _ _ _ _ _ _ _ _ _ _ _ _ _ _ _ _ _ _ => none) (x0_3) (x1_3) (x2_3) (x3_3) ((shut (IntKind.i64.wrap ((shut (IntKind.i64.wrap (shut (IntKind.i64.wrap (x5_3 + (1 : Int))) * x3_3))).tdiv x2_3))).toNat - (shut (IntKind.i64.wrap ((shut (IntKind.i64.wrap (x5_3 * x3_3))).tdiv x2_3))).toNat) (List.take (((shut (IntKind.i64.wrap ((shut (IntKind.i64.wrap (shut (IntKind.i64.wrap (x5_3 + (1 : Int))) * x3_3))).tdiv x2_3))).toNat - (shut (IntKind.i64.wrap ((shut (IntKind.i64.wrap (x5_3 * x3_3))).tdiv x2_3))).toNat) * 1) (List.drop ((shut (IntKind.i64.wrap ((shut (IntKind.i64.wrap (x5_3 * x3_3))).tdiv x2_3))).toNat * 1) x1_3)) ((0 : Int)) ((0 : Int)) (x4_3) (x5_3) ((shut (IntKind.i64.wrap ((shut (IntKind.i64.wrap (shut (IntKind.i64.wrap (x5_3 + (1 : Int))) * x3_3))).tdiv x2_3))).toNat - (shut (IntKind.i64.wrap ((shut (IntKind.i64.wrap (x5_3 * x3_3))).tdiv x2_3))).toNat) (List.take (((shut (IntKind.i64.wrap ((shut (IntKind.i64.wrap (shut (IntKind.i64.wrap (x5_3 + (1 : Int))) * x3_3))).tdiv x2_3))).toNat - (shut (IntKind.i64.wrap ((shut (IntKind.i64.wrap (x5_3 * x3_3))).tdiv x2_3))).toNat) * 1) (List.drop ((shut (IntKind.i64.wrap ((shut (IntKind.i64.wrap (x5_3 * x3_3))).tdiv x2_3))).toNat * 1) x1_3)) ((↑((shut (IntKind.i64.wrap ((shut (IntKind.i64.wrap (shut (IntKind.i64.wrap (x5_3 + (1 : Int))) * x3_3))).tdiv x2_3))).toNat - (shut (IntKind.i64.wrap ((shut (IntKind.i64.wrap (x5_3 * x3_3))).tdiv x2_3))).toNat) : Int)) ((0 : Int)) (x6_3) (x7_3) (x8_3) (x9_3) (x10_3) (x11_3))
 (
 some ([RLeaf.fz x10_3 x11_3, RLeaf.v (AV.int IntKind.i64 (0 : Int))])))
 (fun _ _ _ _ _ _ _ _ _ _ _ _ => none) (n) (cs) (a) ((↑n : Int)) (a) ((0 : Int)) (0) ([]) (3) (putCells (putCells (putCells (zrow (ofV (Go.Value.int IntKind.i64 (0 : Int))).cells 3) 0 [AV.int IntKind.i64 (shut (sampErr n (flosOf cs)))]) 1 [AV.int IntKind.i64 (shut (if a < (1 : Int) ∨ a > (2048 : Int) then (3 : Int) else (0 : Int)))]) 2 [AV.int IntKind.i64 (shut (if shut (decide ((↑n : Int) < a)) = true then (16 : Int) else (0 : Int)))]) (0) ([]))) := by kernel_rfl

theorem run_38 (N : Nat) (n : Nat) (cs : List AV) : (fsM mzC waysP N 12).call (List RLeaf) 38 [.ofB (.list n cs)] [] (resK [false]) = (
 guardO (shut (decide ((0 : Int) ≤ (0 : Int) ∧ (0 : Int) < (↑n : Int) ∧ 0 < cs.length))) <|
 bindO (asFloat Go.FloatKind.f32 (cs.getD 0 AV.top)) fun v1 =>
 guardO (shut (decide ((0 : Int) ≤ (0 : Int) ∧ (0 : Int) < (↑n : Int) ∧ 0 < cs.length))) <|
 bindO (asFloat Go.FloatKind.f32 (cs.getD 0 AV.top)) fun v3 =>
 loopC N (fun r_4 (x0_4 : Nat) (x1_4 : List AV) (x2_4 : Int) (x3_4 : Option Nat) (x4_4 : Option Nat) (x5_4 : Option Nat) (x6_4 : Option Nat) =>
 condO (shut (decide (x2_4 < (↑x0_4 : Int))))
 (
 guardO (shut (decide ((0 : Int) ≤ x2_4 ∧ x2_4 < (↑x0_4 : Int) ∧ 0 < x1_4.length))) <|
 bindO (asFloat Go.FloatKind.f32 (x1_4.getD (x2_4.toNat * 1) AV.top)) fun v7 =>
 condO (shut (ordO Go.FloatKind.f32 v7 x5_4 == Option.some Ordering.lt))
 (
 guardO (shut (decide ((0 : Int) ≤ x2_4 ∧ x2_4 < (↑x0_4 : Int) ∧ 0 < x1_4.length))) <|
 bindO (asFloat Go.FloatKind.f32 (x1_4.getD (x2_4.toNat * 1) AV.top)) fun v10 =>
 guardO (shut (decide ((0 : Int) ≤ x2_4 ∧ x2_4 < (↑x0_4 : Int) ∧ 0 < x1_4.length))) <|
 bindO (asFloat Go.FloatKind.f32 (x1_4.getD (x2_4.toNat * 1) AV.top)) fun v12 =>
 condO (shut (ordO Go.FloatKind.f32 v12 x6_4 == Option.some Ordering.gt))
 (
 guardO (shut (decide ((0 : Int) ≤ x2_4 ∧ x2_4 < (↑x0_4 : Int) ∧ 0 < x1_4.length))) <|
 bindO (asFloat Go.FloatKind.f32 (x1_4.getD (x2_4.toNat * 1) AV.top)) fun v15 =>
 r_4 (x0_4) (x1_4) (shut (IntKind.i64.wrap (x2_4 + (1 : Int)))) (x3_4) (x4_4) (v10) (v15))
 (
 r_4 (x0_4) (x1_4) (shut (IntKind.i64.wrap (x2_4 + (1 : Int)))) (x3_4) (x4_4) (v10) (x6_4)))
 (
 guardO (shut (decide ((0 : Int) ≤ x2_4 ∧ x2_4 < (↑x0_4 : Int) ∧ 0 < x1_4.length))) <|
 bindO (asFloat Go.FloatKind.f32 (x1_4.getD (x2_4.toNat * 1) AV.top)) fun v10 =>
 condO (shut (ordO Go.FloatKind.f32 v10 x6_4 == Option.some Ordering.gt))
 (
 guardO (shut (decide ((0 : Int) ≤ x2_4 ∧ x2_4 < (↑x0_4 : Int) ∧ 0 < x1_4.length))) <|
 bindO (asFloat Go.FloatKind.f32 (x1_4.getD (x2_4.toNat * 1) AV.top)) fun v13 =>
 r_4 (x0_4) (x1_4) (shut (IntKind.i64.wrap (x2_4 + (1 : Int)))) (x3_4) (x4_4) (x5_4) (v13))
 (
 r_4 (x0_4) (x1_4) (shut (IntKind.i64.wrap (x2_4 + (1 : Int)))) (x3_4) (x4_4) (x5_4) (x6_4))))
 (
 some ([RLeaf.v (AV.agg [AV.flo Go.FloatKind.f32 x5_4, AV.flo Go.FloatKind.f32 x6_4])])))
 (fun _ _ _ _ _ _ _ => none) (n) (cs) ((0 : Int)) (Option.some 0) (Option.some 0) (v1) (v3)) := by kernel_rfl

theorem run_94 (N : Nat) (a b c d : Int) : (fsM mzC waysP N 12).call (List RLeaf) 94 [.ofB (.int .i64 a), .ofB (.int .i64 b), .ofB (.int .i64 c), .ofB (.int .i64 d)] [] (resK [false, false]) = (
 guardO (shut (decide (c ≠ (0 : Int)))) <|
 guardO (shut (decide (c ≠ (0 : Int)))) <|
 some ([RLeaf.v (AV.int IntKind.i64 (shut (IntKind.i64.wrap (a + shut (IntKind.i64.wrap ((shut (IntKind.i64.wrap (d * shut (IntKind.i64.wrap (b - a))))).tdiv c)))))), RLeaf.v (AV.int IntKind.i64 (shut (IntKind.i64.wrap (a + shut (IntKind.i64.wrap ((shut (IntKind.i64.wrap (shut (IntKind.i64.wrap (d + (1 : Int))) * shut (IntKind.i64.wrap (b - a))))).tdiv c))))))])) := by kernel_rfl

theorem run_105 (N : Nat) (n : Nat) (cs : List AV) (o : Option Nat) : (fsM mzC waysP N 12).call (List RLeaf) 105 [.ofB (.list n cs), .ofB (.flo .f32 o)] [] (resK [false]) = (
 loopC N (fun r_0 (x0_0 : Nat) (x1_0 : List AV) (x2_0 : Option Nat) (x3_0 : Int) =>
 guardO (shut (decide ((0 : Int) ≤ x3_0 ∧ x3_0 < (↑x0_0 : Int) ∧ 0 < x1_0.length))) <|
 bindO (asFloat Go.FloatKind.f32 (x1_0.getD (x3_0.toNat * 1) AV.top)) fun v2 =>
 condO (shut (ordO Go.FloatKind.f32 v2 x2_0 != Option.some Ordering.eq))
 (
 r_0 (x0_0) (x1_0) (x2_0) (shut (IntKind.i64.wrap (x3_0 + (1 : Int)))))
 (
 some ([RLeaf.v (AV.int IntKind.i64 x3_0)])))
 (fun _ _ _ _ => none) (n) (cs) (o) ((0 : Int))) := by kernel_rfl


end Go.Abs
end

