/- Part 11 of the library that the proof of the statement uses: an abstract run of the program, proved right, and what its functions give. -/
import Derived.Test.YtaejnfdlolfpkaaGreatDoorStm10
set_option linter.unusedVariables false
set_option linter.unusedSimpArgs false

section
/- Functions of the Acquire seat, lifted (printed by the tool gen.py). -/
set_option maxRecDepth 100000
set_option linter.unusedVariables false
namespace Go.Abs
open Go.Proofs Classical

theorem run_46 (N : Nat) (n : Nat) (cs : List AV) (b : Int) : (fsZ tz4 N 6).call (List RLeaf) 46 [.ofB (.list n cs), .ofB (.int .i64 b)] [] (resK [true, false]) = (
 guardO (shut (decide (Segs n cs))) <|
 condO (shut (shut (chkS n (segsOf n cs)) != (0 : Int)))
  (
  some [RLeaf.fz 0 [], RLeaf.v (AV.int IntKind.i64 (shut (chkS n (segsOf n cs))))])
  (
  condO (shut (decide ((↑n : Int) > (0 : Int))))
   (
   guardO (shut (decide ((0 : Int) ≤ shut (IntKind.i64.wrap ((↑n : Int) - (1 : Int))) ∧ shut (IntKind.i64.wrap ((↑n : Int) - (1 : Int))) < (↑n : Int) ∧ 0 < cs.length))) <|
   guardO (shut (decide ((shut (IntKind.i64.wrap ((↑n : Int) - (1 : Int)))).toNat * 5 + 5 ≤ cs.length))) <|
   bindO (asInt IntKind.i64 (cs.getD ((shut (IntKind.i64.wrap ((↑n : Int) - (1 : Int)))).toNat * 5) AV.top)) fun v5 =>
   bindO (asInt IntKind.i64 (cs.getD ((shut (IntKind.i64.wrap ((↑n : Int) - (1 : Int)))).toNat * 5 + 1) AV.top)) fun v6 =>
   bindO (asList (cs.getD ((shut (IntKind.i64.wrap ((↑n : Int) - (1 : Int)))).toNat * 5 + 1 + 1) AV.top)) fun v7 =>
   bindO (asInt IntKind.i64 (cs.getD ((shut (IntKind.i64.wrap ((↑n : Int) - (1 : Int)))).toNat * 5 + 1 + 1 + 1) AV.top)) fun v8 =>
   bindO (asInt IntKind.i64 (cs.getD ((shut (IntKind.i64.wrap ((↑n : Int) - (1 : Int)))).toNat * 5 + 1 + 1 + 1 + 1) AV.top)) fun v9 =>
   guardO (shut (decide (Ints 2 (putCells (putCells (zrow (ofV (Go.Value.int IntKind.i64 (0 : Int))).cells 2) 0 [AV.int IntKind.i64 (shut (if b < (0 : Int) ∨ b > (999999999 : Int) then (3 : Int) else (0 : Int)))]) 1 [AV.int IntKind.i64 (shut (if shut (decide (b < shut (IntKind.i64.wrap (v5 + (↑v7.fst : Int))))) = true then (3 : Int) else (0 : Int)))])))) <|
   condO (shut (shut (firstNZ (intsOf (putCells (putCells (zrow (ofV (Go.Value.int IntKind.i64 (0 : Int))).cells 2) 0 [AV.int IntKind.i64 (shut (if b < (0 : Int) ∨ b > (999999999 : Int) then (3 : Int) else (0 : Int)))]) 1 [AV.int IntKind.i64 (shut (if shut (decide (b < shut (IntKind.i64.wrap (v5 + (↑v7.fst : Int))))) = true then (3 : Int) else (0 : Int)))]))) != (0 : Int)))
    (
    some [RLeaf.fz 0 [], RLeaf.v (AV.int IntKind.i64 (shut (firstNZ (intsOf (putCells (putCells (zrow (ofV (Go.Value.int IntKind.i64 (0 : Int))).cells 2) 0 [AV.int IntKind.i64 (shut (if b < (0 : Int) ∨ b > (999999999 : Int) then (3 : Int) else (0 : Int)))]) 1 [AV.int IntKind.i64 (shut (if shut (decide (b < shut (IntKind.i64.wrap (v5 + (↑v7.fst : Int))))) = true then (3 : Int) else (0 : Int)))])))))])
    (
    loopC N (fun r_12 (x0_12 : Int) (x1_12 : Nat) (x2_12 : List AV) (x3_12 : Int) (x4_12 : Int) (x5_12 : Nat) (x6_12 : List AV) (x7_12 : Nat) (x8_12 : List AV) (x9_12 : Nat) (x10_12 : List AV) (x11_12 : Int) (x12_12 : Nat) (x13_12 : List AV) (x14_12 : Nat) (x15_12 : List AV) (x16_12 : Int) (x17_12 : Int) (x18_12 : Int) (x19_12 : Int) (x20_12 : Int) (x21_12 : Nat) (x22_12 : List AV) (x23_12 : Int) (x24_12 : Int) (x25_12 : Bool) (x26_12 : Nat) (x27_12 : List AV) (x28_12 : Int) (x29_12 : Bool) (x30_12 : Nat) (x31_12 : List AV) (x32_12 : Nat) (x33_12 : List AV) (x34_12 : Int) (x35_12 : Int) (x36_12 : List AV) (x37_12 : Nat) (x38_12 : Int) (x39_12 : Int) (x40_12 : Nat) (x41_12 : List AV) (x42_12 : Int) (x43_12 : Int) (x44_12 : Int) (x45_12 : Int) (x46_12 : Int) (x47_12 : Int) (x48_12 : Int) (x49_12 : Bool) (x50_12 : Int) (x51_12 : Int) (x52_12 : Int) (x53_12 : Bool) (x54_12 : Nat) (x55_12 : List AV) =>
      condO (shut (decide (x4_12 < x3_12)))
       (
       guardO (shut (decide ((0 : Int) ≤ x4_12 ∧ x4_12 < (↑x1_12 : Int) ∧ 0 < x2_12.length))) <|
       guardO (shut (decide (x4_12.toNat * 5 + 5 ≤ x2_12.length))) <|
       bindO (asInt IntKind.i64 (x2_12.getD (x4_12.toNat * 5) AV.top)) fun v16 =>
       bindO (asInt IntKind.i64 (x2_12.getD (x4_12.toNat * 5 + 1) AV.top)) fun v17 =>
       bindO (asList (x2_12.getD (x4_12.toNat * 5 + 1 + 1) AV.top)) fun v18 =>
       bindO (asInt IntKind.i64 (x2_12.getD (x4_12.toNat * 5 + 1 + 1 + 1) AV.top)) fun v19 =>
       bindO (asInt IntKind.i64 (x2_12.getD (x4_12.toNat * 5 + 1 + 1 + 1 + 1) AV.top)) fun v20 =>
       condO (shut !(shut (x0_12 == x0_12) && (shut (v16 == x0_12) && (shut ((0 : Int) == (0 : Int)) && true))))
        (
        guardO (shut (decide ((x9_12 + 1) * 25 ≤ 549755813888))) <|
        condO (shut !(shut (v16 == v16) && (shut (shut (IntKind.i64.wrap (v16 + (↑v18.fst : Int))) == v16) && (shut (shut (IntKind.i64.wrap (x11_12 + (1 : Int))) == (0 : Int)) && true))))
         (
         guardO (shut (decide ((x9_12 + 1 + 1) * 25 ≤ 549755813888))) <|
         r_12 (shut (IntKind.i64.wrap (v16 + (↑v18.fst : Int)))) (x1_12) (x2_12) (x3_12) (shut (IntKind.i64.wrap (x4_12 + (1 : Int)))) (x5_12) (x6_12) (x7_12) (x8_12) (x9_12 + 1 + 1) (x10_12 ++ putCells (zrow (ofV (Go.Value.agg #[Go.Value.int IntKind.i64 (0 : Int), Go.Value.int IntKind.i64 (0 : Int), Go.Value.int IntKind.i64 (0 : Int)])).cells 3) 0 [AV.int IntKind.i64 x0_12, AV.int IntKind.i64 v16, AV.int IntKind.i64 (0 : Int)] ++ putCells (zrow (ofV (Go.Value.agg #[Go.Value.int IntKind.i64 (0 : Int), Go.Value.int IntKind.i64 (0 : Int), Go.Value.int IntKind.i64 (0 : Int)])).cells 3) 0 [AV.int IntKind.i64 v16, AV.int IntKind.i64 (shut (IntKind.i64.wrap (v16 + (↑v18.fst : Int)))), AV.int IntKind.i64 (shut (IntKind.i64.wrap (x11_12 + (1 : Int))))]) (shut (IntKind.i64.wrap (x11_12 + (1 : Int)))) (x12_12) (x13_12) (x14_12) (x15_12) (x16_12) (x17_12) (x18_12) (x19_12) (x20_12) (x21_12) (x22_12) (x23_12) (x24_12) (x25_12) (x26_12) (x27_12) (x28_12) (x29_12) (x30_12) (x31_12) (x32_12) (x33_12) (x34_12) (x35_12) (x36_12) (x37_12) (x38_12) (x39_12) (x40_12) (x41_12) (x42_12) (x43_12) (x44_12) (x45_12) (x46_12) (x47_12) (x48_12) (x49_12) (x50_12) (x51_12) (x52_12) (x53_12) (x54_12) (x55_12))
         (
         r_12 (shut (IntKind.i64.wrap (v16 + (↑v18.fst : Int)))) (x1_12) (x2_12) (x3_12) (shut (IntKind.i64.wrap (x4_12 + (1 : Int)))) (x5_12) (x6_12) (x7_12) (x8_12) (x9_12 + 1) (x10_12 ++ putCells (zrow (ofV (Go.Value.agg #[Go.Value.int IntKind.i64 (0 : Int), Go.Value.int IntKind.i64 (0 : Int), Go.Value.int IntKind.i64 (0 : Int)])).cells 3) 0 [AV.int IntKind.i64 x0_12, AV.int IntKind.i64 v16, AV.int IntKind.i64 (0 : Int)]) (shut (IntKind.i64.wrap (x11_12 + (1 : Int)))) (x12_12) (x13_12) (x14_12) (x15_12) (x16_12) (x17_12) (x18_12) (x19_12) (x20_12) (x21_12) (x22_12) (x23_12) (x24_12) (x25_12) (x26_12) (x27_12) (x28_12) (x29_12) (x30_12) (x31_12) (x32_12) (x33_12) (x34_12) (x35_12) (x36_12) (x37_12) (x38_12) (x39_12) (x40_12) (x41_12) (x42_12) (x43_12) (x44_12) (x45_12) (x46_12) (x47_12) (x48_12) (x49_12) (x50_12) (x51_12) (x52_12) (x53_12) (x54_12) (x55_12)))
        (
        condO (shut !(shut (v16 == v16) && (shut (shut (IntKind.i64.wrap (v16 + (↑v18.fst : Int))) == v16) && (shut (shut (IntKind.i64.wrap (x11_12 + (1 : Int))) == (0 : Int)) && true))))
         (
         guardO (shut (decide ((x9_12 + 1) * 25 ≤ 549755813888))) <|
         r_12 (shut (IntKind.i64.wrap (v16 + (↑v18.fst : Int)))) (x1_12) (x2_12) (x3_12) (shut (IntKind.i64.wrap (x4_12 + (1 : Int)))) (x5_12) (x6_12) (x7_12) (x8_12) (x9_12 + 1) (x10_12 ++ putCells (zrow (ofV (Go.Value.agg #[Go.Value.int IntKind.i64 (0 : Int), Go.Value.int IntKind.i64 (0 : Int), Go.Value.int IntKind.i64 (0 : Int)])).cells 3) 0 [AV.int IntKind.i64 v16, AV.int IntKind.i64 (shut (IntKind.i64.wrap (v16 + (↑v18.fst : Int)))), AV.int IntKind.i64 (shut (IntKind.i64.wrap (x11_12 + (1 : Int))))]) (shut (IntKind.i64.wrap (x11_12 + (1 : Int)))) (x12_12) (x13_12) (x14_12) (x15_12) (x16_12) (x17_12) (x18_12) (x19_12) (x20_12) (x21_12) (x22_12) (x23_12) (x24_12) (x25_12) (x26_12) (x27_12) (x28_12) (x29_12) (x30_12) (x31_12) (x32_12) (x33_12) (x34_12) (x35_12) (x36_12) (x37_12) (x38_12) (x39_12) (x40_12) (x41_12) (x42_12) (x43_12) (x44_12) (x45_12) (x46_12) (x47_12) (x48_12) (x49_12) (x50_12) (x51_12) (x52_12) (x53_12) (x54_12) (x55_12))
         (
         r_12 (shut (IntKind.i64.wrap (v16 + (↑v18.fst : Int)))) (x1_12) (x2_12) (x3_12) (shut (IntKind.i64.wrap (x4_12 + (1 : Int)))) (x5_12) (x6_12) (x7_12) (x8_12) (x9_12) (x10_12) (shut (IntKind.i64.wrap (x11_12 + (1 : Int)))) (x12_12) (x13_12) (x14_12) (x15_12) (x16_12) (x17_12) (x18_12) (x19_12) (x20_12) (x21_12) (x22_12) (x23_12) (x24_12) (x25_12) (x26_12) (x27_12) (x28_12) (x29_12) (x30_12) (x31_12) (x32_12) (x33_12) (x34_12) (x35_12) (x36_12) (x37_12) (x38_12) (x39_12) (x40_12) (x41_12) (x42_12) (x43_12) (x44_12) (x45_12) (x46_12) (x47_12) (x48_12) (x49_12) (x50_12) (x51_12) (x52_12) (x53_12) (x54_12) (x55_12))))
       (
       condO (shut !(shut (shut (IntKind.i64.wrap (v5 + (↑v7.fst : Int))) == shut (IntKind.i64.wrap (v5 + (↑v7.fst : Int)))) && (shut (b == shut (IntKind.i64.wrap (v5 + (↑v7.fst : Int)))) && (shut ((0 : Int) == (0 : Int)) && true))))
        (
        guardO (shut (decide ((x9_12 + 1) * 25 ≤ 549755813888))) <|
        some [RLeaf.fz (x9_12 + 1) (x10_12 ++ putCells (zrow (ofV (Go.Value.agg #[Go.Value.int IntKind.i64 (0 : Int), Go.Value.int IntKind.i64 (0 : Int), Go.Value.int IntKind.i64 (0 : Int)])).cells 3) 0 [AV.int IntKind.i64 (shut (IntKind.i64.wrap (v5 + (↑v7.fst : Int)))), AV.int IntKind.i64 b, AV.int IntKind.i64 (0 : Int)]), RLeaf.v (AV.int IntKind.i64 (0 : Int))])
        (
        some [RLeaf.fz x9_12 x10_12, RLeaf.v (AV.int IntKind.i64 (0 : Int))])))
      (fun _ _ _ _ _ _ _ _ _ _ _ _ _ _ _ _ _ _ _ _ _ _ _ _ _ _ _ _ _ _ _ _ _ _ _ _ _ _ _ _ _ _ _ _ _ _ _ _ _ _ _ _ _ _ _ _ => none) ((0 : Int)) (n) (cs) ((↑n : Int)) ((0 : Int)) (0) ([]) (2) (putCells (putCells (zrow (ofV (Go.Value.int IntKind.i64 (0 : Int))).cells 2) 0 [AV.int IntKind.i64 (shut (if b < (0 : Int) ∨ b > (999999999 : Int) then (3 : Int) else (0 : Int)))]) 1 [AV.int IntKind.i64 (shut (if shut (decide (b < shut (IntKind.i64.wrap (v5 + (↑v7.fst : Int))))) = true then (3 : Int) else (0 : Int)))]) (0) ([]) ((0 : Int)) (n) (cs) (n) (cs) (b) ((0 : Int)) (shut (chkS n (segsOf n cs))) (shut (IntKind.i64.wrap (v5 + (↑v7.fst : Int)))) (shut (firstNZ (intsOf (putCells (putCells (zrow (ofV (Go.Value.int IntKind.i64 (0 : Int))).cells 2) 0 [AV.int IntKind.i64 (shut (if b < (0 : Int) ∨ b > (999999999 : Int) then (3 : Int) else (0 : Int)))]) 1 [AV.int IntKind.i64 (shut (if shut (decide (b < shut (IntKind.i64.wrap (v5 + (↑v7.fst : Int))))) = true then (3 : Int) else (0 : Int)))])))) (n) (cs) (shut (chkS n (segsOf n cs))) (shut (chkS n (segsOf n cs))) (false) (n) (cs) ((↑n : Int)) (true) (n) (cs) (n) (cs) ((↑n : Int)) (shut (IntKind.i64.wrap ((↑n : Int) - (1 : Int)))) (cs) ((shut (IntKind.i64.wrap ((↑n : Int) - (1 : Int)))).toNat * 5) (v5) (v6) (v7.fst) (v7.snd) (v8) (v9) (shut (IntKind.i64.wrap (v5 + (↑v7.fst : Int)))) (b) (shut (if b < (0 : Int) ∨ b > (999999999 : Int) then (3 : Int) else (0 : Int))) (b) (shut (IntKind.i64.wrap (v5 + (↑v7.fst : Int)))) (shut (decide (b < shut (IntKind.i64.wrap (v5 + (↑v7.fst : Int)))))) (shut (if shut (decide (b < shut (IntKind.i64.wrap (v5 + (↑v7.fst : Int))))) = true then (3 : Int) else (0 : Int))) (shut (firstNZ (intsOf (putCells (putCells (zrow (ofV (Go.Value.int IntKind.i64 (0 : Int))).cells 2) 0 [AV.int IntKind.i64 (shut (if b < (0 : Int) ∨ b > (999999999 : Int) then (3 : Int) else (0 : Int)))]) 1 [AV.int IntKind.i64 (shut (if shut (decide (b < shut (IntKind.i64.wrap (v5 + (↑v7.fst : Int))))) = true then (3 : Int) else (0 : Int)))])))) (shut (firstNZ (intsOf (putCells (putCells (zrow (ofV (Go.Value.int IntKind.i64 (0 : Int))).cells 2) 0 [AV.int IntKind.i64 (shut (if b < (0 : Int) ∨ b > (999999999 : Int) then (3 : Int) else (0 : Int)))]) 1 [AV.int IntKind.i64 (shut (if shut (decide (b < shut (IntKind.i64.wrap (v5 + (↑v7.fst : Int))))) = true then (3 : Int) else (0 : Int)))])))) (false) (n) (cs)))
   (
   guardO (shut (decide (Ints 2 (putCells (putCells (zrow (ofV (Go.Value.int IntKind.i64 (0 : Int))).cells 2) 0 [AV.int IntKind.i64 (shut (if b < (0 : Int) ∨ b > (999999999 : Int) then (3 : Int) else (0 : Int)))]) 1 [AV.int IntKind.i64 (shut (if shut (decide (b < (0 : Int))) = true then (3 : Int) else (0 : Int)))])))) <|
   condO (shut (shut (firstNZ (intsOf (putCells (putCells (zrow (ofV (Go.Value.int IntKind.i64 (0 : Int))).cells 2) 0 [AV.int IntKind.i64 (shut (if b < (0 : Int) ∨ b > (999999999 : Int) then (3 : Int) else (0 : Int)))]) 1 [AV.int IntKind.i64 (shut (if shut (decide (b < (0 : Int))) = true then (3 : Int) else (0 : Int)))]))) != (0 : Int)))
    (
    some [RLeaf.fz 0 [], RLeaf.v (AV.int IntKind.i64 (shut (firstNZ (intsOf (putCells (putCells (zrow (ofV (Go.Value.int IntKind.i64 (0 : Int))).cells 2) 0 [AV.int IntKind.i64 (shut (if b < (0 : Int) ∨ b > (999999999 : Int) then (3 : Int) else (0 : Int)))]) 1 [AV.int IntKind.i64 (shut (if shut (decide (b < (0 : Int))) = true then (3 : Int) else (0 : Int)))])))))])
    (
    loopC N (fun r_5 (x0_5 : Int) (x1_5 : Nat) (x2_5 : List AV) (x3_5 : Int) (x4_5 : Int) (x5_5 : Nat) (x6_5 : List AV) (x7_5 : Nat) (x8_5 : List AV) (x9_5 : Nat) (x10_5 : List AV) (x11_5 : Int) (x12_5 : Nat) (x13_5 : List AV) (x14_5 : Nat) (x15_5 : List AV) (x16_5 : Int) (x17_5 : Int) (x18_5 : Int) (x19_5 : Int) (x20_5 : Int) (x21_5 : Nat) (x22_5 : List AV) (x23_5 : Int) (x24_5 : Int) (x25_5 : Bool) (x26_5 : Nat) (x27_5 : List AV) (x28_5 : Int) (x29_5 : Bool) (x30_5 : Int) (x31_5 : Int) (x32_5 : Int) (x33_5 : Int) (x34_5 : Bool) (x35_5 : Int) (x36_5 : Int) (x37_5 : Int) (x38_5 : Bool) (x39_5 : Nat) (x40_5 : List AV) =>
      condO (shut (decide (x4_5 < x3_5)))
       (
       guardO (shut (decide ((0 : Int) ≤ x4_5 ∧ x4_5 < (↑x1_5 : Int) ∧ 0 < x2_5.length))) <|
       guardO (shut (decide (x4_5.toNat * 5 + 5 ≤ x2_5.length))) <|
       bindO (asInt IntKind.i64 (x2_5.getD (x4_5.toNat * 5) AV.top)) fun v9 =>
       bindO (asInt IntKind.i64 (x2_5.getD (x4_5.toNat * 5 + 1) AV.top)) fun v10 =>
       bindO (asList (x2_5.getD (x4_5.toNat * 5 + 1 + 1) AV.top)) fun v11 =>
       bindO (asInt IntKind.i64 (x2_5.getD (x4_5.toNat * 5 + 1 + 1 + 1) AV.top)) fun v12 =>
       bindO (asInt IntKind.i64 (x2_5.getD (x4_5.toNat * 5 + 1 + 1 + 1 + 1) AV.top)) fun v13 =>
       condO (shut !(shut (x0_5 == x0_5) && (shut (v9 == x0_5) && (shut ((0 : Int) == (0 : Int)) && true))))
        (
        guardO (shut (decide ((x9_5 + 1) * 25 ≤ 549755813888))) <|
        condO (shut !(shut (v9 == v9) && (shut (shut (IntKind.i64.wrap (v9 + (↑v11.fst : Int))) == v9) && (shut (shut (IntKind.i64.wrap (x11_5 + (1 : Int))) == (0 : Int)) && true))))
         (
         guardO (shut (decide ((x9_5 + 1 + 1) * 25 ≤ 549755813888))) <|
         r_5 (shut (IntKind.i64.wrap (v9 + (↑v11.fst : Int)))) (x1_5) (x2_5) (x3_5) (shut (IntKind.i64.wrap (x4_5 + (1 : Int)))) (x5_5) (x6_5) (x7_5) (x8_5) (x9_5 + 1 + 1) (x10_5 ++ putCells (zrow (ofV (Go.Value.agg #[Go.Value.int IntKind.i64 (0 : Int), Go.Value.int IntKind.i64 (0 : Int), Go.Value.int IntKind.i64 (0 : Int)])).cells 3) 0 [AV.int IntKind.i64 x0_5, AV.int IntKind.i64 v9, AV.int IntKind.i64 (0 : Int)] ++ putCells (zrow (ofV (Go.Value.agg #[Go.Value.int IntKind.i64 (0 : Int), Go.Value.int IntKind.i64 (0 : Int), Go.Value.int IntKind.i64 (0 : Int)])).cells 3) 0 [AV.int IntKind.i64 v9, AV.int IntKind.i64 (shut (IntKind.i64.wrap (v9 + (↑v11.fst : Int)))), AV.int IntKind.i64 (shut (IntKind.i64.wrap (x11_5 + (1 : Int))))]) (shut (IntKind.i64.wrap (x11_5 + (1 : Int)))) (x12_5) (x13_5) (x14_5) (x15_5) (x16_5) (x17_5) (x18_5) (x19_5) (x20_5) (x21_5) (x22_5) (x23_5) (x24_5) (x25_5) (x26_5) (x27_5) (x28_5) (x29_5) (x30_5) (x31_5) (x32_5) (x33_5) (x34_5) (x35_5) (x36_5) (x37_5) (x38_5) (x39_5) (x40_5))
         (
         r_5 (shut (IntKind.i64.wrap (v9 + (↑v11.fst : Int)))) (x1_5) (x2_5) (x3_5) (shut (IntKind.i64.wrap (x4_5 + (1 : Int)))) (x5_5) (x6_5) (x7_5) (x8_5) (x9_5 + 1) (x10_5 ++ putCells (zrow (ofV (Go.Value.agg #[Go.Value.int IntKind.i64 (0 : Int), Go.Value.int IntKind.i64 (0 : Int), Go.Value.int IntKind.i64 (0 : Int)])).cells 3) 0 [AV.int IntKind.i64 x0_5, AV.int IntKind.i64 v9, AV.int IntKind.i64 (0 : Int)]) (shut (IntKind.i64.wrap (x11_5 + (1 : Int)))) (x12_5) (x13_5) (x14_5) (x15_5) (x16_5) (x17_5) (x18_5) (x19_5) (x20_5) (x21_5) (x22_5) (x23_5) (x24_5) (x25_5) (x26_5) (x27_5) (x28_5) (x29_5) (x30_5) (x31_5) (x32_5) (x33_5) (x34_5) (x35_5) (x36_5) (x37_5) (x38_5) (x39_5) (x40_5)))
        (
        condO (shut !(shut (v9 == v9) && (shut (shut (IntKind.i64.wrap (v9 + (↑v11.fst : Int))) == v9) && (shut (shut (IntKind.i64.wrap (x11_5 + (1 : Int))) == (0 : Int)) && true))))
         (
         guardO (shut (decide ((x9_5 + 1) * 25 ≤ 549755813888))) <|
         r_5 (shut (IntKind.i64.wrap (v9 + (↑v11.fst : Int)))) (x1_5) (x2_5) (x3_5) (shut (IntKind.i64.wrap (x4_5 + (1 : Int)))) (x5_5) (x6_5) (x7_5) (x8_5) (x9_5 + 1) (x10_5 ++ putCells (zrow (ofV (Go.Value.agg #[Go.Value.int IntKind.i64 (0 : Int), Go.Value.int IntKind.i64 (0 : Int), Go.Value.int IntKind.i64 (0 : Int)])).cells 3) 0 [AV.int IntKind.i64 v9, AV.int IntKind.i64 (shut (IntKind.i64.wrap (v9 + (↑v11.fst : Int)))), AV.int IntKind.i64 (shut (IntKind.i64.wrap (x11_5 + (1 : Int))))]) (shut (IntKind.i64.wrap (x11_5 + (1 : Int)))) (x12_5) (x13_5) (x14_5) (x15_5) (x16_5) (x17_5) (x18_5) (x19_5) (x20_5) (x21_5) (x22_5) (x23_5) (x24_5) (x25_5) (x26_5) (x27_5) (x28_5) (x29_5) (x30_5) (x31_5) (x32_5) (x33_5) (x34_5) (x35_5) (x36_5) (x37_5) (x38_5) (x39_5) (x40_5))
         (
         r_5 (shut (IntKind.i64.wrap (v9 + (↑v11.fst : Int)))) (x1_5) (x2_5) (x3_5) (shut (IntKind.i64.wrap (x4_5 + (1 : Int)))) (x5_5) (x6_5) (x7_5) (x8_5) (x9_5) (x10_5) (shut (IntKind.i64.wrap (x11_5 + (1 : Int)))) (x12_5) (x13_5) (x14_5) (x15_5) (x16_5) (x17_5) (x18_5) (x19_5) (x20_5) (x21_5) (x22_5) (x23_5) (x24_5) (x25_5) (x26_5) (x27_5) (x28_5) (x29_5) (x30_5) (x31_5) (x32_5) (x33_5) (x34_5) (x35_5) (x36_5) (x37_5) (x38_5) (x39_5) (x40_5))))
       (
       condO (shut !(shut ((0 : Int) == (0 : Int)) && (shut (b == (0 : Int)) && (shut ((0 : Int) == (0 : Int)) && true))))
        (
        guardO (shut (decide ((x9_5 + 1) * 25 ≤ 549755813888))) <|
        some [RLeaf.fz (x9_5 + 1) (x10_5 ++ putCells (zrow (ofV (Go.Value.agg #[Go.Value.int IntKind.i64 (0 : Int), Go.Value.int IntKind.i64 (0 : Int), Go.Value.int IntKind.i64 (0 : Int)])).cells 3) 0 [AV.int IntKind.i64 (0 : Int), AV.int IntKind.i64 b, AV.int IntKind.i64 (0 : Int)]), RLeaf.v (AV.int IntKind.i64 (0 : Int))])
        (
        some [RLeaf.fz x9_5 x10_5, RLeaf.v (AV.int IntKind.i64 (0 : Int))])))
      (fun _ _ _ _ _ _ _ _ _ _ _ _ _ _ _ _ _ _ _ _ _ _ _ _ _ _ _ _ _ _ _ _ _ _ _ _ _ _ _ _ _ => none) ((0 : Int)) (n) (cs) ((↑n : Int)) ((0 : Int)) (0) ([]) (2) (putCells (putCells (zrow (ofV (Go.Value.int IntKind.i64 (0 : Int))).cells 2) 0 [AV.int IntKind.i64 (shut (if b < (0 : Int) ∨ b > (999999999 : Int) then (3 : Int) else (0 : Int)))]) 1 [AV.int IntKind.i64 (shut (if shut (decide (b < (0 : Int))) = true then (3 : Int) else (0 : Int)))]) (0) ([]) ((0 : Int)) (n) (cs) (n) (cs) (b) ((0 : Int)) (shut (chkS n (segsOf n cs))) ((0 : Int)) (shut (firstNZ (intsOf (putCells (putCells (zrow (ofV (Go.Value.int IntKind.i64 (0 : Int))).cells 2) 0 [AV.int IntKind.i64 (shut (if b < (0 : Int) ∨ b > (999999999 : Int) then (3 : Int) else (0 : Int)))]) 1 [AV.int IntKind.i64 (shut (if shut (decide (b < (0 : Int))) = true then (3 : Int) else (0 : Int)))])))) (n) (cs) (shut (chkS n (segsOf n cs))) (shut (chkS n (segsOf n cs))) (false) (n) (cs) ((↑n : Int)) (false) (b) (shut (if b < (0 : Int) ∨ b > (999999999 : Int) then (3 : Int) else (0 : Int))) (b) ((0 : Int)) (shut (decide (b < (0 : Int)))) (shut (if shut (decide (b < (0 : Int))) = true then (3 : Int) else (0 : Int))) (shut (firstNZ (intsOf (putCells (putCells (zrow (ofV (Go.Value.int IntKind.i64 (0 : Int))).cells 2) 0 [AV.int IntKind.i64 (shut (if b < (0 : Int) ∨ b > (999999999 : Int) then (3 : Int) else (0 : Int)))]) 1 [AV.int IntKind.i64 (shut (if shut (decide (b < (0 : Int))) = true then (3 : Int) else (0 : Int)))])))) (shut (firstNZ (intsOf (putCells (putCells (zrow (ofV (Go.Value.int IntKind.i64 (0 : Int))).cells 2) 0 [AV.int IntKind.i64 (shut (if b < (0 : Int) ∨ b > (999999999 : Int) then (3 : Int) else (0 : Int)))]) 1 [AV.int IntKind.i64 (shut (if shut (decide (b < (0 : Int))) = true then (3 : Int) else (0 : Int)))])))) (false) (n) (cs))))) := by kernel_rfl


end Go.Abs
end

section
/- Ranges that cover samples. -/
set_option linter.unusedVariables false
set_option linter.unusedSimpArgs false
namespace Go.Abs
open Go.Proofs Classical

def endA (s : SegA) : Int := IntKind.i64.wrap (s.start + (s.k : Int))

/-- The ranges of segments behind a time. -/
def covL : Int → Nat → List SegA → List (Int × Int × Int)
  | _, _, [] => []
  | a, i, s :: ss => (if s.start > a then [(a, s.start, 0)] else []) ++ ((s.start, endA s, ((i + 1 : Nat) : Int)) :: covL (endA s) (i + 1) ss)

def lastE : Int → List SegA → Int
  | a, [] => a
  | _, s :: ss => lastE (endA s) ss

def covR (n : Int) (ss : List SegA) : List (Int × Int × Int) := covL 0 0 ss ++ (if n > lastE 0 ss then [(lastE 0 ss, n, 0)] else [])

def covErr (n : Int) (ss : List SegA) : Int := if n < 0 ∨ n > 999999999 ∨ n < lastE 0 ss then 3 else 0

def rcells (l : List (Int × Int × Int)) : List AV := l.flatMap fun r => [.int .i64 r.1, .int .i64 r.2.1, .int .i64 r.2.2]

theorem rcells_len {l : List (Int × Int × Int)} : (rcells l).length = l.length * 3 := by
  unfold rcells
  rw [List.flatMap_def, flat_len (C := 3) (by intro e he; obtain ⟨r, _, rfl⟩ := List.mem_map.1 he; rfl), List.length_map]

theorem rcells_get {l : List (Int × Int × Int)} {i r : Nat} (hi : i < l.length) (hr : r < 3) :
    (rcells l).getD (i * 3 + r) .top = ([AV.int .i64 (l.getD i (0, 0, 0)).1, .int .i64 (l.getD i (0, 0, 0)).2.1, .int .i64 (l.getD i (0, 0, 0)).2.2]).getD r .top := by
  unfold rcells
  rw [List.flatMap_def, List.getD_eq_getElem?_getD, flat_get (C := 3) (by intro e he; obtain ⟨r, _, rfl⟩ := List.mem_map.1 he; rfl) hr]
  simp [hi, List.getD]

theorem rcells_get0 {l : List (Int × Int × Int)} {i : Nat} (hi : i < l.length) : asInt .i64 ((rcells l).getD (i * 3) .top) = some (l.getD i (0, 0, 0)).1 := by
  have := rcells_get hi (r := 0) (by omega)
  rw [Nat.add_zero] at this
  rw [this]; simp [asInt]
theorem rcells_get1 {l : List (Int × Int × Int)} {i : Nat} (hi : i < l.length) : asInt .i64 ((rcells l).getD (i * 3 + 1) .top) = some (l.getD i (0, 0, 0)).2.1 := by
  rw [rcells_get hi (by omega)]; simp [asInt]
theorem rcells_get2 {l : List (Int × Int × Int)} {i : Nat} (hi : i < l.length) : asInt .i64 ((rcells l).getD (i * 3 + 2) .top) = some (l.getD i (0, 0, 0)).2.2 := by
  rw [rcells_get hi (by omega)]; simp [asInt]

theorem rcells_plain {l : List (Int × Int × Int)} : ∀ c ∈ rcells l, PlainC c := by
  intro c hc
  obtain ⟨r, _, hr⟩ := List.mem_flatMap.1 hc
  simp only [List.mem_cons, List.not_mem_nil, or_false] at hr
  rcases hr with rfl | rfl | rfl <;> exact .int _ _

theorem rcells_app {l m : List (Int × Int × Int)} : rcells (l ++ m) = rcells l ++ rcells m := by simp [rcells]

/-- Segments that pass lie one behind the other. -/
theorem chkL_cons {e : Int} {s : SegA} {ss : List SegA} (h : chkL e (s :: ss) = 0) : segErr e s = 0 ∧ chkL (endA s) ss = 0 := by
  unfold chkL at h
  split at h
  · rename_i h0; exact ⟨h0, h⟩
  · rename_i h0; exact absurd h h0

theorem segErr_zero {e : Int} {s : SegA} (h : segErr e s = 0) : 0 ≤ s.start ∧ s.start ≤ 999999999 ∧ sampErr s.k (flosOf s.fs) = 0 ∧ 0 < s.k ∧ s.k ≤ 4096 ∧ s.start ≤ s.trig ∧ s.trig < s.start + s.k ∧ e ≤ s.start ∧ endA s = s.start + s.k := by
  unfold segErr at h
  split at h
  · cases h
  · rename_i h1
    split at h
    · rename_i h2; exact absurd h h2
    · rename_i h2
      have h2 : sampErr s.k (flosOf s.fs) = 0 := Classical.not_not.1 h2
      have hk : s.k ≤ 4096 := by
        unfold sampErr at h2
        split at h2
        · cases h2
        · omega
      split at h
      · cases h
      · rename_i h3
        have he : endA s = s.start + s.k := by unfold endA; rw [wrap64] <;> omega
        split at h
        · cases h
        · rename_i h4
          have he' : IntKind.i64.wrap (IntKind.i64.wrap (s.start + (s.k : Int)) - 1) = s.start + s.k - 1 := by
            have : IntKind.i64.wrap (s.start + (s.k : Int)) = s.start + s.k := he
            rw [this, wrap64] <;> omega
          rw [he'] at h4
          split at h
          · cases h
          · rename_i h5
            exact ⟨by omega, by omega, h2, by omega, hk, by omega, by omega, by omega, he⟩

end Go.Abs
end

