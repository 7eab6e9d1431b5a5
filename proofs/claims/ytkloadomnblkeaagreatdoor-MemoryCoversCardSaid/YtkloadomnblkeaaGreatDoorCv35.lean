/- Part 35 of the library that the proof of the statement uses: an abstract run of the program, proved right, and what its functions give. -/
import Derived.Test.YtkloadomnblkeaaGreatDoorCv34
set_option linter.unusedVariables false
set_option linter.unusedSimpArgs false

section
/- Functions of the Memory seat, lifted (printed by the tool gen2.py). -/
set_option maxRecDepth 100000
set_option linter.unusedVariables false
namespace Go.Abs
open Go.Proofs Classical

theorem run_30 (N : Nat) (a b c d : Int) : (fsM mzC waysP N 12).call (List RLeaf) 30 [.ofB (.int .i64 a), .ofB (.int .i64 b), .ofB (.int .i64 c), .ofB (.int .i64 d)] [] (resK [true, false]) = (
 guardO (shut (decide (Ints 3 (putCells (putCells (putCells (zrow (ofV (Go.Value.int IntKind.i64 (0 : Int))).cells 3) 0 [AV.int IntKind.i64 (shut (if a < (1 : Int) ∨ a > (256 : Int) then (3 : Int) else (0 : Int)))]) 1 [AV.int IntKind.i64 (shut (if b < (0 : Int) ∨ b > (4096 : Int) then (3 : Int) else (0 : Int)))]) 2 [AV.int IntKind.i64 (shut (if c < (0 : Int) ∨ c > b then (3 : Int) else if d < (0 : Int) ∨ d > b then (3 : Int) else if d < c then (11 : Int) else (0 : Int)))])))) <|
 condO (shut (shut (firstNZ (intsOf (putCells (putCells (putCells (zrow (ofV (Go.Value.int IntKind.i64 (0 : Int))).cells 3) 0 [AV.int IntKind.i64 (shut (if a < (1 : Int) ∨ a > (256 : Int) then (3 : Int) else (0 : Int)))]) 1 [AV.int IntKind.i64 (shut (if b < (0 : Int) ∨ b > (4096 : Int) then (3 : Int) else (0 : Int)))]) 2 [AV.int IntKind.i64 (shut (if c < (0 : Int) ∨ c > b then (3 : Int) else if d < (0 : Int) ∨ d > b then (3 : Int) else if d < c then (11 : Int) else (0 : Int)))]))) != (0 : Int)))
 (
 some ([RLeaf.fz 0 [], RLeaf.v (AV.int IntKind.i64 (shut (firstNZ (intsOf (putCells (putCells (putCells (zrow (ofV (Go.Value.int IntKind.i64 (0 : Int))).cells 3) 0 [AV.int IntKind.i64 (shut (if a < (1 : Int) ∨ a > (256 : Int) then (3 : Int) else (0 : Int)))]) 1 [AV.int IntKind.i64 (shut (if b < (0 : Int) ∨ b > (4096 : Int) then (3 : Int) else (0 : Int)))]) 2 [AV.int IntKind.i64 (shut (if c < (0 : Int) ∨ c > b then (3 : Int) else if d < (0 : Int) ∨ d > b then (3 : Int) else if d < c then (11 : Int) else (0 : Int)))])))))]))
 (
 loopC N (fun r_2 (x0_2 : Int) (x1_2 : Nat) (x2_2 : List AV) (x3_2 : Nat) (x4_2 : List AV) (x5_2 : Nat) (x6_2 : List AV) (x7_2 : Int) (x8_2 : Int) (x9_2 : Int) (x10_2 : Int) =>
 condO (shut (decide (x0_2 < x10_2)))
 (
 loopC N (fun r_4 (x0_4 : Int) (x1_4 : Int) (x2_4 : Int) (x3_4 : Int) (x4_4 : Nat) (x5_4 : List AV) (x6_4 : Nat) (x7_4 : List AV) (x8_4 : Nat) (x9_4 : List AV) (x10_4 : Int) (x11_4 : Int) (x12_4 : Int) (x13_4 : Int) (x14_4 : Int) (x15_4 : Int) =>
 guardO (shut (decide (x3_4 ≠ (0 : Int)))) <|
 bindO (
 condO (shut (shut (x0_4.tmod x3_4) == (0 : Int)))
 (
 some (shut (decide (shut (if shut (IntKind.i64.wrap (x0_4 + x3_4)) < x11_4 then shut (IntKind.i64.wrap (x0_4 + x3_4)) else x11_4) ≤ x13_4))))
 (
 some (false))) fun v6 =>
 condO (v6)
 (
 guardO (shut (decide (x3_4 ≠ (0 : Int)))) <|
 condO (shut (decide (x3_4 ≥ x11_4)))
 (
 guardO (shut (decide ((x8_4 + 1) * 17 ≤ 549755813888))) <|
 r_2 (shut (if shut (IntKind.i64.wrap (x0_4 + x3_4)) < x11_4 then shut (IntKind.i64.wrap (x0_4 + x3_4)) else x11_4)) (x4_4) (x5_4) (x6_4) (x7_4) (x8_4 + 1) (x9_4 ++ putCells (zrow (ofV (Go.Value.agg #[Go.Value.int IntKind.i64 (0 : Int), Go.Value.int IntKind.i64 (0 : Int)])).cells 2) 0 [AV.int IntKind.i64 x2_4, AV.int IntKind.i64 (shut (IntKind.i64.wrap (x0_4.tdiv x3_4)))]) (x10_4) (x11_4) (x12_4) (x13_4))
 (
 r_4 (x0_4) (shut (if shut (IntKind.i64.wrap (x0_4 + x3_4)) < x11_4 then shut (IntKind.i64.wrap (x0_4 + x3_4)) else x11_4)) (shut (IntKind.i64.wrap (x2_4 + (1 : Int)))) (shut (IntKind.i64.wrap ((2 : Int) * x3_4))) (x4_4) (x5_4) (x6_4) (x7_4) (x8_4) (x9_4) (x10_4) (x11_4) (x12_4) (x13_4) (x2_4) (shut (IntKind.i64.wrap (x0_4.tdiv x3_4)))))
 (
 guardO (shut (decide ((x8_4 + 1) * 17 ≤ 549755813888))) <|
 r_2 (x1_4) (x4_4) (x5_4) (x6_4) (x7_4) (x8_4 + 1) (x9_4 ++ putCells (zrow (ofV (Go.Value.agg #[Go.Value.int IntKind.i64 (0 : Int), Go.Value.int IntKind.i64 (0 : Int)])).cells 2) 0 [AV.int IntKind.i64 x14_4, AV.int IntKind.i64 x15_4]) (x10_4) (x11_4) (x12_4) (x13_4)))
 (fun _ _ _ _ _ _ _ _ _ _ _ _ _ _ _ _ => none) (x0_2) (shut (IntKind.i64.wrap (x0_2 + (1 : Int)))) ((0 : Int)) (x7_2) (x1_2) (x2_2) (x3_2) (x4_2) (x5_2) (x6_2) (x7_2) (x8_2) (x9_2) (x10_2) ((-1 : Int)) (x0_2))
 (
 some ([RLeaf.fz x5_2 x6_2, RLeaf.v (AV.int IntKind.i64 (0 : Int))])))
 (fun _ _ _ _ _ _ _ _ _ _ _ => none) (c) (0) ([]) (3) (putCells (putCells (putCells (zrow (ofV (Go.Value.int IntKind.i64 (0 : Int))).cells 3) 0 [AV.int IntKind.i64 (shut (if a < (1 : Int) ∨ a > (256 : Int) then (3 : Int) else (0 : Int)))]) 1 [AV.int IntKind.i64 (shut (if b < (0 : Int) ∨ b > (4096 : Int) then (3 : Int) else (0 : Int)))]) 2 [AV.int IntKind.i64 (shut (if c < (0 : Int) ∨ c > b then (3 : Int) else if d < (0 : Int) ∨ d > b then (3 : Int) else if d < c then (11 : Int) else (0 : Int)))]) (0) ([]) (a) (b) (c) (d))) := by kernel_rfl

theorem run_32 (N : Nat) (a b c d : Int) : (fsM mzC waysP N 12).call (List RLeaf) 32 [.ofB (.int .i64 a), .ofB (.int .i64 b), .ofB (.int .i64 c), .ofB (.int .i64 d)] [] (resK [true]) = (
 loopC N (fun r_0 (x0_0 : Int) (x1_0 : Int) (x2_0 : Int) (x3_0 : Int) (x4_0 : Nat) (x5_0 : List AV) (x6_0 : Nat) (x7_0 : List AV) =>
 condO (shut (decide (x2_0 < x3_0)))
 (
 loopC N (fun r_2 (x0_2 : Int) (x1_2 : Int) (x2_2 : Int) (x3_2 : Int) (x4_2 : Int) (x5_2 : Int) (x6_2 : Nat) (x7_2 : List AV) (x8_2 : Nat) (x9_2 : List AV) (x10_2 : Int) (x11_2 : Int) =>
 guardO (shut (decide ((1 : Int) ≤ x0_2 ∧ x0_2 ≤ (256 : Int) ∧ (0 : Int) ≤ x1_2 ∧ x1_2 ≤ (4096 : Int)))) <|
 condO (shut (decide (x5_2 < shut (↑(levN x0_2 x1_2) : Int))))
 (
 guardO (shut (decide (x4_2 ≠ (0 : Int)))) <|
 condO (shut (shut (x2_2.tmod x4_2) == (0 : Int)))
 (
 guardO (shut (decide (x4_2 ≠ (0 : Int)))) <|
 guardO (shut (decide ((1 : Int) ≤ x0_2 ∧ x0_2 ≤ (256 : Int) ∧ (0 : Int) ≤ x1_2 ∧ x1_2 ≤ (4096 : Int) ∧ x5_2 ≤ (13 : Int) ∧ (0 : Int) ≤ shut (IntKind.i64.wrap (x2_2.tdiv x4_2)) ∧ shut (IntKind.i64.wrap (x2_2.tdiv x4_2)) ≤ (4096 : Int)))) <|
 condO (shut (decide (shut (endsL x0_2 x1_2 x5_2 (shut (IntKind.i64.wrap (x2_2.tdiv x4_2)))).snd ≤ x3_2)))
 (
 r_2 (x0_2) (x1_2) (x2_2) (x3_2) (shut (IntKind.i64.wrap ((2 : Int) * x4_2))) (shut (IntKind.i64.wrap (x5_2 + (1 : Int)))) (x6_2) (x7_2) (x8_2) (x9_2) (x5_2) (shut (IntKind.i64.wrap (x2_2.tdiv x4_2))))
 (
 r_2 (x0_2) (x1_2) (x2_2) (x3_2) (shut (IntKind.i64.wrap ((2 : Int) * x4_2))) (shut (IntKind.i64.wrap (x5_2 + (1 : Int)))) (x6_2) (x7_2) (x8_2) (x9_2) (x10_2) (x11_2)))
 (
 r_2 (x0_2) (x1_2) (x2_2) (x3_2) (shut (IntKind.i64.wrap ((2 : Int) * x4_2))) (shut (IntKind.i64.wrap (x5_2 + (1 : Int)))) (x6_2) (x7_2) (x8_2) (x9_2) (x10_2) (x11_2)))
 (
 guardO (shut (decide ((x8_2 + 1) * 17 ≤ 549755813888))) <|
 guardO (shut (decide ((1 : Int) ≤ x0_2 ∧ x0_2 ≤ (256 : Int) ∧ (0 : Int) ≤ x1_2 ∧ x1_2 ≤ (4096 : Int) ∧ x10_2 ≤ (13 : Int) ∧ (0 : Int) ≤ x11_2 ∧ x11_2 ≤ (4096 : Int)))) <|
 r_0 (x0_2) (x1_2) (shut (endsL x0_2 x1_2 x10_2 x11_2).snd) (x3_2) (x6_2) (x7_2) (x8_2 + 1) (x9_2 ++ putCells (zrow (ofV (Go.Value.agg #[Go.Value.int IntKind.i64 (0 : Int), Go.Value.int IntKind.i64 (0 : Int)])).cells 2) 0 [AV.int IntKind.i64 x10_2, AV.int IntKind.i64 x11_2])))
 (fun _ _ _ _ _ _ _ _ _ _ _ _ => none) (x0_0) (x1_0) (x2_0) (x3_0) (x0_0) ((0 : Int)) (x4_0) (x5_0) (x6_0) (x7_0) ((-1 : Int)) (x2_0))
 (
 some ([RLeaf.fz x6_0 x7_0])))
 (fun _ _ _ _ _ _ _ _ => none) (a) (b) (c) (d) (0) ([]) (0) ([])) := by kernel_rfl


end Go.Abs
end

