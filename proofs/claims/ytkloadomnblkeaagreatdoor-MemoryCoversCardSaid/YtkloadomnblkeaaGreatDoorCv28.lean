/- Part 28 of the library that the proof of the statement uses: an abstract run of the program, proved right, and what its functions give. -/
import Derived.Test.YtkloadomnblkeaaGreatDoorCv27
set_option linter.unusedVariables false
set_option linter.unusedSimpArgs false

section
/- Functions of the Memory seat, lifted (printed by the tool gen2.py). -/
set_option maxRecDepth 100000
set_option linter.unusedVariables false
namespace Go.Abs
open Go.Proofs Classical

theorem run_158 (N : Nat) (a b : Int) : (fsM mzA waysP N 8).call (List RLeaf) 158 [.ofB (.int .u64 a), .ofB (.int .u64 b)] [] (resK [false, false]) = (
 guardO (shut (decide ((0 : Int) ≤ a ∧ a < (18446744073709551616 : Int) ∧ (0 : Int) ≤ b ∧ b < (18446744073709551616 : Int)))) <|
 some ([RLeaf.v (AV.int IntKind.u64 (shut (a * b / (18446744073709551616 : Int)))), RLeaf.v (AV.int IntKind.u64 (shut (a * b % (18446744073709551616 : Int))))])) := by kernel_rfl

theorem run_121 (N : Nat) (a n : Int) : (fsM mzA waysP N 8).call (List RLeaf) 121 [.ofB (.list 1 [.int .u16 a]), .ofB (.int .i64 n)] [] (resK [true]) = (
 condO (shut (decide (n < (0 : Int))))
 (
 none)
 (
 guardO (shut (decide ((0 : Int) ≤ shut (IntKind.u64.wrap (↑1 : Int)) ∧ shut (IntKind.u64.wrap (↑1 : Int)) < (18446744073709551616 : Int) ∧ (0 : Int) ≤ shut (IntKind.u64.wrap n) ∧ shut (IntKind.u64.wrap n) < (18446744073709551616 : Int)))) <|
 bindO (
 condO (shut (decide (shut (shut (IntKind.u64.wrap (↑1 : Int)) * shut (IntKind.u64.wrap n) / (18446744073709551616 : Int)) > (0 : Int))))
 (
 some (true))
 (
 some (shut (decide (shut (shut (IntKind.u64.wrap (↑1 : Int)) * shut (IntKind.u64.wrap n) % (18446744073709551616 : Int)) > (9223372036854775807 : Int)))))) fun v2 =>
 condO (v2)
 (
 none)
 (
 guardO (shut (decide ((0 : Int) ≤ shut (IntKind.i64.wrap (shut (shut (IntKind.u64.wrap (↑1 : Int)) * shut (IntKind.u64.wrap n) % (18446744073709551616 : Int)))) ∧ shut (IntKind.i64.wrap (shut (shut (IntKind.u64.wrap (↑1 : Int)) * shut (IntKind.u64.wrap n) % (18446744073709551616 : Int)))) ≤ shut (IntKind.i64.wrap (shut (shut (IntKind.u64.wrap (↑1 : Int)) * shut (IntKind.u64.wrap n) % (18446744073709551616 : Int)))) ∧ shut (IntKind.i64.wrap (shut (shut (IntKind.u64.wrap (↑1 : Int)) * shut (IntKind.u64.wrap n) % (18446744073709551616 : Int)))) ≤ (281474976710656 : Int) ∧ (↑2 : Int) * shut (IntKind.i64.wrap (shut (shut (IntKind.u64.wrap (↑1 : Int)) * shut (IntKind.u64.wrap n) % (18446744073709551616 : Int)))) ≤ (281474976710656 : Int)))) <|
 guardO (shut (decide (1 = 1))) <|
 loopC N (fun r_6 (x0_6 : Int) (x1_6 : Nat) (x2_6 : List AV) (x3_6 : Nat) (x4_6 : List AV) =>
 condO (shut (decide (x0_6 < (↑x3_6 : Int))))
 (
 guardO (shut (decide ((0 : Int) ≤ x0_6 ∧ x0_6 ≤ (↑x3_6 : Int) ∧ (↑x3_6 : Int) ≤ (↑x3_6 : Int)))) <|
 guardO (shut (decide ((0 : Int) ≤ (0 : Int) ∧ (0 : Int) ≤ x0_6 ∧ x0_6 ≤ (↑x3_6 : Int)))) <|
 r_6 (shut (IntKind.i64.wrap (x0_6 + shut (↑((x0_6.toNat - 0).min ((↑x3_6 : Int).toNat - x0_6.toNat)) : Int)))) (x1_6) (x2_6) (x3_6) (putCells x4_6 (x0_6.toNat * 1) (List.take ((x0_6.toNat - 0).min ((↑x3_6 : Int).toNat - x0_6.toNat) * 1) (List.take ((x0_6.toNat - 0) * 1) (List.drop 0 x4_6)))))
 (
 some ([RLeaf.fz x3_6 x4_6])))
 (fun _ _ _ _ _ => none) (shut (↑(Nat.min 1 (shut (IntKind.i64.wrap (shut (shut (IntKind.u64.wrap (↑1 : Int)) * shut (IntKind.u64.wrap n) % (18446744073709551616 : Int))))).toNat) : Int)) (0) ([]) ((shut (IntKind.i64.wrap (shut (shut (IntKind.u64.wrap (↑1 : Int)) * shut (IntKind.u64.wrap n) % (18446744073709551616 : Int))))).toNat) (putCells (zrow (ofV (Go.Value.int IntKind.u16 (0 : Int))).cells ((shut (IntKind.i64.wrap (shut (shut (IntKind.u64.wrap (↑1 : Int)) * shut (IntKind.u64.wrap n) % (18446744073709551616 : Int))))).toNat * 1)) 0 (List.take (Nat.min 1 (shut (IntKind.i64.wrap (shut (shut (IntKind.u64.wrap (↑1 : Int)) * shut (IntKind.u64.wrap n) % (18446744073709551616 : Int))))).toNat * 1) [AV.int IntKind.u16 a]))))) := by kernel_rfl


end Go.Abs
end

