/- Part 25 of the library that the proof of the statement uses: an abstract run of the program, proved right, and what its functions give. -/
import Derived.Test.YtkloadomnblkeaaGreatDoorBd24
set_option linter.unusedVariables false
set_option linter.unusedSimpArgs false

section
/- Functions of the Memory seat, lifted (printed by the tool gen2.py). -/
set_option maxRecDepth 100000
set_option linter.unusedVariables false
namespace Go.Abs
open Go.Proofs Classical

theorem run_38 (N : Nat) (n : Nat) (cs : List AV) : (fsM mzC waysP N 12).call (List RLeaf) 38 [.ofB (.list n cs)] [] (resK [false]) = (
 guardO (shut (decide ((0 : Int) ≤ (0 : Int) ∧ (0 : Int) < (↑n : Int) ∧ 0 < cs.length))) <|
 bindO (asFloat Go.FloatKind.f32 (cs.getD 0 AV.top)) fun v1 =>
 guardO (shut (decide ((0 : Int) ≤ (0 : Int) ∧ (0 : Int) < (↑n : Int) ∧ 0 < cs.length))) <|
 bindO (asFloat Go.FloatKind.f32 (cs.getD 0 AV.top)) fun v3 =>
 loopC N (fun r_4 (x0_4 : Nat) (x1_4 : List AV) (x2_4 : Int) (x3_4 : Option Nat) (x4_4 : Option Nat) (x5_4 : Option Nat) (x6_4 : Option Nat) =>
 condO (shut (decide (x2_4 < (↑x0_4 : Int))))
 (
 guardO (shut (decide ((0 : Int) ≤ x2_4 ∧ x2_4 < (↑x0_4 : Int) ∧ 0 < x1_4.length))) <|
 bindO (asFloat Go.FloatKind.f32 (x1_4.getD (x2_4.toNat * 1) AV.top)) fun v7 =>
 condO (shut (ordO Go.FloatKind.f32 v7 x5_4 == Option.some Ordering.lt))
 (
 guardO (shut (decide ((0 : Int) ≤ x2_4 ∧ x2_4 < (↑x0_4 : Int) ∧ 0 < x1_4.length))) <|
 bindO (asFloat Go.FloatKind.f32 (x1_4.getD (x2_4.toNat * 1) AV.top)) fun v10 =>
 guardO (shut (decide ((0 : Int) ≤ x2_4 ∧ x2_4 < (↑x0_4 : Int) ∧ 0 < x1_4.length))) <|
 bindO (asFloat Go.FloatKind.f32 (x1_4.getD (x2_4.toNat * 1) AV.top)) fun v12 =>
 condO (shut (ordO Go.FloatKind.f32 v12 x6_4 == Option.some Ordering.gt))
 (
 guardO (shut (decide ((0 : Int) ≤ x2_4 ∧ x2_4 < (↑x0_4 : Int) ∧ 0 < x1_4.length))) <|
 bindO (asFloat Go.FloatKind.f32 (x1_4.getD (x2_4.toNat * 1) AV.top)) fun v15 =>
 r_4 (x0_4) (x1_4) (shut (IntKind.i64.wrap (x2_4 + (1 : Int)))) (x3_4) (x4_4) (v10) (v15))
 (
 r_4 (x0_4) (x1_4) (shut (IntKind.i64.wrap (x2_4 + (1 : Int)))) (x3_4) (x4_4) (v10) (x6_4)))
 (
 guardO (shut (decide ((0 : Int) ≤ x2_4 ∧ x2_4 < (↑x0_4 : Int) ∧ 0 < x1_4.length))) <|
 bindO (asFloat Go.FloatKind.f32 (x1_4.getD (x2_4.toNat * 1) AV.top)) fun v10 =>
 condO (shut (ordO Go.FloatKind.f32 v10 x6_4 == Option.some Ordering.gt))
 (
 guardO (shut (decide ((0 : Int) ≤ x2_4 ∧ x2_4 < (↑x0_4 : Int) ∧ 0 < x1_4.length))) <|
 bindO (asFloat Go.FloatKind.f32 (x1_4.getD (x2_4.toNat * 1) AV.top)) fun v13 =>
 r_4 (x0_4) (x1_4) (shut (IntKind.i64.wrap (x2_4 + (1 : Int)))) (x3_4) (x4_4) (x5_4) (v13))
 (
 r_4 (x0_4) (x1_4) (shut (IntKind.i64.wrap (x2_4 + (1 : Int)))) (x3_4) (x4_4) (x5_4) (x6_4))))
 (
 some ([RLeaf.v (AV.agg [AV.flo Go.FloatKind.f32 x5_4, AV.flo Go.FloatKind.f32 x6_4])])))
 (fun _ _ _ _ _ _ _ => none) (n) (cs) ((0 : Int)) (Option.some 0) (Option.some 0) (v1) (v3)) := by kernel_rfl

end Go.Abs
end

