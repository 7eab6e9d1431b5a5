/- Part 30 of the library that the proof of the statement uses: an abstract run of the program, proved right, and what its functions give. -/
import Derived.Test.YtkloadomnblkeaaGreatDoorBd29
set_option linter.unusedVariables false
set_option linter.unusedSimpArgs false

section
/- The checks of pyramids, lifted (printed by the tool gen2.py). -/
set_option maxRecDepth 100000
set_option linter.unusedVariables false
namespace Go.Abs
open Go.Proofs Classical

theorem run_29 (N : Nat) (n : Nat) (cs : List AV) (b : Int) (m : Nat) (ls : List AV) : (fsM mzM waysQ N 12).call (List RLeaf) 29 [.ofB (.list n cs), .s (.agg [.b (.int .i64 b), .b (.list m ls)])] [] (resK [false]) = (
 guardO (shut (decide (Flos n cs))) <|
 condO (shut (shut (sampErr n (flosOf cs)) == (0 : Int)))
 (
 condO (shut (shut (if b < (1 : Int) ∨ b > (256 : Int) then (3 : Int) else (0 : Int)) != (0 : Int)))
 (
 some ([RLeaf.v (AV.int IntKind.i64 (shut (if b < (1 : Int) ∨ b > (256 : Int) then (3 : Int) else (0 : Int))))]))
 (
 guardO (shut (decide (Flos n cs ∧ n ≤ 5000 ∧ (1 : Int) ≤ b ∧ b ≤ (10000 : Int)))) <|
 condO (shut ((↑(shut (refLv (flosOf cs) b.toNat).length) : Int) != (↑m : Int)))
 (
 some ([RLeaf.v (AV.int IntKind.i64 (2 : Int))]))
 (
 loopC N (fun r_5 (x0_5 : Int) (x1_5 : Int) (x2_5 : Nat) (x3_5 : List AV) (x4_5 : Nat) (x5_5 : List AV) (x6_5 : Int) (x7_5 : Nat) (x8_5 : List AV) =>
 condO (shut (decide (x0_5 < (↑x7_5 : Int))))
 (
 guardO (shut (decide ((0 : Int) ≤ x0_5 ∧ x0_5 < (↑x7_5 : Int) ∧ 0 < x8_5.length))) <|
 bindO (asList (x8_5.getD (x0_5.toNat * 1) AV.top)) fun v8 =>
 guardO (shut (decide ((0 : Int) ≤ x0_5 ∧ x0_5 < (↑x2_5 : Int) ∧ 0 < x3_5.length))) <|
 bindO (asList (x3_5.getD (x0_5.toNat * 1) AV.top)) fun v10 =>
 condO (shut ((↑v8.fst : Int) != (↑v10.fst : Int)))
 (
 some ([RLeaf.v (AV.int IntKind.i64 (2 : Int))]))
 (
 r_5 (shut (IntKind.i64.wrap (x0_5 + (1 : Int)))) (x1_5) (x2_5) (x3_5) (x4_5) (x5_5) (x6_5) (x7_5) (x8_5)))
 (
 loopC N (fun r_7 (x0_7 : Int) (x1_7 : Int) (x2_7 : Nat) (x3_7 : List AV) (x4_7 : Nat) (x5_7 : List AV) (x6_7 : Int) (x7_7 : Nat) (x8_7 : List AV) =>
 condO (shut (decide (x0_7 < (↑x2_7 : Int))))
 (
 loopC N (fun r_9 (x0_9 : Int) (x1_9 : Int) (x2_9 : Int) (x3_9 : Nat) (x4_9 : List AV) (x5_9 : Nat) (x6_9 : List AV) (x7_9 : Int) (x8_9 : Nat) (x9_9 : List AV) =>
 guardO (shut (decide ((0 : Int) ≤ x0_9 ∧ x0_9 < (↑x3_9 : Int) ∧ 0 < x4_9.length))) <|
 bindO (asList (x4_9.getD (x0_9.toNat * 1) AV.top)) fun v11 =>
 condO (shut (decide (x1_9 < (↑v11.fst : Int))))
 (
 joinC N (
 (fun (y0_13 : Int) (y1_13 : Int) (y2_13 : Bool) (y3_13 : Int) (y4_13 : Nat) (y5_13 : List AV) (y6_13 : Nat) (y7_13 : List AV) (y8_13 : Int) (y9_13 : Nat) (y10_13 : List AV) =>
 condO (y2_13)
 (
 some ([RLeaf.v (AV.int IntKind.i64 (1 : Int))]))
 (
 r_9 (y0_13) (shut (IntKind.i64.wrap (y1_13 + (1 : Int)))) (y3_13) (y4_13) (y5_13) (y6_13) (y7_13) (y8_13) (y9_13) (y10_13))), PUnit.unit) fun k_13 =>
 guardO (shut (decide ((0 : Int) ≤ x0_9 ∧ x0_9 < (↑x3_9 : Int) ∧ 0 < x4_9.length))) <|
 bindO (asList (x4_9.getD (x0_9.toNat * 1) AV.top)) fun v15 =>
 guardO (shut (decide ((0 : Int) ≤ x1_9 ∧ x1_9 < (↑v15.fst : Int) ∧ 0 < v15.snd.length))) <|
 bindO (asFloat Go.FloatKind.f32 (v15.snd.getD (x1_9.toNat * 2 + 0) AV.top)) fun v17 =>
 bindO (
 condO (!shut (finB v17))
 (
 some (true))
 (
 guardO (shut (decide ((0 : Int) ≤ x0_9 ∧ x0_9 < (↑x3_9 : Int) ∧ 0 < x4_9.length))) <|
 bindO (asList (x4_9.getD (x0_9.toNat * 1) AV.top)) fun v21 =>
 guardO (shut (decide ((0 : Int) ≤ x1_9 ∧ x1_9 < (↑v21.fst : Int) ∧ 0 < v21.snd.length))) <|
 bindO (asFloat Go.FloatKind.f32 (v21.snd.getD (x1_9.toNat * 2 + 1) AV.top)) fun v23 =>
 some (!shut (finB v23)))) fun v18 =>
 k_13.1 (x0_9) (x1_9) (v18) (x2_9) (x3_9) (x4_9) (x5_9) (x6_9) (x7_9) (x8_9) (x9_9))
 (
 r_7 (shut (IntKind.i64.wrap (x0_9 + (1 : Int)))) (x2_9) (x3_9) (x4_9) (x5_9) (x6_9) (x7_9) (x8_9) (x9_9)))
 (fun _ _ _ _ _ _ _ _ _ _ => none) (x0_7) ((0 : Int)) (x1_7) (x2_7) (x3_7) (x4_7) (x5_7) (x6_7) (x7_7) (x8_7))
 (
 guardO (shut (decide (Lvs x7_7 x8_7 ∧ Lvs x2_7 x3_7))) <|
 condO (!shut (decide (x6_7 = x1_7) && decide (x7_7 = x2_7) && sameT x7_7 x8_7 x3_7))
 (
 some ([RLeaf.v (AV.int IntKind.i64 (21 : Int))]))
 (
 some ([RLeaf.v (AV.int IntKind.i64 (0 : Int))]))))
 (fun _ _ _ _ _ _ _ _ _ => none) ((0 : Int)) (x1_5) (x2_5) (x3_5) (x4_5) (x5_5) (x6_5) (x7_5) (x8_5)))
 (fun _ _ _ _ _ _ _ _ _ => none) ((0 : Int)) (b) (m) (ls) (0) ([]) (shut b) (shut (refLv (flosOf cs) b.toNat).length) (shut (lvCells (refLv (flosOf cs) b.toNat))))))
 (
 condO (shut (shut (sampErr n (flosOf cs)) != (0 : Int)))
 (
 some ([RLeaf.v (AV.int IntKind.i64 (shut (sampErr n (flosOf cs))))]))
 (
 guardO (shut (decide (Flos n cs ∧ n ≤ 5000 ∧ (1 : Int) ≤ b ∧ b ≤ (10000 : Int)))) <|
 condO (shut ((↑(shut (refLv (flosOf cs) b.toNat).length) : Int) != (↑m : Int)))
 (
 some ([RLeaf.v (AV.int IntKind.i64 (2 : Int))]))
 (
 loopC N (fun r_5 (x0_5 : Int) (x1_5 : Int) (x2_5 : Nat) (x3_5 : List AV) (x4_5 : Nat) (x5_5 : List AV) (x6_5 : Int) (x7_5 : Nat) (x8_5 : List AV) =>
 condO (shut (decide (x0_5 < (↑x7_5 : Int))))
 (
 guardO (shut (decide ((0 : Int) ≤ x0_5 ∧ x0_5 < (↑x7_5 : Int) ∧ 0 < x8_5.length))) <|
 bindO (asList (x8_5.getD (x0_5.toNat * 1) AV.top)) fun v8 =>
 guardO (shut (decide ((0 : Int) ≤ x0_5 ∧ x0_5 < (↑x2_5 : Int) ∧ 0 < x3_5.length))) <|
 bindO (asList (x3_5.getD (x0_5.toNat * 1) AV.top)) fun v10 =>
 condO (shut ((↑v8.fst : Int) != (↑v10.fst : Int)))
 (
 some ([RLeaf.v (AV.int IntKind.i64 (2 : Int))]))
 (
 r_5 (shut (IntKind.i64.wrap (x0_5 + (1 : Int)))) (x1_5) (x2_5) (x3_5) (x4_5) (x5_5) (x6_5) (x7_5) (x8_5)))
 (
 loopC N (fun r_7 (x0_7 : Int) (x1_7 : Int) (x2_7 : Nat) (x3_7 : List AV) (x4_7 : Nat) (x5_7 : List AV) (x6_7 : Int) (x7_7 : Nat) (x8_7 : List AV) =>
 condO (shut (decide (x0_7 < (↑x2_7 : Int))))
 (
 loopC N (fun r_9 (x0_9 : Int) (x1_9 : Int) (x2_9 : Int) (x3_9 : Nat) (x4_9 : List AV) (x5_9 : Nat) (x6_9 : List AV) (x7_9 : Int) (x8_9 : Nat) (x9_9 : List AV) =>
 guardO (shut (decide ((0 : Int) ≤ x0_9 ∧ x0_9 < (↑x3_9 : Int) ∧ 0 < x4_9.length))) <|
 bindO (asList (x4_9.getD (x0_9.toNat * 1) AV.top)) fun v11 =>
 condO (shut (decide (x1_9 < (↑v11.fst : Int))))
 (
 joinC N (
 (fun (y0_13 : Int) (y1_13 : Int) (y2_13 : Bool) (y3_13 : Int) (y4_13 : Nat) (y5_13 : List AV) (y6_13 : Nat) (y7_13 : List AV) (y8_13 : Int) (y9_13 : Nat) (y10_13 : List AV) =>
 condO (y2_13)
 (
 some ([RLeaf.v (AV.int IntKind.i64 (1 : Int))]))
 (
 r_9 (y0_13) (shut (IntKind.i64.wrap (y1_13 + (1 : Int)))) (y3_13) (y4_13) (y5_13) (y6_13) (y7_13) (y8_13) (y9_13) (y10_13))), PUnit.unit) fun k_13 =>
 guardO (shut (decide ((0 : Int) ≤ x0_9 ∧ x0_9 < (↑x3_9 : Int) ∧ 0 < x4_9.length))) <|
 bindO (asList (x4_9.getD (x0_9.toNat * 1) AV.top)) fun v15 =>
 guardO (shut (decide ((0 : Int) ≤ x1_9 ∧ x1_9 < (↑v15.fst : Int) ∧ 0 < v15.snd.length))) <|
 bindO (asFloat Go.FloatKind.f32 (v15.snd.getD (x1_9.toNat * 2 + 0) AV.top)) fun v17 =>
 bindO (
 condO (!shut (finB v17))
 (
 some (true))
 (
 guardO (shut (decide ((0 : Int) ≤ x0_9 ∧ x0_9 < (↑x3_9 : Int) ∧ 0 < x4_9.length))) <|
 bindO (asList (x4_9.getD (x0_9.toNat * 1) AV.top)) fun v21 =>
 guardO (shut (decide ((0 : Int) ≤ x1_9 ∧ x1_9 < (↑v21.fst : Int) ∧ 0 < v21.snd.length))) <|
 bindO (asFloat Go.FloatKind.f32 (v21.snd.getD (x1_9.toNat * 2 + 1) AV.top)) fun v23 =>
 some (!shut (finB v23)))) fun v18 =>
 k_13.1 (x0_9) (x1_9) (v18) (x2_9) (x3_9) (x4_9) (x5_9) (x6_9) (x7_9) (x8_9) (x9_9))
 (
 r_7 (shut (IntKind.i64.wrap (x0_9 + (1 : Int)))) (x2_9) (x3_9) (x4_9) (x5_9) (x6_9) (x7_9) (x8_9) (x9_9)))
 (fun _ _ _ _ _ _ _ _ _ _ => none) (x0_7) ((0 : Int)) (x1_7) (x2_7) (x3_7) (x4_7) (x5_7) (x6_7) (x7_7) (x8_7))
 (
 guardO (shut (decide (Lvs x7_7 x8_7 ∧ Lvs x2_7 x3_7))) <|
 condO (!shut (decide (x6_7 = x1_7) && decide (x7_7 = x2_7) && sameT x7_7 x8_7 x3_7))
 (
 some ([RLeaf.v (AV.int IntKind.i64 (21 : Int))]))
 (
 some ([RLeaf.v (AV.int IntKind.i64 (0 : Int))]))))
 (fun _ _ _ _ _ _ _ _ _ => none) ((0 : Int)) (x1_5) (x2_5) (x3_5) (x4_5) (x5_5) (x6_5) (x7_5) (x8_5)))
 (fun _ _ _ _ _ _ _ _ _ => none) ((0 : Int)) (b) (m) (ls) (0) ([]) (shut b) (shut (refLv (flosOf cs) b.toNat).length) (shut (lvCells (refLv (flosOf cs) b.toNat))))))) := by kernel_rfl


end Go.Abs
end

