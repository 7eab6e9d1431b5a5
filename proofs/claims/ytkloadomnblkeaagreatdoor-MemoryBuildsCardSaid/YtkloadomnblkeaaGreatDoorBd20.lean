/- Part 20 of the library that the proof of the statement uses: an abstract run of the program, proved right, and what its functions give. -/
import Derived.Test.YtkloadomnblkeaaGreatDoorBd19
set_option linter.unusedVariables false
set_option linter.unusedSimpArgs false

section
/- The levels of a pyramid, lifted (printed by the tool gen2.py). -/
set_option maxRecDepth 100000
set_option linter.unusedVariables false
namespace Go.Abs
open Go.Proofs Classical

theorem run_85 (N : Nat) (n : Nat) (cs : List AV) (b : Int) : (fsM mzI waysP N 12).call (List RLeaf) 85 [.ofB (.list n cs), .ofB (.int .i64 b)] [] (resK [false]) = (
 condO (shut ((↑n : Int) == (0 : Int)))
 (
 some ([RLeaf.v (AV.list 0 [])]))
 (
 guardO (shut (decide (Flos n cs ∧ n ≤ 100000 ∧ FinL (flosOf cs) ∧ (1 : Int) ≤ b ∧ b ≤ (100000 : Int)))) <|
 guardO (shut (decide ((0 : Int) ≤ (0 : Int) ∧ (0 : Int) < (↑1 : Int)))) <|
 guardO (shut !(false && Nat.beq 1 (0 : Nat))) <|
 loopC N (fun r_4 (x0_4 : Nat) (x1_4 : List AV) (x2_4 : Nat) (x3_4 : List AV) (x4_4 : Nat) (x5_4 : List AV) =>
 condO (shut (decide ((↑x0_4 : Int) > (1 : Int))))
 (
 guardO (shut (decide (Flos (2 * x0_4) x1_4 ∧ x0_4 ≤ 100000 ∧ FinL (flosOf x1_4) ∧ (1 : Int) ≤ (2 : Int) ∧ (2 : Int) ≤ (100000 : Int)))) <|
 guardO (shut (decide ((x4_4 + 1) * 25 ≤ 549755813888))) <|
 r_4 (shut ((grpF 2 0 [] (pairsF (flosOf x1_4))).length / 2)) (shut (flosL (grpF 2 0 [] (pairsF (flosOf x1_4))))) (x2_4) (x3_4) (x4_4 + 1) (x5_4 ++ putCells (zrow (ofV (Go.Value.slice Option.none 0 0)).cells 1) 0 [AV.list (shut ((grpF 2 0 [] (pairsF (flosOf x1_4))).length / 2)) (shut (flosL (grpF 2 0 [] (pairsF (flosOf x1_4)))))]))
 (
 some ([RLeaf.v (AV.list x4_4 x5_4)])))
 (fun _ _ _ _ _ _ => none) (shut ((grpF b.toNat 0 [] (dupC (flosOf cs))).length / 2)) (shut (flosL (grpF b.toNat 0 [] (dupC (flosOf cs))))) (0) ([]) (1) (putCells (zrow (ofV (Go.Value.slice Option.none 0 0)).cells 1) 0 [AV.list (shut ((grpF b.toNat 0 [] (dupC (flosOf cs))).length / 2)) (shut (flosL (grpF b.toNat 0 [] (dupC (flosOf cs)))))]))) := by kernel_rfl


end Go.Abs
end

