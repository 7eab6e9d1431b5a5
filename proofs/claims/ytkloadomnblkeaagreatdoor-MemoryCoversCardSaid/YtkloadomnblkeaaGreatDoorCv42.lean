/- Part 42 of the library that the proof of the statement uses: an abstract run of the program, proved right, and what its functions give. -/
import Derived.Test.YtkloadomnblkeaaGreatDoorCv41
set_option linter.unusedVariables false
set_option linter.unusedSimpArgs false

section
/- Functions of the Memory seat, lifted (printed by the tool gen2.py). -/
set_option maxRecDepth 100000
set_option linter.unusedVariables false
namespace Go.Abs
open Go.Proofs Classical

theorem run_4 (N : Nat) (a n f t : Int) : (fsM mzD waysP N 12).call (List RLeaf) 4 [.ofB (.int .i64 a), .ofB (.int .i64 n), .s (.agg [.b (.int .i64 f), .b (.int .i64 t)])] [] (resK [false]) = (
 bindO (
 condO (shut (decide (shut (IntKind.i64.wrap (t - f)) > (300 : Int))))
 (
 some (shut (decide (f ≥ (0 : Int)))))
 (
 some (false))) fun v0 =>
 bindO (
 condO (v0)
 (
 some (shut (decide (t ≤ (4096 : Int)))))
 (
 some (false))) fun v1 =>
 condO (v1)
 (
 some ([RLeaf.v (AV.bool true)]))
 (
 bindO (
 condO (shut (shut (if a < (1 : Int) ∨ a > (256 : Int) then (3 : Int) else (0 : Int)) == (0 : Int)))
 (
 condO (shut (decide (n < (0 : Int))))
 (
 some (true))
 (
 some (shut (decide (n > (4096 : Int))))))
 (
 some (false))) fun v3 =>
 condO (v3)
 (
 condO (shut ((3 : Int) == (0 : Int)))
 (
 condO (shut (shut (if f < (0 : Int) ∨ f > n ∨ t < (0 : Int) ∨ t > n then (3 : Int) else if t < f then (11 : Int) else (0 : Int)) == (0 : Int)))
 (
 guardO (shut (decide ((1 : Int) ≤ a ∧ a ≤ (256 : Int) ∧ (0 : Int) ≤ n ∧ n ≤ (4096 : Int) ∧ (0 : Int) ≤ f ∧ t ≤ n ∧ f ≤ t))) <|
 guardO (shut (decide (Prs (shut ((covL a n f t).length / 2)) (shut (numsL IntKind.i64 (covL a n f t)))))) <|
 guardO (shut (decide (Prs (shut (shut ((covL a n f t).length / 2))) (shut (shut (numsL IntKind.i64 (covL a n f t)))) ∧ Prs (shut ((coverL a n t 4097 f).length / 2)) (shut (numsL IntKind.i64 (coverL a n t 4097 f)))))) <|
 bindO (
 condO (shut (decide (intsOf (shut (shut (numsL IntKind.i64 (covL a n f t)))) = intsOf (shut (numsL IntKind.i64 (coverL a n t 4097 f))))))
 (
 some (shut (shut (covE a n f t) == shut (if f < (0 : Int) ∨ f > n ∨ t < (0 : Int) ∨ t > n then (3 : Int) else if t < f then (11 : Int) else (0 : Int)))))
 (
 some (false))) fun v10 =>
 bindO (
 condO (v10)
 (
 some (true))
 (
 some (false))) fun v11 =>
 some ([RLeaf.v (AV.bool v11)]))
 (
 guardO (shut (decide (Prs (shut ((covL a n f t).length / 2)) (shut (numsL IntKind.i64 (covL a n f t)))))) <|
 guardO (shut (decide (Prs (shut (shut ((covL a n f t).length / 2))) (shut (shut (numsL IntKind.i64 (covL a n f t)))) ∧ Prs 0 []))) <|
 bindO (
 condO (shut (decide (intsOf (shut (shut (numsL IntKind.i64 (covL a n f t)))) = intsOf [])))
 (
 some (shut (shut (covE a n f t) == shut (if f < (0 : Int) ∨ f > n ∨ t < (0 : Int) ∨ t > n then (3 : Int) else if t < f then (11 : Int) else (0 : Int)))))
 (
 some (false))) fun v9 =>
 bindO (
 condO (v9)
 (
 some (true))
 (
 some (false))) fun v10 =>
 some ([RLeaf.v (AV.bool v10)])))
 (
 condO (shut ((3 : Int) == (0 : Int)))
 (
 guardO (shut (decide ((1 : Int) ≤ a ∧ a ≤ (256 : Int) ∧ (0 : Int) ≤ n ∧ n ≤ (4096 : Int) ∧ (0 : Int) ≤ f ∧ t ≤ n ∧ f ≤ t))) <|
 guardO (shut (decide (Prs (shut ((covL a n f t).length / 2)) (shut (numsL IntKind.i64 (covL a n f t)))))) <|
 guardO (shut (decide (Prs (shut (shut ((covL a n f t).length / 2))) (shut (shut (numsL IntKind.i64 (covL a n f t)))) ∧ Prs (shut ((coverL a n t 4097 f).length / 2)) (shut (numsL IntKind.i64 (coverL a n t 4097 f)))))) <|
 bindO (
 condO (shut (decide (intsOf (shut (shut (numsL IntKind.i64 (covL a n f t)))) = intsOf (shut (numsL IntKind.i64 (coverL a n t 4097 f))))))
 (
 some (shut (shut (covE a n f t) == (3 : Int))))
 (
 some (false))) fun v10 =>
 bindO (
 condO (v10)
 (
 some (true))
 (
 some (false))) fun v11 =>
 some ([RLeaf.v (AV.bool v11)]))
 (
 guardO (shut (decide (Prs (shut ((covL a n f t).length / 2)) (shut (numsL IntKind.i64 (covL a n f t)))))) <|
 guardO (shut (decide (Prs (shut (shut ((covL a n f t).length / 2))) (shut (shut (numsL IntKind.i64 (covL a n f t)))) ∧ Prs 0 []))) <|
 bindO (
 condO (shut (decide (intsOf (shut (shut (numsL IntKind.i64 (covL a n f t)))) = intsOf [])))
 (
 some (shut (shut (covE a n f t) == (3 : Int))))
 (
 some (false))) fun v9 =>
 bindO (
 condO (v9)
 (
 some (true))
 (
 some (false))) fun v10 =>
 some ([RLeaf.v (AV.bool v10)]))))
 (
 condO (shut (shut (if a < (1 : Int) ∨ a > (256 : Int) then (3 : Int) else (0 : Int)) == (0 : Int)))
 (
 condO (shut (shut (if f < (0 : Int) ∨ f > n ∨ t < (0 : Int) ∨ t > n then (3 : Int) else if t < f then (11 : Int) else (0 : Int)) == (0 : Int)))
 (
 guardO (shut (decide ((1 : Int) ≤ a ∧ a ≤ (256 : Int) ∧ (0 : Int) ≤ n ∧ n ≤ (4096 : Int) ∧ (0 : Int) ≤ f ∧ t ≤ n ∧ f ≤ t))) <|
 guardO (shut (decide (Prs (shut ((covL a n f t).length / 2)) (shut (numsL IntKind.i64 (covL a n f t)))))) <|
 guardO (shut (decide (Prs (shut (shut ((covL a n f t).length / 2))) (shut (shut (numsL IntKind.i64 (covL a n f t)))) ∧ Prs (shut ((coverL a n t 4097 f).length / 2)) (shut (numsL IntKind.i64 (coverL a n t 4097 f)))))) <|
 bindO (
 condO (shut (decide (intsOf (shut (shut (numsL IntKind.i64 (covL a n f t)))) = intsOf (shut (numsL IntKind.i64 (coverL a n t 4097 f))))))
 (
 some (shut (shut (covE a n f t) == shut (if f < (0 : Int) ∨ f > n ∨ t < (0 : Int) ∨ t > n then (3 : Int) else if t < f then (11 : Int) else (0 : Int)))))
 (
 some (false))) fun v10 =>
 bindO (
 condO (v10)
 (
 some (true))
 (
 some (false))) fun v11 =>
 some ([RLeaf.v (AV.bool v11)]))
 (
 guardO (shut (decide (Prs (shut ((covL a n f t).length / 2)) (shut (numsL IntKind.i64 (covL a n f t)))))) <|
 guardO (shut (decide (Prs (shut (shut ((covL a n f t).length / 2))) (shut (shut (numsL IntKind.i64 (covL a n f t)))) ∧ Prs 0 []))) <|
 bindO (
 condO (shut (decide (intsOf (shut (shut (numsL IntKind.i64 (covL a n f t)))) = intsOf [])))
 (
 some (shut (shut (covE a n f t) == shut (if f < (0 : Int) ∨ f > n ∨ t < (0 : Int) ∨ t > n then (3 : Int) else if t < f then (11 : Int) else (0 : Int)))))
 (
 some (false))) fun v9 =>
 bindO (
 condO (v9)
 (
 some (true))
 (
 some (false))) fun v10 =>
 some ([RLeaf.v (AV.bool v10)])))
 (
 condO (shut (shut (if a < (1 : Int) ∨ a > (256 : Int) then (3 : Int) else (0 : Int)) == (0 : Int)))
 (
 guardO (shut (decide ((1 : Int) ≤ a ∧ a ≤ (256 : Int) ∧ (0 : Int) ≤ n ∧ n ≤ (4096 : Int) ∧ (0 : Int) ≤ f ∧ t ≤ n ∧ f ≤ t))) <|
 guardO (shut (decide (Prs (shut ((covL a n f t).length / 2)) (shut (numsL IntKind.i64 (covL a n f t)))))) <|
 guardO (shut (decide (Prs (shut (shut ((covL a n f t).length / 2))) (shut (shut (numsL IntKind.i64 (covL a n f t)))) ∧ Prs (shut ((coverL a n t 4097 f).length / 2)) (shut (numsL IntKind.i64 (coverL a n t 4097 f)))))) <|
 bindO (
 condO (shut (decide (intsOf (shut (shut (numsL IntKind.i64 (covL a n f t)))) = intsOf (shut (numsL IntKind.i64 (coverL a n t 4097 f))))))
 (
 some (shut (shut (covE a n f t) == shut (if a < (1 : Int) ∨ a > (256 : Int) then (3 : Int) else (0 : Int)))))
 (
 some (false))) fun v10 =>
 bindO (
 condO (v10)
 (
 some (true))
 (
 some (false))) fun v11 =>
 some ([RLeaf.v (AV.bool v11)]))
 (
 guardO (shut (decide (Prs (shut ((covL a n f t).length / 2)) (shut (numsL IntKind.i64 (covL a n f t)))))) <|
 guardO (shut (decide (Prs (shut (shut ((covL a n f t).length / 2))) (shut (shut (numsL IntKind.i64 (covL a n f t)))) ∧ Prs 0 []))) <|
 bindO (
 condO (shut (decide (intsOf (shut (shut (numsL IntKind.i64 (covL a n f t)))) = intsOf [])))
 (
 some (shut (shut (covE a n f t) == shut (if a < (1 : Int) ∨ a > (256 : Int) then (3 : Int) else (0 : Int)))))
 (
 some (false))) fun v9 =>
 bindO (
 condO (v9)
 (
 some (true))
 (
 some (false))) fun v10 =>
 some ([RLeaf.v (AV.bool v10)])))))) := by kernel_rfl


end Go.Abs
end

