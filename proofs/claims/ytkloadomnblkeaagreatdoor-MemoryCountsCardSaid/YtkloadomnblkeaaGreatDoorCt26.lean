/- Part 26 of the library that the proof of the statement uses: an abstract run of the program, proved right, and what its functions give. -/
import Derived.Test.YtkloadomnblkeaaGreatDoorCt25
set_option linter.unusedVariables false
set_option linter.unusedSimpArgs false

section
/- Functions of the Memory seat, lifted (printed by the tool gen2.py). -/
set_option maxRecDepth 100000
set_option linter.unusedVariables false
namespace Go.Abs
open Go.Proofs Classical

theorem run_7 (N : Nat) (n : Nat) (cs : List AV) (m : Nat) (ds : List AV) (f t c : Int) (o : Option Nat) : (fsM mzG waysP N 12).call (List RLeaf) 7 [.ofB (.list n cs), .ofB (.list m ds), .s (.agg [.b (.int .i64 f), .b (.int .i64 t), .b (.int .i64 c), .b (.flo .f32 o)])] [] (resK [false]) = (
 bindO (
 condO (!shut (lenB (↑n : Int) (64 : Int) (4096 : Int)))
 (
 some (true))
 (
 some (shut (decide ((↑m : Int) > (66 : Int)))))) fun v0 =>
 condO (v0)
 (
 some ([RLeaf.v (AV.bool true)]))
 (
 guardO (shut (decide (Flos n cs ∧ n ≤ 100000000))) <|
 guardO (shut (decide (Flos (shut n) (shut cs)))) <|
 guardO (shut (decide (Flos n cs ∧ n ≤ 100000000))) <|
 guardO (shut (decide (Flos m ds ∧ m ≤ 100000000))) <|
 guardO (shut (decide (Flos (shut n) (shut cs) ∧ Flos (shut m) (shut ds)))) <|
 guardO (shut (decide (Flos n cs ∧ n ≤ 100000000))) <|
 guardO (shut (decide (Flos (shut n) (shut cs)))) <|
 guardO (shut (decide (Flos n cs))) <|
 condO (shut (shut (sampErr n (flosOf cs)) == (0 : Int)))
 (
 condO (shut (finB o))
 (
 guardO (shut (decide (Flos n cs ∧ sampErr n (flosOf cs) = (0 : Int) ∧ finB o = true))) <|
 condO (shut (decide ((longR 0 0 0 (highs o (flosOf cs))).snd > (longR 0 0 0 (highs o (flosOf cs))).fst)))
 (
 guardO (shut (decide (Flos m ds))) <|
 condO (shut (shut (limC m (flosOf ds)) == (0 : Int)))
 (
 guardO (shut (decide (Flos n cs ∧ Flos m ds ∧ n ≤ 4096 ∧ m ≤ 64))) <|
 bindO (
 condO (shut (shut (if c < (1 : Int) ∨ c > (2048 : Int) then (3 : Int) else (0 : Int)) == (0 : Int)))
 (
 some (shut (decide ((↑n : Int) < c))))
 (
 some (false))) fun v17 =>
 condO (v17)
 (
 bindO (
 condO (shut (shut (shut (↑(longV (shut n) (flosOf (shut cs)) o).fst : Int) == shut (↑(longR 0 0 0 (highs o (flosOf cs))).fst : Int)) && (shut (shut (↑(longV (shut n) (flosOf (shut cs)) o).snd : Int) == shut (↑(longR 0 0 0 (highs o (flosOf cs))).snd : Int)) && true)))
 (
 some (shut (shut (longE (shut n) (flosOf (shut cs)) o) == (0 : Int))))
 (
 some (false))) fun v19 =>
 bindO (
 condO (v19)
 (
 guardO (shut (decide (Nums IntKind.i64 (shut (histV (shut n) (flosOf (shut cs)) (shut m) (flosOf (shut ds))).length) (shut (numsL IntKind.i64 (histV (shut n) (flosOf (shut cs)) (shut m) (flosOf (shut ds))))) ∧ Nums IntKind.i64 (shut (m + 1)) (shut (numsL IntKind.i64 (histF (flosOf ds) (List.replicate (m + 1) (0 : Int)) (flosOf cs))))))) <|
 some (shut (decide (intsOf (shut (numsL IntKind.i64 (histV (shut n) (flosOf (shut cs)) (shut m) (flosOf (shut ds))))) = intsOf (shut (numsL IntKind.i64 (histF (flosOf ds) (List.replicate (m + 1) (0 : Int)) (flosOf cs))))))))
 (
 some (false))) fun v20 =>
 bindO (
 condO (v20)
 (
 some (shut (shut (histE (shut n) (flosOf (shut cs)) (shut m) (flosOf (shut ds))) == shut (limC m (flosOf ds)))))
 (
 some (false))) fun v21 =>
 bindO (
 condO (v21)
 (
 guardO (shut (decide (Flos (shut (decV (shut n) (flosOf (shut cs)) c).length) (shut (flosL (decV (shut n) (flosOf (shut cs)) c))) ∧ Flos 0 []))) <|
 some (shut (sameF (flosOf (shut (flosL (decV (shut n) (flosOf (shut cs)) c)))) (flosOf []))))
 (
 some (false))) fun v22 =>
 bindO (
 condO (v22)
 (
 some (shut (shut (decE (shut n) (flosOf (shut cs)) c) == (16 : Int))))
 (
 some (false))) fun v23 =>
 bindO (
 condO (v23)
 (
 some (true))
 (
 some (false))) fun v24 =>
 some ([RLeaf.v (AV.bool v24)]))
 (
 condO (shut (shut (if c < (1 : Int) ∨ c > (2048 : Int) then (3 : Int) else (0 : Int)) == (0 : Int)))
 (
 guardO (shut (decide (Flos n cs ∧ sampErr n (flosOf cs) = (0 : Int) ∧ (1 : Int) ≤ c ∧ c ≤ (↑n : Int)))) <|
 bindO (
 condO (shut (shut (shut (↑(longV (shut n) (flosOf (shut cs)) o).fst : Int) == shut (↑(longR 0 0 0 (highs o (flosOf cs))).fst : Int)) && (shut (shut (↑(longV (shut n) (flosOf (shut cs)) o).snd : Int) == shut (↑(longR 0 0 0 (highs o (flosOf cs))).snd : Int)) && true)))
 (
 some (shut (shut (longE (shut n) (flosOf (shut cs)) o) == (0 : Int))))
 (
 some (false))) fun v21 =>
 bindO (
 condO (v21)
 (
 guardO (shut (decide (Nums IntKind.i64 (shut (histV (shut n) (flosOf (shut cs)) (shut m) (flosOf (shut ds))).length) (shut (numsL IntKind.i64 (histV (shut n) (flosOf (shut cs)) (shut m) (flosOf (shut ds))))) ∧ Nums IntKind.i64 (shut (m + 1)) (shut (numsL IntKind.i64 (histF (flosOf ds) (List.replicate (m + 1) (0 : Int)) (flosOf cs))))))) <|
 some (shut (decide (intsOf (shut (numsL IntKind.i64 (histV (shut n) (flosOf (shut cs)) (shut m) (flosOf (shut ds))))) = intsOf (shut (numsL IntKind.i64 (histF (flosOf ds) (List.replicate (m + 1) (0 : Int)) (flosOf cs))))))))
 (
 some (false))) fun v22 =>
 bindO (
 condO (v22)
 (
 some (shut (shut (histE (shut n) (flosOf (shut cs)) (shut m) (flosOf (shut ds))) == shut (limC m (flosOf ds)))))
 (
 some (false))) fun v23 =>
 bindO (
 condO (v23)
 (
 guardO (shut (decide (Flos (shut (decV (shut n) (flosOf (shut cs)) c).length) (shut (flosL (decV (shut n) (flosOf (shut cs)) c))) ∧ Flos (shut (decR (flosOf cs) n c.toNat c.toNat 0).length) (shut (flosL (decR (flosOf cs) n c.toNat c.toNat 0)))))) <|
 some (shut (sameF (flosOf (shut (flosL (decV (shut n) (flosOf (shut cs)) c)))) (flosOf (shut (flosL (decR (flosOf cs) n c.toNat c.toNat 0)))))))
 (
 some (false))) fun v24 =>
 bindO (
 condO (v24)
 (
 some (shut (shut (decE (shut n) (flosOf (shut cs)) c) == shut (if c < (1 : Int) ∨ c > (2048 : Int) then (3 : Int) else (0 : Int)))))
 (
 some (false))) fun v25 =>
 bindO (
 condO (v25)
 (
 some (true))
 (
 some (false))) fun v26 =>
 some ([RLeaf.v (AV.bool v26)]))
 (
 bindO (
 condO (shut (shut (shut (↑(longV (shut n) (flosOf (shut cs)) o).fst : Int) == shut (↑(longR 0 0 0 (highs o (flosOf cs))).fst : Int)) && (shut (shut (↑(longV (shut n) (flosOf (shut cs)) o).snd : Int) == shut (↑(longR 0 0 0 (highs o (flosOf cs))).snd : Int)) && true)))
 (
 some (shut (shut (longE (shut n) (flosOf (shut cs)) o) == (0 : Int))))
 (
 some (false))) fun v20 =>
 bindO (
 condO (v20)
 (
 guardO (shut (decide (Nums IntKind.i64 (shut (histV (shut n) (flosOf (shut cs)) (shut m) (flosOf (shut ds))).length) (shut (numsL IntKind.i64 (histV (shut n) (flosOf (shut cs)) (shut m) (flosOf (shut ds))))) ∧ Nums IntKind.i64 (shut (m + 1)) (shut (numsL IntKind.i64 (histF (flosOf ds) (List.replicate (m + 1) (0 : Int)) (flosOf cs))))))) <|
 some (shut (decide (intsOf (shut (numsL IntKind.i64 (histV (shut n) (flosOf (shut cs)) (shut m) (flosOf (shut ds))))) = intsOf (shut (numsL IntKind.i64 (histF (flosOf ds) (List.replicate (m + 1) (0 : Int)) (flosOf cs))))))))
 (
 some (false))) fun v21 =>
 bindO (
 condO (v21)
 (
 some (shut (shut (histE (shut n) (flosOf (shut cs)) (shut m) (flosOf (shut ds))) == shut (limC m (flosOf ds)))))
 (
 some (false))) fun v22 =>
 bindO (
 condO (v22)
 (
 guardO (shut (decide (Flos (shut (decV (shut n) (flosOf (shut cs)) c).length) (shut (flosL (decV (shut n) (flosOf (shut cs)) c))) ∧ Flos 0 []))) <|
 some (shut (sameF (flosOf (shut (flosL (decV (shut n) (flosOf (shut cs)) c)))) (flosOf []))))
 (
 some (false))) fun v23 =>
 bindO (
 condO (v23)
 (
 some (shut (shut (decE (shut n) (flosOf (shut cs)) c) == shut (if c < (1 : Int) ∨ c > (2048 : Int) then (3 : Int) else (0 : Int)))))
 (
 some (false))) fun v24 =>
 bindO (
 condO (v24)
 (
 some (true))
 (
 some (false))) fun v25 =>
 some ([RLeaf.v (AV.bool v25)]))))
 (
 bindO (
 condO (shut (shut (if c < (1 : Int) ∨ c > (2048 : Int) then (3 : Int) else (0 : Int)) == (0 : Int)))
 (
 some (shut (decide ((↑n : Int) < c))))
 (
 some (false))) fun v16 =>
 condO (v16)
 (
 bindO (
 condO (shut (shut (shut (↑(longV (shut n) (flosOf (shut cs)) o).fst : Int) == shut (↑(longR 0 0 0 (highs o (flosOf cs))).fst : Int)) && (shut (shut (↑(longV (shut n) (flosOf (shut cs)) o).snd : Int) == shut (↑(longR 0 0 0 (highs o (flosOf cs))).snd : Int)) && true)))
 (
 some (shut (shut (longE (shut n) (flosOf (shut cs)) o) == (0 : Int))))
 (
 some (false))) fun v18 =>
 bindO (
 condO (v18)
 (
 guardO (shut (decide (Nums IntKind.i64 (shut (histV (shut n) (flosOf (shut cs)) (shut m) (flosOf (shut ds))).length) (shut (numsL IntKind.i64 (histV (shut n) (flosOf (shut cs)) (shut m) (flosOf (shut ds))))) ∧ Nums IntKind.i64 0 []))) <|
 some (shut (decide (intsOf (shut (numsL IntKind.i64 (histV (shut n) (flosOf (shut cs)) (shut m) (flosOf (shut ds))))) = intsOf []))))
 (
 some (false))) fun v19 =>
 bindO (
 condO (v19)
 (
 some (shut (shut (histE (shut n) (flosOf (shut cs)) (shut m) (flosOf (shut ds))) == shut (limC m (flosOf ds)))))
 (
 some (false))) fun v20 =>
 bindO (
 condO (v20)
 (
 guardO (shut (decide (Flos (shut (decV (shut n) (flosOf (shut cs)) c).length) (shut (flosL (decV (shut n) (flosOf (shut cs)) c))) ∧ Flos 0 []))) <|
 some (shut (sameF (flosOf (shut (flosL (decV (shut n) (flosOf (shut cs)) c)))) (flosOf []))))
 (
 some (false))) fun v21 =>
 bindO (
 condO (v21)
 (
 some (shut (shut (decE (shut n) (flosOf (shut cs)) c) == (16 : Int))))
 (
 some (false))) fun v22 =>
 bindO (
 condO (v22)
 (
 some (true))
 (
 some (false))) fun v23 =>
 some ([RLeaf.v (AV.bool v23)]))
 (
 condO (shut (shut (if c < (1 : Int) ∨ c > (2048 : Int) then (3 : Int) else (0 : Int)) == (0 : Int)))
 (
 guardO (shut (decide (Flos n cs ∧ sampErr n (flosOf cs) = (0 : Int) ∧ (1 : Int) ≤ c ∧ c ≤ (↑n : Int)))) <|
 bindO (
 condO (shut (shut (shut (↑(longV (shut n) (flosOf (shut cs)) o).fst : Int) == shut (↑(longR 0 0 0 (highs o (flosOf cs))).fst : Int)) && (shut (shut (↑(longV (shut n) (flosOf (shut cs)) o).snd : Int) == shut (↑(longR 0 0 0 (highs o (flosOf cs))).snd : Int)) && true)))
 (
 some (shut (shut (longE (shut n) (flosOf (shut cs)) o) == (0 : Int))))
 (
 some (false))) fun v20 =>
 bindO (
 condO (v20)
 (
 guardO (shut (decide (Nums IntKind.i64 (shut (histV (shut n) (flosOf (shut cs)) (shut m) (flosOf (shut ds))).length) (shut (numsL IntKind.i64 (histV (shut n) (flosOf (shut cs)) (shut m) (flosOf (shut ds))))) ∧ Nums IntKind.i64 0 []))) <|
 some (shut (decide (intsOf (shut (numsL IntKind.i64 (histV (shut n) (flosOf (shut cs)) (shut m) (flosOf (shut ds))))) = intsOf []))))
 (
 some (false))) fun v21 =>
 bindO (
 condO (v21)
 (
 some (shut (shut (histE (shut n) (flosOf (shut cs)) (shut m) (flosOf (shut ds))) == shut (limC m (flosOf ds)))))
 (
 some (false))) fun v22 =>
 bindO (
 condO (v22)
 (
 guardO (shut (decide (Flos (shut (decV (shut n) (flosOf (shut cs)) c).length) (shut (flosL (decV (shut n) (flosOf (shut cs)) c))) ∧ Flos (shut (decR (flosOf cs) n c.toNat c.toNat 0).length) (shut (flosL (decR (flosOf cs) n c.toNat c.toNat 0)))))) <|
 some (shut (sameF (flosOf (shut (flosL (decV (shut n) (flosOf (shut cs)) c)))) (flosOf (shut (flosL (decR (flosOf cs) n c.toNat c.toNat 0)))))))
 (
 some (false))) fun v23 =>
 bindO (
 condO (v23)
 (
 some (shut (shut (decE (shut n) (flosOf (shut cs)) c) == shut (if c < (1 : Int) ∨ c > (2048 : Int) then (3 : Int) else (0 : Int)))))
 (
 some (false))) fun v24 =>
 bindO (
 condO (v24)
 (
 some (true))
 (
 some (false))) fun v25 =>
 some ([RLeaf.v (AV.bool v25)]))
 (
 bindO (
 condO (shut (shut (shut (↑(longV (shut n) (flosOf (shut cs)) o).fst : Int) == shut (↑(longR 0 0 0 (highs o (flosOf cs))).fst : Int)) && (shut (shut (↑(longV (shut n) (flosOf (shut cs)) o).snd : Int) == shut (↑(longR 0 0 0 (highs o (flosOf cs))).snd : Int)) && true)))
 (
 some (shut (shut (longE (shut n) (flosOf (shut cs)) o) == (0 : Int))))
 (
 some (false))) fun v19 =>
 bindO (
 condO (v19)
 (
 guardO (shut (decide (Nums IntKind.i64 (shut (histV (shut n) (flosOf (shut cs)) (shut m) (flosOf (shut ds))).length) (shut (numsL IntKind.i64 (histV (shut n) (flosOf (shut cs)) (shut m) (flosOf (shut ds))))) ∧ Nums IntKind.i64 0 []))) <|
 some (shut (decide (intsOf (shut (numsL IntKind.i64 (histV (shut n) (flosOf (shut cs)) (shut m) (flosOf (shut ds))))) = intsOf []))))
 (
 some (false))) fun v20 =>
 bindO (
 condO (v20)
 (
 some (shut (shut (histE (shut n) (flosOf (shut cs)) (shut m) (flosOf (shut ds))) == shut (limC m (flosOf ds)))))
 (
 some (false))) fun v21 =>
 bindO (
 condO (v21)
 (
 guardO (shut (decide (Flos (shut (decV (shut n) (flosOf (shut cs)) c).length) (shut (flosL (decV (shut n) (flosOf (shut cs)) c))) ∧ Flos 0 []))) <|
 some (shut (sameF (flosOf (shut (flosL (decV (shut n) (flosOf (shut cs)) c)))) (flosOf []))))
 (
 some (false))) fun v22 =>
 bindO (
 condO (v22)
 (
 some (shut (shut (decE (shut n) (flosOf (shut cs)) c) == shut (if c < (1 : Int) ∨ c > (2048 : Int) then (3 : Int) else (0 : Int)))))
 (
 some (false))) fun v23 =>
 bindO (
 condO (v23)
 (
 some (true))
 (
 some (false))) fun v24 =>
 some ([RLeaf.v (AV.bool v24)])))))
 (
 guardO (shut (decide (Flos m ds))) <|
 condO (shut (shut (limC m (flosOf ds)) == (0 : Int)))
 (
 guardO (shut (decide (Flos n cs ∧ Flos m ds ∧ n ≤ 4096 ∧ m ≤ 64))) <|
 bindO (
 condO (shut (shut (if c < (1 : Int) ∨ c > (2048 : Int) then (3 : Int) else (0 : Int)) == (0 : Int)))
 (
 some (shut (decide ((↑n : Int) < c))))
 (
 some (false))) fun v17 =>
 condO (v17)
 (
 bindO (
 condO (shut (shut (shut (↑(longV (shut n) (flosOf (shut cs)) o).fst : Int) == (0 : Int)) && (shut (shut (↑(longV (shut n) (flosOf (shut cs)) o).snd : Int) == (0 : Int)) && true)))
 (
 some (shut (shut (longE (shut n) (flosOf (shut cs)) o) == (7 : Int))))
 (
 some (false))) fun v19 =>
 bindO (
 condO (v19)
 (
 guardO (shut (decide (Nums IntKind.i64 (shut (histV (shut n) (flosOf (shut cs)) (shut m) (flosOf (shut ds))).length) (shut (numsL IntKind.i64 (histV (shut n) (flosOf (shut cs)) (shut m) (flosOf (shut ds))))) ∧ Nums IntKind.i64 (shut (m + 1)) (shut (numsL IntKind.i64 (histF (flosOf ds) (List.replicate (m + 1) (0 : Int)) (flosOf cs))))))) <|
 some (shut (decide (intsOf (shut (numsL IntKind.i64 (histV (shut n) (flosOf (shut cs)) (shut m) (flosOf (shut ds))))) = intsOf (shut (numsL IntKind.i64 (histF (flosOf ds) (List.replicate (m + 1) (0 : Int)) (flosOf cs))))))))
 (
 some (false))) fun v20 =>
 bindO (
 condO (v20)
 (
 some (shut (shut (histE (shut n) (flosOf (shut cs)) (shut m) (flosOf (shut ds))) == shut (limC m (flosOf ds)))))
 (
 some (false))) fun v21 =>
 bindO (
 condO (v21)
 (
 guardO (shut (decide (Flos (shut (decV (shut n) (flosOf (shut cs)) c).length) (shut (flosL (decV (shut n) (flosOf (shut cs)) c))) ∧ Flos 0 []))) <|
 some (shut (sameF (flosOf (shut (flosL (decV (shut n) (flosOf (shut cs)) c)))) (flosOf []))))
 (
 some (false))) fun v22 =>
 bindO (
 condO (v22)
 (
 some (shut (shut (decE (shut n) (flosOf (shut cs)) c) == (16 : Int))))
 (
 some (false))) fun v23 =>
 bindO (
 condO (v23)
 (
 some (true))
 (
 some (false))) fun v24 =>
 some ([RLeaf.v (AV.bool v24)]))
 (
 condO (shut (shut (if c < (1 : Int) ∨ c > (2048 : Int) then (3 : Int) else (0 : Int)) == (0 : Int)))
 (
 guardO (shut (decide (Flos n cs ∧ sampErr n (flosOf cs) = (0 : Int) ∧ (1 : Int) ≤ c ∧ c ≤ (↑n : Int)))) <|
 bindO (
 condO (shut (shut (shut (↑(longV (shut n) (flosOf (shut cs)) o).fst : Int) == (0 : Int)) && (shut (shut (↑(longV (shut n) (flosOf (shut cs)) o).snd : Int) == (0 : Int)) && true)))
 (
 some (shut (shut (longE (shut n) (flosOf (shut cs)) o) == (7 : Int))))
 (
 some (false))) fun v21 =>
 bindO (
 condO (v21)
 (
 guardO (shut (decide (Nums IntKind.i64 (shut (histV (shut n) (flosOf (shut cs)) (shut m) (flosOf (shut ds))).length) (shut (numsL IntKind.i64 (histV (shut n) (flosOf (shut cs)) (shut m) (flosOf (shut ds))))) ∧ Nums IntKind.i64 (shut (m + 1)) (shut (numsL IntKind.i64 (histF (flosOf ds) (List.replicate (m + 1) (0 : Int)) (flosOf cs))))))) <|
 some (shut (decide (intsOf (shut (numsL IntKind.i64 (histV (shut n) (flosOf (shut cs)) (shut m) (flosOf (shut ds))))) = intsOf (shut (numsL IntKind.i64 (histF (flosOf ds) (List.replicate (m + 1) (0 : Int)) (flosOf cs))))))))
 (
 some (false))) fun v22 =>
 bindO (
 condO (v22)
 (
 some (shut (shut (histE (shut n) (flosOf (shut cs)) (shut m) (flosOf (shut ds))) == shut (limC m (flosOf ds)))))
 (
 some (false))) fun v23 =>
 bindO (
 condO (v23)
 (
 guardO (shut (decide (Flos (shut (decV (shut n) (flosOf (shut cs)) c).length) (shut (flosL (decV (shut n) (flosOf (shut cs)) c))) ∧ Flos (shut (decR (flosOf cs) n c.toNat c.toNat 0).length) (shut (flosL (decR (flosOf cs) n c.toNat c.toNat 0)))))) <|
 some (shut (sameF (flosOf (shut (flosL (decV (shut n) (flosOf (shut cs)) c)))) (flosOf (shut (flosL (decR (flosOf cs) n c.toNat c.toNat 0)))))))
 (
 some (false))) fun v24 =>
 bindO (
 condO (v24)
 (
 some (shut (shut (decE (shut n) (flosOf (shut cs)) c) == shut (if c < (1 : Int) ∨ c > (2048 : Int) then (3 : Int) else (0 : Int)))))
 (
 some (false))) fun v25 =>
 bindO (
 condO (v25)
 (
 some (true))
 (
 some (false))) fun v26 =>
 some ([RLeaf.v (AV.bool v26)]))
 (
 bindO (
 condO (shut (shut (shut (↑(longV (shut n) (flosOf (shut cs)) o).fst : Int) == (0 : Int)) && (shut (shut (↑(longV (shut n) (flosOf (shut cs)) o).snd : Int) == (0 : Int)) && true)))
 (
 some (shut (shut (longE (shut n) (flosOf (shut cs)) o) == (7 : Int))))
 (
 some (false))) fun v20 =>
 bindO (
 condO (v20)
 (
 guardO (shut (decide (Nums IntKind.i64 (shut (histV (shut n) (flosOf (shut cs)) (shut m) (flosOf (shut ds))).length) (shut (numsL IntKind.i64 (histV (shut n) (flosOf (shut cs)) (shut m) (flosOf (shut ds))))) ∧ Nums IntKind.i64 (shut (m + 1)) (shut (numsL IntKind.i64 (histF (flosOf ds) (List.replicate (m + 1) (0 : Int)) (flosOf cs))))))) <|
 some (shut (decide (intsOf (shut (numsL IntKind.i64 (histV (shut n) (flosOf (shut cs)) (shut m) (flosOf (shut ds))))) = intsOf (shut (numsL IntKind.i64 (histF (flosOf ds) (List.replicate (m + 1) (0 : Int)) (flosOf cs))))))))
 (
 some (false))) fun v21 =>
 bindO (
 condO (v21)
 (
 some (shut (shut (histE (shut n) (flosOf (shut cs)) (shut m) (flosOf (shut ds))) == shut (limC m (flosOf ds)))))
 (
 some (false))) fun v22 =>
 bindO (
 condO (v22)
 (
 guardO (shut (decide (Flos (shut (decV (shut n) (flosOf (shut cs)) c).length) (shut (flosL (decV (shut n) (flosOf (shut cs)) c))) ∧ Flos 0 []))) <|
 some (shut (sameF (flosOf (shut (flosL (decV (shut n) (flosOf (shut cs)) c)))) (flosOf []))))
 (
 some (false))) fun v23 =>
 bindO (
 condO (v23)
 (
 some (shut (shut (decE (shut n) (flosOf (shut cs)) c) == shut (if c < (1 : Int) ∨ c > (2048 : Int) then (3 : Int) else (0 : Int)))))
 (
 some (false))) fun v24 =>
 bindO (
 condO (v24)
 (
 some (true))
 (
 some (false))) fun v25 =>
 some ([RLeaf.v (AV.bool v25)]))))
 (
 bindO (
 condO (shut (shut (if c < (1 : Int) ∨ c > (2048 : Int) then (3 : Int) else (0 : Int)) == (0 : Int)))
 (
 some (shut (decide ((↑n : Int) < c))))
 (
 some (false))) fun v16 =>
 condO (v16)
 (
 bindO (
 condO (shut (shut (shut (↑(longV (shut n) (flosOf (shut cs)) o).fst : Int) == (0 : Int)) && (shut (shut (↑(longV (shut n) (flosOf (shut cs)) o).snd : Int) == (0 : Int)) && true)))
 (
 some (shut (shut (longE (shut n) (flosOf (shut cs)) o) == (7 : Int))))
 (
 some (false))) fun v18 =>
 bindO (
 condO (v18)
 (
 guardO (shut (decide (Nums IntKind.i64 (shut (histV (shut n) (flosOf (shut cs)) (shut m) (flosOf (shut ds))).length) (shut (numsL IntKind.i64 (histV (shut n) (flosOf (shut cs)) (shut m) (flosOf (shut ds))))) ∧ Nums IntKind.i64 0 []))) <|
 some (shut (decide (intsOf (shut (numsL IntKind.i64 (histV (shut n) (flosOf (shut cs)) (shut m) (flosOf (shut ds))))) = intsOf []))))
 (
 some (false))) fun v19 =>
 bindO (
 condO (v19)
 (
 some (shut (shut (histE (shut n) (flosOf (shut cs)) (shut m) (flosOf (shut ds))) == shut (limC m (flosOf ds)))))
 (
 some (false))) fun v20 =>
 bindO (
 condO (v20)
 (
 guardO (shut (decide (Flos (shut (decV (shut n) (flosOf (shut cs)) c).length) (shut (flosL (decV (shut n) (flosOf (shut cs)) c))) ∧ Flos 0 []))) <|
 some (shut (sameF (flosOf (shut (flosL (decV (shut n) (flosOf (shut cs)) c)))) (flosOf []))))
 (
 some (false))) fun v21 =>
 bindO (
 condO (v21)
 (
 some (shut (shut (decE (shut n) (flosOf (shut cs)) c) == (16 : Int))))
 (
 some (false))) fun v22 =>
 bindO (
 condO (v22)
 (
 some (true))
 (
 some (false))) fun v23 =>
 some ([RLeaf.v (AV.bool v23)]))
 (
 condO (shut (shut (if c < (1 : Int) ∨ c > (2048 : Int) then (3 : Int) else (0 : Int)) == (0 : Int)))
 (
 guardO (shut (decide (Flos n cs ∧ sampErr n (flosOf cs) = (0 : Int) ∧ (1 : Int) ≤ c ∧ c ≤ (↑n : Int)))) <|
 bindO (
 condO (shut (shut (shut (↑(longV (shut n) (flosOf (shut cs)) o).fst : Int) == (0 : Int)) && (shut (shut (↑(longV (shut n) (flosOf (shut cs)) o).snd : Int) == (0 : Int)) && true)))
 (
 some (shut (shut (longE (shut n) (flosOf (shut cs)) o) == (7 : Int))))
 (
 some (false))) fun v20 =>
 bindO (
 condO (v20)
 (
 guardO (shut (decide (Nums IntKind.i64 (shut (histV (shut n) (flosOf (shut cs)) (shut m) (flosOf (shut ds))).length) (shut (numsL IntKind.i64 (histV (shut n) (flosOf (shut cs)) (shut m) (flosOf (shut ds))))) ∧ Nums IntKind.i64 0 []))) <|
 some (shut (decide (intsOf (shut (numsL IntKind.i64 (histV (shut n) (flosOf (shut cs)) (shut m) (flosOf (shut ds))))) = intsOf []))))
 (
 some (false))) fun v21 =>
 bindO (
 condO (v21)
 (
 some (shut (shut (histE (shut n) (flosOf (shut cs)) (shut m) (flosOf (shut ds))) == shut (limC m (flosOf ds)))))
 (
 some (false))) fun v22 =>
 bindO (
 condO (v22)
 (
 guardO (shut (decide (Flos (shut (decV (shut n) (flosOf (shut cs)) c).length) (shut (flosL (decV (shut n) (flosOf (shut cs)) c))) ∧ Flos (shut (decR (flosOf cs) n c.toNat c.toNat 0).length) (shut (flosL (decR (flosOf cs) n c.toNat c.toNat 0)))))) <|
 some (shut (sameF (flosOf (shut (flosL (decV (shut n) (flosOf (shut cs)) c)))) (flosOf (shut (flosL (decR (flosOf cs) n c.toNat c.toNat 0)))))))
 (
 some (false))) fun v23 =>
 bindO (
 condO (v23)
 (
 some (shut (shut (decE (shut n) (flosOf (shut cs)) c) == shut (if c < (1 : Int) ∨ c > (2048 : Int) then (3 : Int) else (0 : Int)))))
 (
 some (false))) fun v24 =>
 bindO (
 condO (v24)
 (
 some (true))
 (
 some (false))) fun v25 =>
 some ([RLeaf.v (AV.bool v25)]))
 (
 bindO (
 condO (shut (shut (shut (↑(longV (shut n) (flosOf (shut cs)) o).fst : Int) == (0 : Int)) && (shut (shut (↑(longV (shut n) (flosOf (shut cs)) o).snd : Int) == (0 : Int)) && true)))
 (
 some (shut (shut (longE (shut n) (flosOf (shut cs)) o) == (7 : Int))))
 (
 some (false))) fun v19 =>
 bindO (
 condO (v19)
 (
 guardO (shut (decide (Nums IntKind.i64 (shut (histV (shut n) (flosOf (shut cs)) (shut m) (flosOf (shut ds))).length) (shut (numsL IntKind.i64 (histV (shut n) (flosOf (shut cs)) (shut m) (flosOf (shut ds))))) ∧ Nums IntKind.i64 0 []))) <|
 some (shut (decide (intsOf (shut (numsL IntKind.i64 (histV (shut n) (flosOf (shut cs)) (shut m) (flosOf (shut ds))))) = intsOf []))))
 (
 some (false))) fun v20 =>
 bindO (
 condO (v20)
 (
 some (shut (shut (histE (shut n) (flosOf (shut cs)) (shut m) (flosOf (shut ds))) == shut (limC m (flosOf ds)))))
 (
 some (false))) fun v21 =>
 bindO (
 condO (v21)
 (
 guardO (shut (decide (Flos (shut (decV (shut n) (flosOf (shut cs)) c).length) (shut (flosL (decV (shut n) (flosOf (shut cs)) c))) ∧ Flos 0 []))) <|
 some (shut (sameF (flosOf (shut (flosL (decV (shut n) (flosOf (shut cs)) c)))) (flosOf []))))
 (
 some (false))) fun v22 =>
 bindO (
 condO (v22)
 (
 some (shut (shut (decE (shut n) (flosOf (shut cs)) c) == shut (if c < (1 : Int) ∨ c > (2048 : Int) then (3 : Int) else (0 : Int)))))
 (
 some (false))) fun v23 =>
 bindO (
 condO (v23)
 (
 some (true))
 (
 some (false))) fun v24 =>
 some ([RLeaf.v (AV.bool v24)]))))))
 (
 guardO (shut (decide (Flos m ds))) <|
 condO (shut (shut (limC m (flosOf ds)) == (0 : Int)))
 (
 guardO (shut (decide (Flos n cs ∧ Flos m ds ∧ n ≤ 4096 ∧ m ≤ 64))) <|
 bindO (
 condO (shut (shut (if c < (1 : Int) ∨ c > (2048 : Int) then (3 : Int) else (0 : Int)) == (0 : Int)))
 (
 some (shut (decide ((↑n : Int) < c))))
 (
 some (false))) fun v15 =>
 condO (v15)
 (
 bindO (
 condO (shut (shut (shut (↑(longV (shut n) (flosOf (shut cs)) o).fst : Int) == (0 : Int)) && (shut (shut (↑(longV (shut n) (flosOf (shut cs)) o).snd : Int) == (0 : Int)) && true)))
 (
 some (shut (shut (longE (shut n) (flosOf (shut cs)) o) == (1 : Int))))
 (
 some (false))) fun v17 =>
 bindO (
 condO (v17)
 (
 guardO (shut (decide (Nums IntKind.i64 (shut (histV (shut n) (flosOf (shut cs)) (shut m) (flosOf (shut ds))).length) (shut (numsL IntKind.i64 (histV (shut n) (flosOf (shut cs)) (shut m) (flosOf (shut ds))))) ∧ Nums IntKind.i64 (shut (m + 1)) (shut (numsL IntKind.i64 (histF (flosOf ds) (List.replicate (m + 1) (0 : Int)) (flosOf cs))))))) <|
 some (shut (decide (intsOf (shut (numsL IntKind.i64 (histV (shut n) (flosOf (shut cs)) (shut m) (flosOf (shut ds))))) = intsOf (shut (numsL IntKind.i64 (histF (flosOf ds) (List.replicate (m + 1) (0 : Int)) (flosOf cs))))))))
 (
 some (false))) fun v18 =>
 bindO (
 condO (v18)
 (
 some (shut (shut (histE (shut n) (flosOf (shut cs)) (shut m) (flosOf (shut ds))) == shut (limC m (flosOf ds)))))
 (
 some (false))) fun v19 =>
 bindO (
 condO (v19)
 (
 guardO (shut (decide (Flos (shut (decV (shut n) (flosOf (shut cs)) c).length) (shut (flosL (decV (shut n) (flosOf (shut cs)) c))) ∧ Flos 0 []))) <|
 some (shut (sameF (flosOf (shut (flosL (decV (shut n) (flosOf (shut cs)) c)))) (flosOf []))))
 (
 some (false))) fun v20 =>
 bindO (
 condO (v20)
 (
 some (shut (shut (decE (shut n) (flosOf (shut cs)) c) == (16 : Int))))
 (
 some (false))) fun v21 =>
 bindO (
 condO (v21)
 (
 some (true))
 (
 some (false))) fun v22 =>
 some ([RLeaf.v (AV.bool v22)]))
 (
 condO (shut (shut (if c < (1 : Int) ∨ c > (2048 : Int) then (3 : Int) else (0 : Int)) == (0 : Int)))
 (
 guardO (shut (decide (Flos n cs ∧ sampErr n (flosOf cs) = (0 : Int) ∧ (1 : Int) ≤ c ∧ c ≤ (↑n : Int)))) <|
 bindO (
 condO (shut (shut (shut (↑(longV (shut n) (flosOf (shut cs)) o).fst : Int) == (0 : Int)) && (shut (shut (↑(longV (shut n) (flosOf (shut cs)) o).snd : Int) == (0 : Int)) && true)))
 (
 some (shut (shut (longE (shut n) (flosOf (shut cs)) o) == (1 : Int))))
 (
 some (false))) fun v19 =>
 bindO (
 condO (v19)
 (
 guardO (shut (decide (Nums IntKind.i64 (shut (histV (shut n) (flosOf (shut cs)) (shut m) (flosOf (shut ds))).length) (shut (numsL IntKind.i64 (histV (shut n) (flosOf (shut cs)) (shut m) (flosOf (shut ds))))) ∧ Nums IntKind.i64 (shut (m + 1)) (shut (numsL IntKind.i64 (histF (flosOf ds) (List.replicate (m + 1) (0 : Int)) (flosOf cs))))))) <|
 some (shut (decide (intsOf (shut (numsL IntKind.i64 (histV (shut n) (flosOf (shut cs)) (shut m) (flosOf (shut ds))))) = intsOf (shut (numsL IntKind.i64 (histF (flosOf ds) (List.replicate (m + 1) (0 : Int)) (flosOf cs))))))))
 (
 some (false))) fun v20 =>
 bindO (
 condO (v20)
 (
 some (shut (shut (histE (shut n) (flosOf (shut cs)) (shut m) (flosOf (shut ds))) == shut (limC m (flosOf ds)))))
 (
 some (false))) fun v21 =>
 bindO (
 condO (v21)
 (
 guardO (shut (decide (Flos (shut (decV (shut n) (flosOf (shut cs)) c).length) (shut (flosL (decV (shut n) (flosOf (shut cs)) c))) ∧ Flos (shut (decR (flosOf cs) n c.toNat c.toNat 0).length) (shut (flosL (decR (flosOf cs) n c.toNat c.toNat 0)))))) <|
 some (shut (sameF (flosOf (shut (flosL (decV (shut n) (flosOf (shut cs)) c)))) (flosOf (shut (flosL (decR (flosOf cs) n c.toNat c.toNat 0)))))))
 (
 some (false))) fun v22 =>
 bindO (
 condO (v22)
 (
 some (shut (shut (decE (shut n) (flosOf (shut cs)) c) == shut (if c < (1 : Int) ∨ c > (2048 : Int) then (3 : Int) else (0 : Int)))))
 (
 some (false))) fun v23 =>
 bindO (
 condO (v23)
 (
 some (true))
 (
 some (false))) fun v24 =>
 some ([RLeaf.v (AV.bool v24)]))
 (
 bindO (
 condO (shut (shut (shut (↑(longV (shut n) (flosOf (shut cs)) o).fst : Int) == (0 : Int)) && (shut (shut (↑(longV (shut n) (flosOf (shut cs)) o).snd : Int) == (0 : Int)) && true)))
 (
 some (shut (shut (longE (shut n) (flosOf (shut cs)) o) == (1 : Int))))
 (
 some (false))) fun v18 =>
 bindO (
 condO (v18)
 (
 guardO (shut (decide (Nums IntKind.i64 (shut (histV (shut n) (flosOf (shut cs)) (shut m) (flosOf (shut ds))).length) (shut (numsL IntKind.i64 (histV (shut n) (flosOf (shut cs)) (shut m) (flosOf (shut ds))))) ∧ Nums IntKind.i64 (shut (m + 1)) (shut (numsL IntKind.i64 (histF (flosOf ds) (List.replicate (m + 1) (0 : Int)) (flosOf cs))))))) <|
 some (shut (decide (intsOf (shut (numsL IntKind.i64 (histV (shut n) (flosOf (shut cs)) (shut m) (flosOf (shut ds))))) = intsOf (shut (numsL IntKind.i64 (histF (flosOf ds) (List.replicate (m + 1) (0 : Int)) (flosOf cs))))))))
 (
 some (false))) fun v19 =>
 bindO (
 condO (v19)
 (
 some (shut (shut (histE (shut n) (flosOf (shut cs)) (shut m) (flosOf (shut ds))) == shut (limC m (flosOf ds)))))
 (
 some (false))) fun v20 =>
 bindO (
 condO (v20)
 (
 guardO (shut (decide (Flos (shut (decV (shut n) (flosOf (shut cs)) c).length) (shut (flosL (decV (shut n) (flosOf (shut cs)) c))) ∧ Flos 0 []))) <|
 some (shut (sameF (flosOf (shut (flosL (decV (shut n) (flosOf (shut cs)) c)))) (flosOf []))))
 (
 some (false))) fun v21 =>
 bindO (
 condO (v21)
 (
 some (shut (shut (decE (shut n) (flosOf (shut cs)) c) == shut (if c < (1 : Int) ∨ c > (2048 : Int) then (3 : Int) else (0 : Int)))))
 (
 some (false))) fun v22 =>
 bindO (
 condO (v22)
 (
 some (true))
 (
 some (false))) fun v23 =>
 some ([RLeaf.v (AV.bool v23)]))))
 (
 bindO (
 condO (shut (shut (if c < (1 : Int) ∨ c > (2048 : Int) then (3 : Int) else (0 : Int)) == (0 : Int)))
 (
 some (shut (decide ((↑n : Int) < c))))
 (
 some (false))) fun v14 =>
 condO (v14)
 (
 bindO (
 condO (shut (shut (shut (↑(longV (shut n) (flosOf (shut cs)) o).fst : Int) == (0 : Int)) && (shut (shut (↑(longV (shut n) (flosOf (shut cs)) o).snd : Int) == (0 : Int)) && true)))
 (
 some (shut (shut (longE (shut n) (flosOf (shut cs)) o) == (1 : Int))))
 (
 some (false))) fun v16 =>
 bindO (
 condO (v16)
 (
 guardO (shut (decide (Nums IntKind.i64 (shut (histV (shut n) (flosOf (shut cs)) (shut m) (flosOf (shut ds))).length) (shut (numsL IntKind.i64 (histV (shut n) (flosOf (shut cs)) (shut m) (flosOf (shut ds))))) ∧ Nums IntKind.i64 0 []))) <|
 some (shut (decide (intsOf (shut (numsL IntKind.i64 (histV (shut n) (flosOf (shut cs)) (shut m) (flosOf (shut ds))))) = intsOf []))))
 (
 some (false))) fun v17 =>
 bindO (
 condO (v17)
 (
 some (shut (shut (histE (shut n) (flosOf (shut cs)) (shut m) (flosOf (shut ds))) == shut (limC m (flosOf ds)))))
 (
 some (false))) fun v18 =>
 bindO (
 condO (v18)
 (
 guardO (shut (decide (Flos (shut (decV (shut n) (flosOf (shut cs)) c).length) (shut (flosL (decV (shut n) (flosOf (shut cs)) c))) ∧ Flos 0 []))) <|
 some (shut (sameF (flosOf (shut (flosL (decV (shut n) (flosOf (shut cs)) c)))) (flosOf []))))
 (
 some (false))) fun v19 =>
 bindO (
 condO (v19)
 (
 some (shut (shut (decE (shut n) (flosOf (shut cs)) c) == (16 : Int))))
 (
 some (false))) fun v20 =>
 bindO (
 condO (v20)
 (
 some (true))
 (
 some (false))) fun v21 =>
 some ([RLeaf.v (AV.bool v21)]))
 (
 condO (shut (shut (if c < (1 : Int) ∨ c > (2048 : Int) then (3 : Int) else (0 : Int)) == (0 : Int)))
 (
 guardO (shut (decide (Flos n cs ∧ sampErr n (flosOf cs) = (0 : Int) ∧ (1 : Int) ≤ c ∧ c ≤ (↑n : Int)))) <|
 bindO (
 condO (shut (shut (shut (↑(longV (shut n) (flosOf (shut cs)) o).fst : Int) == (0 : Int)) && (shut (shut (↑(longV (shut n) (flosOf (shut cs)) o).snd : Int) == (0 : Int)) && true)))
 (
 some (shut (shut (longE (shut n) (flosOf (shut cs)) o) == (1 : Int))))
 (
 some (false))) fun v18 =>
 bindO (
 condO (v18)
 (
 guardO (shut (decide (Nums IntKind.i64 (shut (histV (shut n) (flosOf (shut cs)) (shut m) (flosOf (shut ds))).length) (shut (numsL IntKind.i64 (histV (shut n) (flosOf (shut cs)) (shut m) (flosOf (shut ds))))) ∧ Nums IntKind.i64 0 []))) <|
 some (shut (decide (intsOf (shut (numsL IntKind.i64 (histV (shut n) (flosOf (shut cs)) (shut m) (flosOf (shut ds))))) = intsOf []))))
 (
 some (false))) fun v19 =>
 bindO (
 condO (v19)
 (
 some (shut (shut (histE (shut n) (flosOf (shut cs)) (shut m) (flosOf (shut ds))) == shut (limC m (flosOf ds)))))
 (
 some (false))) fun v20 =>
 bindO (
 condO (v20)
 (
 guardO (shut (decide (Flos (shut (decV (shut n) (flosOf (shut cs)) c).length) (shut (flosL (decV (shut n) (flosOf (shut cs)) c))) ∧ Flos (shut (decR (flosOf cs) n c.toNat c.toNat 0).length) (shut (flosL (decR (flosOf cs) n c.toNat c.toNat 0)))))) <|
 some (shut (sameF (flosOf (shut (flosL (decV (shut n) (flosOf (shut cs)) c)))) (flosOf (shut (flosL (decR (flosOf cs) n c.toNat c.toNat 0)))))))
 (
 some (false))) fun v21 =>
 bindO (
 condO (v21)
 (
 some (shut (shut (decE (shut n) (flosOf (shut cs)) c) == shut (if c < (1 : Int) ∨ c > (2048 : Int) then (3 : Int) else (0 : Int)))))
 (
 some (false))) fun v22 =>
 bindO (
 condO (v22)
 (
 some (true))
 (
 some (false))) fun v23 =>
 some ([RLeaf.v (AV.bool v23)]))
 (
 bindO (
 condO (shut (shut (shut (↑(longV (shut n) (flosOf (shut cs)) o).fst : Int) == (0 : Int)) && (shut (shut (↑(longV (shut n) (flosOf (shut cs)) o).snd : Int) == (0 : Int)) && true)))
 (
 some (shut (shut (longE (shut n) (flosOf (shut cs)) o) == (1 : Int))))
 (
 some (false))) fun v17 =>
 bindO (
 condO (v17)
 (
 guardO (shut (decide (Nums IntKind.i64 (shut (histV (shut n) (flosOf (shut cs)) (shut m) (flosOf (shut ds))).length) (shut (numsL IntKind.i64 (histV (shut n) (flosOf (shut cs)) (shut m) (flosOf (shut ds))))) ∧ Nums IntKind.i64 0 []))) <|
 some (shut (decide (intsOf (shut (numsL IntKind.i64 (histV (shut n) (flosOf (shut cs)) (shut m) (flosOf (shut ds))))) = intsOf []))))
 (
 some (false))) fun v18 =>
 bindO (
 condO (v18)
 (
 some (shut (shut (histE (shut n) (flosOf (shut cs)) (shut m) (flosOf (shut ds))) == shut (limC m (flosOf ds)))))
 (
 some (false))) fun v19 =>
 bindO (
 condO (v19)
 (
 guardO (shut (decide (Flos (shut (decV (shut n) (flosOf (shut cs)) c).length) (shut (flosL (decV (shut n) (flosOf (shut cs)) c))) ∧ Flos 0 []))) <|
 some (shut (sameF (flosOf (shut (flosL (decV (shut n) (flosOf (shut cs)) c)))) (flosOf []))))
 (
 some (false))) fun v20 =>
 bindO (
 condO (v20)
 (
 some (shut (shut (decE (shut n) (flosOf (shut cs)) c) == shut (if c < (1 : Int) ∨ c > (2048 : Int) then (3 : Int) else (0 : Int)))))
 (
 some (false))) fun v21 =>
 bindO (
 condO (v21)
 (
 some (true))
 (
 some (false))) fun v22 =>
 some ([RLeaf.v (AV.bool v22)]))))))
 (
 bindO (
 condO (shut (shut (shut (↑(longV (shut n) (flosOf (shut cs)) o).fst : Int) == (0 : Int)) && (shut (shut (↑(longV (shut n) (flosOf (shut cs)) o).snd : Int) == (0 : Int)) && true)))
 (
 some (shut (shut (longE (shut n) (flosOf (shut cs)) o) == shut (sampErr n (flosOf cs)))))
 (
 some (false))) fun v11 =>
 bindO (
 condO (v11)
 (
 guardO (shut (decide (Nums IntKind.i64 (shut (histV (shut n) (flosOf (shut cs)) (shut m) (flosOf (shut ds))).length) (shut (numsL IntKind.i64 (histV (shut n) (flosOf (shut cs)) (shut m) (flosOf (shut ds))))) ∧ Nums IntKind.i64 0 []))) <|
 some (shut (decide (intsOf (shut (numsL IntKind.i64 (histV (shut n) (flosOf (shut cs)) (shut m) (flosOf (shut ds))))) = intsOf []))))
 (
 some (false))) fun v12 =>
 bindO (
 condO (v12)
 (
 some (shut (shut (histE (shut n) (flosOf (shut cs)) (shut m) (flosOf (shut ds))) == shut (sampErr n (flosOf cs)))))
 (
 some (false))) fun v13 =>
 bindO (
 condO (v13)
 (
 guardO (shut (decide (Flos (shut (decV (shut n) (flosOf (shut cs)) c).length) (shut (flosL (decV (shut n) (flosOf (shut cs)) c))) ∧ Flos 0 []))) <|
 some (shut (sameF (flosOf (shut (flosL (decV (shut n) (flosOf (shut cs)) c)))) (flosOf []))))
 (
 some (false))) fun v14 =>
 bindO (
 condO (v14)
 (
 some (shut (shut (decE (shut n) (flosOf (shut cs)) c) == shut (sampErr n (flosOf cs)))))
 (
 some (false))) fun v15 =>
 bindO (
 condO (v15)
 (
 some (true))
 (
 some (false))) fun v16 =>
 some ([RLeaf.v (AV.bool v16)])))) := by kernel_rfl


end Go.Abs
end

