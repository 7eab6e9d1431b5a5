/- Part 36 of the library that the proof of the statement uses: an abstract run of the program, proved right, and what its functions give. -/
import Derived.Test.YtkloadomnblkeaaGreatDoorBd35
set_option linter.unusedVariables false
set_option linter.unusedSimpArgs false

section
/- Functions of the Memory seat, lifted (printed by the tool gen2.py). -/
set_option maxRecDepth 100000
set_option linter.unusedVariables false
namespace Go.Abs
open Go.Proofs Classical

theorem run_3 (N : Nat) (n : Nat) (cs : List AV) (b c : Int) (m : Nat) (ls : List AV) : (fsM mzO waysQ N 12).call (List RLeaf) 3 [.s (.agg [.b (.list n cs), .b (.int .i64 b)]), .s (.agg [.b (.int .i64 c), .b (.list m ls)])] [] (resK [false]) = (
 bindO (
 condO (!shut (lenB (↑n : Int) (64 : Int) (4096 : Int)))
 (
 some (true))
 (
 guardO (shut (decide (LvsW m ls))) <|
 some (!shut (shortT m ls)))) fun v0 =>
 condO (v0)
 (
 some ([RLeaf.v (AV.bool true)]))
 (
 guardO (shut (decide (Flos n cs ∧ n ≤ 100000000))) <|
 guardO (shut (decide (Flos (shut n) (shut cs)))) <|
 guardO (shut (decide (Flos n cs))) <|
 condO (shut (shut (sampErr n (flosOf cs)) == (0 : Int)))
 (
 condO (shut (shut (if b < (1 : Int) ∨ b > (256 : Int) then (3 : Int) else (0 : Int)) == (0 : Int)))
 (
 guardO (shut (decide (Flos n cs ∧ n ≤ 5000 ∧ (1 : Int) ≤ b ∧ b ≤ (10000 : Int)))) <|
 guardO (shut (decide (Lvs (shut (buildV (shut n) (flosOf (shut cs)) b).snd.length) (shut (lvCells (buildV (shut n) (flosOf (shut cs)) b).snd))))) <|
 guardO (shut (decide (Lvs (shut (shut (buildV (shut n) (flosOf (shut cs)) b).snd.length)) (shut (shut (lvCells (buildV (shut n) (flosOf (shut cs)) b).snd))) ∧ Lvs (shut (refLv (flosOf cs) b.toNat).length) (shut (lvCells (refLv (flosOf cs) b.toNat)))))) <|
 condO (shut (decide (shut (shut (buildV (shut n) (flosOf (shut cs)) b).fst) = shut b) && decide (shut (shut (buildV (shut n) (flosOf (shut cs)) b).snd.length) = shut (refLv (flosOf cs) b.toNat).length) && sameT (shut (shut (buildV (shut n) (flosOf (shut cs)) b).snd.length)) (shut (shut (lvCells (buildV (shut n) (flosOf (shut cs)) b).snd))) (shut (lvCells (refLv (flosOf cs) b.toNat)))))
 (
 condO (shut (shut (buildE (shut n) (flosOf (shut cs)) b) == shut (if b < (1 : Int) ∨ b > (256 : Int) then (3 : Int) else (0 : Int))))
 (
 guardO (shut (decide (Flos n cs ∧ n ≤ 100000000))) <|
 guardO (shut (decide (Lvs m ls))) <|
 guardO (shut (decide (Flos (shut n) (shut cs) ∧ Lvs (shut m) (shut ls)))) <|
 guardO (shut (decide (Flos n cs ∧ Lvs m ls))) <|
 condO (shut (shut (chkT (shut n) (flosOf (shut cs)) (shut c) (shut m) (shut ls)) == shut (chkT n (flosOf cs) c m ls)))
 (
 some ([RLeaf.v (AV.bool true)]))
 (
 some ([RLeaf.v (AV.bool false)])))
 (
 some ([RLeaf.v (AV.bool false)])))
 (
 some ([RLeaf.v (AV.bool false)])))
 (
 guardO (shut (decide (Lvs (shut (buildV (shut n) (flosOf (shut cs)) b).snd.length) (shut (lvCells (buildV (shut n) (flosOf (shut cs)) b).snd))))) <|
 guardO (shut (decide (Lvs (shut (shut (buildV (shut n) (flosOf (shut cs)) b).snd.length)) (shut (shut (lvCells (buildV (shut n) (flosOf (shut cs)) b).snd))) ∧ Lvs 0 []))) <|
 condO (shut (decide (shut (shut (buildV (shut n) (flosOf (shut cs)) b).fst) = (0 : Int)) && decide (shut (shut (buildV (shut n) (flosOf (shut cs)) b).snd.length) = 0) && sameT (shut (shut (buildV (shut n) (flosOf (shut cs)) b).snd.length)) (shut (shut (lvCells (buildV (shut n) (flosOf (shut cs)) b).snd))) []))
 (
 condO (shut (shut (buildE (shut n) (flosOf (shut cs)) b) == shut (if b < (1 : Int) ∨ b > (256 : Int) then (3 : Int) else (0 : Int))))
 (
 guardO (shut (decide (Flos n cs ∧ n ≤ 100000000))) <|
 guardO (shut (decide (Lvs m ls))) <|
 guardO (shut (decide (Flos (shut n) (shut cs) ∧ Lvs (shut m) (shut ls)))) <|
 guardO (shut (decide (Flos n cs ∧ Lvs m ls))) <|
 condO (shut (shut (chkT (shut n) (flosOf (shut cs)) (shut c) (shut m) (shut ls)) == shut (chkT n (flosOf cs) c m ls)))
 (
 some ([RLeaf.v (AV.bool true)]))
 (
 some ([RLeaf.v (AV.bool false)])))
 (
 some ([RLeaf.v (AV.bool false)])))
 (
 some ([RLeaf.v (AV.bool false)]))))
 (
 condO (shut (shut (sampErr n (flosOf cs)) == (0 : Int)))
 (
 guardO (shut (decide (Flos n cs ∧ n ≤ 5000 ∧ (1 : Int) ≤ b ∧ b ≤ (10000 : Int)))) <|
 guardO (shut (decide (Lvs (shut (buildV (shut n) (flosOf (shut cs)) b).snd.length) (shut (lvCells (buildV (shut n) (flosOf (shut cs)) b).snd))))) <|
 guardO (shut (decide (Lvs (shut (shut (buildV (shut n) (flosOf (shut cs)) b).snd.length)) (shut (shut (lvCells (buildV (shut n) (flosOf (shut cs)) b).snd))) ∧ Lvs (shut (refLv (flosOf cs) b.toNat).length) (shut (lvCells (refLv (flosOf cs) b.toNat)))))) <|
 condO (shut (decide (shut (shut (buildV (shut n) (flosOf (shut cs)) b).fst) = shut b) && decide (shut (shut (buildV (shut n) (flosOf (shut cs)) b).snd.length) = shut (refLv (flosOf cs) b.toNat).length) && sameT (shut (shut (buildV (shut n) (flosOf (shut cs)) b).snd.length)) (shut (shut (lvCells (buildV (shut n) (flosOf (shut cs)) b).snd))) (shut (lvCells (refLv (flosOf cs) b.toNat)))))
 (
 condO (shut (shut (buildE (shut n) (flosOf (shut cs)) b) == shut (sampErr n (flosOf cs))))
 (
 guardO (shut (decide (Flos n cs ∧ n ≤ 100000000))) <|
 guardO (shut (decide (Lvs m ls))) <|
 guardO (shut (decide (Flos (shut n) (shut cs) ∧ Lvs (shut m) (shut ls)))) <|
 guardO (shut (decide (Flos n cs ∧ Lvs m ls))) <|
 condO (shut (shut (chkT (shut n) (flosOf (shut cs)) (shut c) (shut m) (shut ls)) == shut (chkT n (flosOf cs) c m ls)))
 (
 some ([RLeaf.v (AV.bool true)]))
 (
 some ([RLeaf.v (AV.bool false)])))
 (
 some ([RLeaf.v (AV.bool false)])))
 (
 some ([RLeaf.v (AV.bool false)])))
 (
 guardO (shut (decide (Lvs (shut (buildV (shut n) (flosOf (shut cs)) b).snd.length) (shut (lvCells (buildV (shut n) (flosOf (shut cs)) b).snd))))) <|
 guardO (shut (decide (Lvs (shut (shut (buildV (shut n) (flosOf (shut cs)) b).snd.length)) (shut (shut (lvCells (buildV (shut n) (flosOf (shut cs)) b).snd))) ∧ Lvs 0 []))) <|
 condO (shut (decide (shut (shut (buildV (shut n) (flosOf (shut cs)) b).fst) = (0 : Int)) && decide (shut (shut (buildV (shut n) (flosOf (shut cs)) b).snd.length) = 0) && sameT (shut (shut (buildV (shut n) (flosOf (shut cs)) b).snd.length)) (shut (shut (lvCells (buildV (shut n) (flosOf (shut cs)) b).snd))) []))
 (
 condO (shut (shut (buildE (shut n) (flosOf (shut cs)) b) == shut (sampErr n (flosOf cs))))
 (
 guardO (shut (decide (Flos n cs ∧ n ≤ 100000000))) <|
 guardO (shut (decide (Lvs m ls))) <|
 guardO (shut (decide (Flos (shut n) (shut cs) ∧ Lvs (shut m) (shut ls)))) <|
 guardO (shut (decide (Flos n cs ∧ Lvs m ls))) <|
 condO (shut (shut (chkT (shut n) (flosOf (shut cs)) (shut c) (shut m) (shut ls)) == shut (chkT n (flosOf cs) c m ls)))
 (
 some ([RLeaf.v (AV.bool true)]))
 (
 some ([RLeaf.v (AV.bool false)])))
 (
 some ([RLeaf.v (AV.bool false)])))
 (
 some ([RLeaf.v (AV.bool false)])))))) := by kernel_rfl


end Go.Abs
end

