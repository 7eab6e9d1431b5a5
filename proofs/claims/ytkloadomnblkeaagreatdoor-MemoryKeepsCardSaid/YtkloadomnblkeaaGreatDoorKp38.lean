/- Part 38 of the library that the proof of the statement uses: an abstract run of the program, proved right, and what its functions give. -/
import Derived.Test.YtkloadomnblkeaaGreatDoorKp37
set_option linter.unusedVariables false
set_option linter.unusedSimpArgs false

section
/- Functions of the Memory seat, lifted (printed by the tool gen2.py). -/
set_option maxRecDepth 100000
set_option linter.unusedVariables false
namespace Go.Abs
open Go.Proofs Classical

theorem run_10 (N : Nat) (n : Nat) (cs : List AV) (m : Nat) (ds : List AV) : (fsM mz10 waysP N 8).call (List RLeaf) 10 [.ofB (.list n cs), .ofB (.list m ds)] [] (resK [false]) = (
 bindO (
 condO (!shut (lenB (↑n : Int) (600 : Int) (4096 : Int)))
 (
 some (true))
 (
 some (!shut (lenB (↑m : Int) (120 : Int) (12288 : Int))))) fun v0 =>
 condO (v0)
 (
 some ([RLeaf.v (AV.bool true)]))
 (
 guardO (shut (decide (cs.length = n * 1))) <|
 guardO (shut (decide ((0 + n) * 3 ≤ 549755813888))) <|
 guardO (shut (decide (Words (0 + n) (zrow (ofV (Go.Value.int IntKind.u16 (0 : Int))).cells 0 ++ cs)))) <|
 guardO (shut (decide (ds.length = m * 1))) <|
 guardO (shut (decide ((0 + m) * 2 ≤ 549755813888))) <|
 guardO (shut (decide (Bytes (0 + m) (zrow (ofV (Go.Value.int IntKind.u8 (0 : Int))).cells 0 ++ ds)))) <|
 condO (shut (decide ((↑n : Int) > (4096 : Int))))
 (
 guardO (shut (decide (Bytes m ds))) <|
 guardO (shut (decide (Nums IntKind.u8 (shut (if 0 + n > 4096 then [] else packW (intsOf (zrow (ofV (Go.Value.int IntKind.u16 (0 : Int))).cells 0 ++ cs))).length) (shut (numsL IntKind.u8 (if 0 + n > 4096 then [] else packW (intsOf (zrow (ofV (Go.Value.int IntKind.u16 (0 : Int))).cells 0 ++ cs))))) ∧ Nums IntKind.u8 0 []))) <|
 bindO (
 condO (shut (decide (intsOf (shut (numsL IntKind.u8 (if 0 + n > 4096 then [] else packW (intsOf (zrow (ofV (Go.Value.int IntKind.u16 (0 : Int))).cells 0 ++ cs))))) = intsOf [])))
 (
 some (shut (shut (if 0 + n > 4096 then (5 : Int) else (0 : Int)) == (5 : Int))))
 (
 some (false))) fun v11 =>
 bindO (
 condO (v11)
 (
 guardO (shut (decide (Nums IntKind.u16 (shut (okL (unpWR (0 + m) (intsOf (zrow (ofV (Go.Value.int IntKind.u8 (0 : Int))).cells 0 ++ ds)))).length) (shut (numsL IntKind.u16 (okL (unpWR (0 + m) (intsOf (zrow (ofV (Go.Value.int IntKind.u8 (0 : Int))).cells 0 ++ ds)))))) ∧ Nums IntKind.u16 (shut (okL (unpWR m (intsOf ds))).length) (shut (numsL IntKind.u16 (okL (unpWR m (intsOf ds)))))))) <|
 some (shut (decide (intsOf (shut (numsL IntKind.u16 (okL (unpWR (0 + m) (intsOf (zrow (ofV (Go.Value.int IntKind.u8 (0 : Int))).cells 0 ++ ds)))))) = intsOf (shut (numsL IntKind.u16 (okL (unpWR m (intsOf ds)))))))))
 (
 some (false))) fun v12 =>
 bindO (
 condO (v12)
 (
 some (shut (shut (erE (unpWR (0 + m) (intsOf (zrow (ofV (Go.Value.int IntKind.u8 (0 : Int))).cells 0 ++ ds)))) == shut (erE (unpWR m (intsOf ds))))))
 (
 some (false))) fun v13 =>
 bindO (
 condO (v13)
 (
 some (true))
 (
 some (false))) fun v14 =>
 some ([RLeaf.v (AV.bool v14)]))
 (
 guardO (shut (decide (Words n cs ∧ n ≤ 4096))) <|
 guardO (shut (decide (Bytes m ds))) <|
 guardO (shut (decide (Nums IntKind.u8 (shut (if 0 + n > 4096 then [] else packW (intsOf (zrow (ofV (Go.Value.int IntKind.u16 (0 : Int))).cells 0 ++ cs))).length) (shut (numsL IntKind.u8 (if 0 + n > 4096 then [] else packW (intsOf (zrow (ofV (Go.Value.int IntKind.u16 (0 : Int))).cells 0 ++ cs))))) ∧ Nums IntKind.u8 (shut (packW (intsOf cs)).length) (shut (numsL IntKind.u8 (packW (intsOf cs))))))) <|
 bindO (
 condO (shut (decide (intsOf (shut (numsL IntKind.u8 (if 0 + n > 4096 then [] else packW (intsOf (zrow (ofV (Go.Value.int IntKind.u16 (0 : Int))).cells 0 ++ cs))))) = intsOf (shut (numsL IntKind.u8 (packW (intsOf cs)))))))
 (
 some (shut (shut (if 0 + n > 4096 then (5 : Int) else (0 : Int)) == (0 : Int))))
 (
 some (false))) fun v12 =>
 bindO (
 condO (v12)
 (
 guardO (shut (decide (Nums IntKind.u16 (shut (okL (unpWR (0 + m) (intsOf (zrow (ofV (Go.Value.int IntKind.u8 (0 : Int))).cells 0 ++ ds)))).length) (shut (numsL IntKind.u16 (okL (unpWR (0 + m) (intsOf (zrow (ofV (Go.Value.int IntKind.u8 (0 : Int))).cells 0 ++ ds)))))) ∧ Nums IntKind.u16 (shut (okL (unpWR m (intsOf ds))).length) (shut (numsL IntKind.u16 (okL (unpWR m (intsOf ds)))))))) <|
 some (shut (decide (intsOf (shut (numsL IntKind.u16 (okL (unpWR (0 + m) (intsOf (zrow (ofV (Go.Value.int IntKind.u8 (0 : Int))).cells 0 ++ ds)))))) = intsOf (shut (numsL IntKind.u16 (okL (unpWR m (intsOf ds)))))))))
 (
 some (false))) fun v13 =>
 bindO (
 condO (v13)
 (
 some (shut (shut (erE (unpWR (0 + m) (intsOf (zrow (ofV (Go.Value.int IntKind.u8 (0 : Int))).cells 0 ++ ds)))) == shut (erE (unpWR m (intsOf ds))))))
 (
 some (false))) fun v14 =>
 bindO (
 condO (v14)
 (
 some (true))
 (
 some (false))) fun v15 =>
 some ([RLeaf.v (AV.bool v15)])))) := by kernel_rfl


end Go.Abs
end

