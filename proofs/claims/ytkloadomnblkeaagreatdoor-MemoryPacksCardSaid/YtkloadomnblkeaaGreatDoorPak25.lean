/- Part 25 of the library that the proof of the statement uses: an abstract run of the program, proved right, and what its functions give. -/
import Derived.Test.YtkloadomnblkeaaGreatDoorPak24
set_option linter.unusedVariables false
set_option linter.unusedSimpArgs false

section
/- Functions of the Memory seat, lifted (printed by the tool gen2.py). -/
set_option maxRecDepth 100000
set_option linter.unusedVariables false
namespace Go.Abs
open Go.Proofs Classical

theorem run_9 (N : Nat) (n : Nat) (cs : List AV) (m : Nat) (ds : List AV) : (fsM mz9 waysP N 8).call (List RLeaf) 9 [.ofB (.list n cs), .ofB (.list m ds)] [] (resK [false]) = (
 bindO (
 condO (!shut (lenB (↑n : Int) (100 : Int) (4096 : Int)))
 (
 some (true))
 (
 condO (!shut (lenB (↑m : Int) (100 : Int) (8192 : Int)))
 (
 some (shut ((↑m : Int) != (4097 : Int))))
 (
 some (false)))) fun v0 =>
 condO (v0)
 (
 some ([RLeaf.v (AV.bool true)]))
 (
 guardO (shut (decide (cs.length = n * 1))) <|
 guardO (shut (decide ((0 + n) * 9 ≤ 549755813888))) <|
 guardO (shut (decide (Ints (0 + n) (zrow (ofV (Go.Value.int IntKind.i64 (0 : Int))).cells 0 ++ cs)))) <|
 guardO (shut (decide (ds.length = m * 1))) <|
 guardO (shut (decide ((0 + m) * 2 ≤ 549755813888))) <|
 guardO (shut (decide (Bytes (0 + m) (zrow (ofV (Go.Value.int IntKind.u8 (0 : Int))).cells 0 ++ ds)))) <|
 guardO (shut (decide (Ints n cs))) <|
 condO (shut (shut (codesE n (intsOf cs)) == (0 : Int)))
 (
 guardO (shut (decide (Ints n cs ∧ codesE n (intsOf cs) = (0 : Int)))) <|
 guardO (shut (decide (Bytes m ds))) <|
 guardO (shut (decide (Nums IntKind.u8 (shut (packR (0 + n) (intsOf (zrow (ofV (Go.Value.int IntKind.i64 (0 : Int))).cells 0 ++ cs))).fst.length) (shut (numsL IntKind.u8 (packR (0 + n) (intsOf (zrow (ofV (Go.Value.int IntKind.i64 (0 : Int))).cells 0 ++ cs))).fst)) ∧ Nums IntKind.u8 (shut (packL (0 : Int) (intsOf cs)).length) (shut (numsL IntKind.u8 (packL (0 : Int) (intsOf cs))))))) <|
 bindO (
 condO (shut (decide (intsOf (shut (numsL IntKind.u8 (packR (0 + n) (intsOf (zrow (ofV (Go.Value.int IntKind.i64 (0 : Int))).cells 0 ++ cs))).fst)) = intsOf (shut (numsL IntKind.u8 (packL (0 : Int) (intsOf cs)))))))
 (
 some (shut (shut (packR (0 + n) (intsOf (zrow (ofV (Go.Value.int IntKind.i64 (0 : Int))).cells 0 ++ cs))).snd == shut (codesE n (intsOf cs)))))
 (
 some (false))) fun v13 =>
 bindO (
 condO (v13)
 (
 guardO (shut (decide (Nums IntKind.i64 (shut (okL (unpR (0 + m) (intsOf (zrow (ofV (Go.Value.int IntKind.u8 (0 : Int))).cells 0 ++ ds)))).length) (shut (numsL IntKind.i64 (okL (unpR (0 + m) (intsOf (zrow (ofV (Go.Value.int IntKind.u8 (0 : Int))).cells 0 ++ ds)))))) ∧ Nums IntKind.i64 (shut (okL (unpR m (intsOf ds))).length) (shut (numsL IntKind.i64 (okL (unpR m (intsOf ds)))))))) <|
 some (shut (decide (intsOf (shut (numsL IntKind.i64 (okL (unpR (0 + m) (intsOf (zrow (ofV (Go.Value.int IntKind.u8 (0 : Int))).cells 0 ++ ds)))))) = intsOf (shut (numsL IntKind.i64 (okL (unpR m (intsOf ds)))))))))
 (
 some (false))) fun v14 =>
 bindO (
 condO (v14)
 (
 some (shut (shut (erE (unpR (0 + m) (intsOf (zrow (ofV (Go.Value.int IntKind.u8 (0 : Int))).cells 0 ++ ds)))) == shut (erE (unpR m (intsOf ds))))))
 (
 some (false))) fun v15 =>
 bindO (
 condO (v15)
 (
 some (true))
 (
 some (false))) fun v16 =>
 some ([RLeaf.v (AV.bool v16)]))
 (
 guardO (shut (decide (Bytes m ds))) <|
 guardO (shut (decide (Nums IntKind.u8 (shut (packR (0 + n) (intsOf (zrow (ofV (Go.Value.int IntKind.i64 (0 : Int))).cells 0 ++ cs))).fst.length) (shut (numsL IntKind.u8 (packR (0 + n) (intsOf (zrow (ofV (Go.Value.int IntKind.i64 (0 : Int))).cells 0 ++ cs))).fst)) ∧ Nums IntKind.u8 0 []))) <|
 bindO (
 condO (shut (decide (intsOf (shut (numsL IntKind.u8 (packR (0 + n) (intsOf (zrow (ofV (Go.Value.int IntKind.i64 (0 : Int))).cells 0 ++ cs))).fst)) = intsOf [])))
 (
 some (shut (shut (packR (0 + n) (intsOf (zrow (ofV (Go.Value.int IntKind.i64 (0 : Int))).cells 0 ++ cs))).snd == shut (codesE n (intsOf cs)))))
 (
 some (false))) fun v12 =>
 bindO (
 condO (v12)
 (
 guardO (shut (decide (Nums IntKind.i64 (shut (okL (unpR (0 + m) (intsOf (zrow (ofV (Go.Value.int IntKind.u8 (0 : Int))).cells 0 ++ ds)))).length) (shut (numsL IntKind.i64 (okL (unpR (0 + m) (intsOf (zrow (ofV (Go.Value.int IntKind.u8 (0 : Int))).cells 0 ++ ds)))))) ∧ Nums IntKind.i64 (shut (okL (unpR m (intsOf ds))).length) (shut (numsL IntKind.i64 (okL (unpR m (intsOf ds)))))))) <|
 some (shut (decide (intsOf (shut (numsL IntKind.i64 (okL (unpR (0 + m) (intsOf (zrow (ofV (Go.Value.int IntKind.u8 (0 : Int))).cells 0 ++ ds)))))) = intsOf (shut (numsL IntKind.i64 (okL (unpR m (intsOf ds)))))))))
 (
 some (false))) fun v13 =>
 bindO (
 condO (v13)
 (
 some (shut (shut (erE (unpR (0 + m) (intsOf (zrow (ofV (Go.Value.int IntKind.u8 (0 : Int))).cells 0 ++ ds)))) == shut (erE (unpR m (intsOf ds))))))
 (
 some (false))) fun v14 =>
 bindO (
 condO (v14)
 (
 some (true))
 (
 some (false))) fun v15 =>
 some ([RLeaf.v (AV.bool v15)])))) := by kernel_rfl


end Go.Abs
end

