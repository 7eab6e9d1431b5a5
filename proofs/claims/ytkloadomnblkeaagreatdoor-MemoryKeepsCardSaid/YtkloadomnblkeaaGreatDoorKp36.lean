/- Part 36 of the library that the proof of the statement uses: an abstract run of the program, proved right, and what its functions give. -/
import Derived.Test.YtkloadomnblkeaaGreatDoorKp35
set_option linter.unusedVariables false
set_option linter.unusedSimpArgs false

section
/- Functions of the Memory seat, lifted (printed by the tool gen2.py). -/
set_option maxRecDepth 100000
set_option linter.unusedVariables false
namespace Go.Abs
open Go.Proofs Classical

theorem run_14 (N : Nat) (n : Nat) (cs : List AV) (m : Nat) (ds : List AV) (q : Nat) (es : List AV) : (fsM mz10 waysP N 8).call (List RLeaf) 14 [.ofB (.list n cs), .ofB (.list m ds), .ofB (.list q es)] [] (resK [false]) = (
 bindO (
 condO (shut (decide ((↑n : Int) > (100 : Int))))
 (
 some (true))
 (
 guardO (shut (decide (Ints n cs))) <|
 some (shut (shut (codesE n (intsOf cs)) != (0 : Int))))) fun v0 =>
 bindO (
 condO (v0)
 (
 some (true))
 (
 some (shut (decide ((↑m : Int) > (600 : Int)))))) fun v1 =>
 bindO (
 condO (v1)
 (
 some (true))
 (
 some (shut (decide ((↑q : Int) > (100 : Int)))))) fun v2 =>
 condO (v2)
 (
 some ([RLeaf.v (AV.bool true)]))
 (
 guardO (shut (decide (cs.length = n * 1))) <|
 guardO (shut (decide ((0 + n) * 9 ≤ 549755813888))) <|
 guardO (shut (decide (Ints (0 + n) (zrow (ofV (Go.Value.int IntKind.i64 (0 : Int))).cells 0 ++ cs)))) <|
 guardO (shut (decide (Bytes (shut (packR (0 + n) (intsOf (zrow (ofV (Go.Value.int IntKind.i64 (0 : Int))).cells 0 ++ cs))).fst.length) (shut (numsL IntKind.u8 (packR (0 + n) (intsOf (zrow (ofV (Go.Value.int IntKind.i64 (0 : Int))).cells 0 ++ cs))).fst))))) <|
 guardO (shut (decide (ds.length = m * 1))) <|
 guardO (shut (decide ((0 + m) * 3 ≤ 549755813888))) <|
 guardO (shut (decide (Words (0 + m) (zrow (ofV (Go.Value.int IntKind.u16 (0 : Int))).cells 0 ++ ds)))) <|
 guardO (shut (decide (Bytes (shut (if 0 + m > 4096 then [] else packW (intsOf (zrow (ofV (Go.Value.int IntKind.u16 (0 : Int))).cells 0 ++ ds))).length) (shut (numsL IntKind.u8 (if 0 + m > 4096 then [] else packW (intsOf (zrow (ofV (Go.Value.int IntKind.u16 (0 : Int))).cells 0 ++ ds)))))))) <|
 bindO (
 condO (shut (shut (IntKind.i64.wrap (shut (IntKind.i64.wrap (shut (IntKind.i64.wrap (shut (packR (0 + n) (intsOf (zrow (ofV (Go.Value.int IntKind.i64 (0 : Int))).cells 0 ++ cs))).snd + shut (erE (unpR (shut (packR (0 + n) (intsOf (zrow (ofV (Go.Value.int IntKind.i64 (0 : Int))).cells 0 ++ cs))).fst.length) (intsOf (shut (numsL IntKind.u8 (packR (0 + n) (intsOf (zrow (ofV (Go.Value.int IntKind.i64 (0 : Int))).cells 0 ++ cs))).fst))))))) + shut (if 0 + m > 4096 then (5 : Int) else (0 : Int)))) + shut (erE (unpWR (shut (if 0 + m > 4096 then [] else packW (intsOf (zrow (ofV (Go.Value.int IntKind.u16 (0 : Int))).cells 0 ++ ds))).length) (intsOf (shut (numsL IntKind.u8 (if 0 + m > 4096 then [] else packW (intsOf (zrow (ofV (Go.Value.int IntKind.u16 (0 : Int))).cells 0 ++ ds)))))))))) != (0 : Int)))
 (
 some (true))
 (
 guardO (shut (decide (Nums IntKind.i64 (shut (okL (unpR (shut (packR (0 + n) (intsOf (zrow (ofV (Go.Value.int IntKind.i64 (0 : Int))).cells 0 ++ cs))).fst.length) (intsOf (shut (numsL IntKind.u8 (packR (0 + n) (intsOf (zrow (ofV (Go.Value.int IntKind.i64 (0 : Int))).cells 0 ++ cs))).fst))))).length) (shut (numsL IntKind.i64 (okL (unpR (shut (packR (0 + n) (intsOf (zrow (ofV (Go.Value.int IntKind.i64 (0 : Int))).cells 0 ++ cs))).fst.length) (intsOf (shut (numsL IntKind.u8 (packR (0 + n) (intsOf (zrow (ofV (Go.Value.int IntKind.i64 (0 : Int))).cells 0 ++ cs))).fst))))))) ∧ Nums IntKind.i64 n cs))) <|
 some (!shut (decide (intsOf (shut (numsL IntKind.i64 (okL (unpR (shut (packR (0 + n) (intsOf (zrow (ofV (Go.Value.int IntKind.i64 (0 : Int))).cells 0 ++ cs))).fst.length) (intsOf (shut (numsL IntKind.u8 (packR (0 + n) (intsOf (zrow (ofV (Go.Value.int IntKind.i64 (0 : Int))).cells 0 ++ cs))).fst))))))) = intsOf cs))))) fun v12 =>
 bindO (
 condO (v12)
 (
 some (true))
 (
 guardO (shut (decide (Nums IntKind.u16 (shut (okL (unpWR (shut (if 0 + m > 4096 then [] else packW (intsOf (zrow (ofV (Go.Value.int IntKind.u16 (0 : Int))).cells 0 ++ ds))).length) (intsOf (shut (numsL IntKind.u8 (if 0 + m > 4096 then [] else packW (intsOf (zrow (ofV (Go.Value.int IntKind.u16 (0 : Int))).cells 0 ++ ds)))))))).length) (shut (numsL IntKind.u16 (okL (unpWR (shut (if 0 + m > 4096 then [] else packW (intsOf (zrow (ofV (Go.Value.int IntKind.u16 (0 : Int))).cells 0 ++ ds))).length) (intsOf (shut (numsL IntKind.u8 (if 0 + m > 4096 then [] else packW (intsOf (zrow (ofV (Go.Value.int IntKind.u16 (0 : Int))).cells 0 ++ ds)))))))))) ∧ Nums IntKind.u16 m ds))) <|
 some (!shut (decide (intsOf (shut (numsL IntKind.u16 (okL (unpWR (shut (if 0 + m > 4096 then [] else packW (intsOf (zrow (ofV (Go.Value.int IntKind.u16 (0 : Int))).cells 0 ++ ds))).length) (intsOf (shut (numsL IntKind.u8 (if 0 + m > 4096 then [] else packW (intsOf (zrow (ofV (Go.Value.int IntKind.u16 (0 : Int))).cells 0 ++ ds)))))))))) = intsOf ds))))) fun v13 =>
 bindO (
 condO (v13)
 (
 some (true))
 (
 some (shut (decide ((↑(shut (packR (0 + n) (intsOf (zrow (ofV (Go.Value.int IntKind.i64 (0 : Int))).cells 0 ++ cs))).fst.length) : Int) < (↑n : Int)))))) fun v14 =>
 bindO (
 condO (v14)
 (
 some (true))
 (
 some (shut (decide ((↑(shut (packR (0 + n) (intsOf (zrow (ofV (Go.Value.int IntKind.i64 (0 : Int))).cells 0 ++ cs))).fst.length) : Int) > shut (IntKind.i64.wrap ((2 : Int) * (↑n : Int)))))))) fun v15 =>
 bindO (
 condO (v15)
 (
 some (true))
 (
 guardO (shut (decide ((3 : Int) ≠ (0 : Int)))) <|
 some (shut (shut ((↑(shut (if 0 + m > 4096 then [] else packW (intsOf (zrow (ofV (Go.Value.int IntKind.u16 (0 : Int))).cells 0 ++ ds))).length) : Int).tmod (3 : Int)) != (0 : Int))))) fun v16 =>
 condO (v16)
 (
 some ([RLeaf.v (AV.bool false)]))
 (
 loopC N (fun r_18 (x0_18 : Nat) (x1_18 : List AV) (x2_18 : Nat) (x3_18 : List AV) (x4_18 : Nat) (x5_18 : List AV) (x6_18 : Nat) (x7_18 : List AV) (x8_18 : Nat) (x9_18 : List AV) (x10_18 : Bool) (x11_18 : Int) (x12_18 : Int) (x13_18 : Nat) (x14_18 : List AV) (x15_18 : Int) (x16_18 : Int) (x17_18 : Nat) (x18_18 : List AV) (x19_18 : Nat) (x20_18 : List AV) =>
 condO (shut (decide (x16_18 < x15_18)))
 (
 guardO (shut (decide ((0 : Int) ≤ x16_18 ∧ x16_18 < (↑x13_18 : Int) ∧ 0 < x14_18.length))) <|
 bindO (asInt IntKind.i64 (x14_18.getD (x16_18.toNat * 1) AV.top)) fun v21 =>
 bindO (
 condO (x10_18)
 (
 some (shut (decide (shut (IntKind.i64.wrap (v21 - x11_18)) < (64 : Int)))))
 (
 some (false))) fun v22 =>
 bindO (
 condO (v22)
 (
 some (shut (decide (shut (IntKind.i64.wrap (x11_18 - v21)) ≤ (64 : Int)))))
 (
 some (false))) fun v23 =>
 r_18 (x0_18) (x1_18) (x2_18) (x3_18) (x4_18) (x5_18) (x6_18) (x7_18) (x8_18) (x9_18) (v23) (v21) (x12_18) (x13_18) (x14_18) (x15_18) (shut (IntKind.i64.wrap (x16_18 + (1 : Int)))) (x17_18) (x18_18) (x19_18) (x20_18))
 (
 loopC N (fun r_20 (x0_20 : Nat) (x1_20 : List AV) (x2_20 : Nat) (x3_20 : List AV) (x4_20 : Nat) (x5_20 : List AV) (x6_20 : Nat) (x7_20 : List AV) (x8_20 : Nat) (x9_20 : List AV) (x10_20 : Bool) (x11_20 : Int) (x12_20 : Nat) (x13_20 : List AV) (x14_20 : Int) (x15_20 : Int) (x16_20 : Nat) (x17_20 : List AV) (x18_20 : Nat) (x19_20 : List AV) =>
 condO (shut (decide (x15_20 < x14_20)))
 (
 guardO (shut (decide ((0 : Int) ≤ x15_20 ∧ x15_20 < (↑x12_20 : Int) ∧ 0 < x13_20.length))) <|
 bindO (asInt IntKind.u16 (x13_20.getD (x15_20.toNat * 1) AV.top)) fun v23 =>
 bindO (
 condO (shut (x15_20 == (0 : Int)))
 (
 some (true))
 (
 guardO (shut (decide ((0 : Int) ≤ shut (IntKind.i64.wrap (x15_20 - (1 : Int))) ∧ shut (IntKind.i64.wrap (x15_20 - (1 : Int))) < (↑x2_20 : Int) ∧ 0 < x3_20.length))) <|
 bindO (asInt IntKind.u16 (x3_20.getD ((shut (IntKind.i64.wrap (x15_20 - (1 : Int)))).toNat * 1) AV.top)) fun v27 =>
 some (shut (v23 != v27)))) fun v24 =>
 condO (v24)
 (
 r_20 (x0_20) (x1_20) (x2_20) (x3_20) (x4_20) (x5_20) (x6_20) (x7_20) (x8_20) (x9_20) (x10_20) (shut (IntKind.i64.wrap (x11_20 + (1 : Int)))) (x12_20) (x13_20) (x14_20) (shut (IntKind.i64.wrap (x15_20 + (1 : Int)))) (x16_20) (x17_20) (x18_20) (x19_20))
 (
 r_20 (x0_20) (x1_20) (x2_20) (x3_20) (x4_20) (x5_20) (x6_20) (x7_20) (x8_20) (x9_20) (x10_20) (x11_20) (x12_20) (x13_20) (x14_20) (shut (IntKind.i64.wrap (x15_20 + (1 : Int)))) (x16_20) (x17_20) (x18_20) (x19_20)))
 (
 bindO (
 condO (shut !x10_20 == shut ((↑x6_20 : Int) == (↑x0_20 : Int)))
 (
 some (true))
 (
 some (shut (decide ((↑x8_20 : Int) < shut (IntKind.i64.wrap ((3 : Int) * x11_20))))))) fun v22 =>
 bindO (
 condO (v22)
 (
 some (true))
 (
 guardO (shut (decide ((255 : Int) ≠ (0 : Int)))) <|
 some (shut (decide ((↑x8_20 : Int) > shut (IntKind.i64.wrap ((3 : Int) * shut (IntKind.i64.wrap (x11_20 + shut (IntKind.i64.wrap ((↑x2_20 : Int).tdiv (255 : Int)))))))))))) fun v23 =>
 condO (v23)
 (
 some ([RLeaf.v (AV.bool false)]))
 (
 guardO (shut (decide (x5_20.length = x4_20 * 1))) <|
 guardO (shut (decide ((0 + x4_20) * 2 ≤ 549755813888))) <|
 guardO (shut (decide (Bytes (0 + x4_20) (zrow (ofV (Go.Value.int IntKind.u8 (0 : Int))).cells 0 ++ x5_20)))) <|
 condO (shut (shut (erE (unpR (0 + x4_20) (intsOf (zrow (ofV (Go.Value.int IntKind.u8 (0 : Int))).cells 0 ++ x5_20)))) == (0 : Int)))
 (
 guardO (shut (decide (Ints (shut (okL (unpR (0 + x4_20) (intsOf (zrow (ofV (Go.Value.int IntKind.u8 (0 : Int))).cells 0 ++ x5_20)))).length) (shut (numsL IntKind.i64 (okL (unpR (0 + x4_20) (intsOf (zrow (ofV (Go.Value.int IntKind.u8 (0 : Int))).cells 0 ++ x5_20))))))))) <|
 bindO (
 condO (shut (shut (packR (shut (okL (unpR (0 + x4_20) (intsOf (zrow (ofV (Go.Value.int IntKind.u8 (0 : Int))).cells 0 ++ x5_20)))).length) (intsOf (shut (numsL IntKind.i64 (okL (unpR (0 + x4_20) (intsOf (zrow (ofV (Go.Value.int IntKind.u8 (0 : Int))).cells 0 ++ x5_20)))))))).snd != (0 : Int)))
 (
 some (true))
 (
 guardO (shut (decide (Nums IntKind.u8 (shut (packR (shut (okL (unpR (0 + x4_20) (intsOf (zrow (ofV (Go.Value.int IntKind.u8 (0 : Int))).cells 0 ++ x5_20)))).length) (intsOf (shut (numsL IntKind.i64 (okL (unpR (0 + x4_20) (intsOf (zrow (ofV (Go.Value.int IntKind.u8 (0 : Int))).cells 0 ++ x5_20)))))))).fst.length) (shut (numsL IntKind.u8 (packR (shut (okL (unpR (0 + x4_20) (intsOf (zrow (ofV (Go.Value.int IntKind.u8 (0 : Int))).cells 0 ++ x5_20)))).length) (intsOf (shut (numsL IntKind.i64 (okL (unpR (0 + x4_20) (intsOf (zrow (ofV (Go.Value.int IntKind.u8 (0 : Int))).cells 0 ++ x5_20)))))))).fst)) ∧ Nums IntKind.u8 x4_20 x5_20))) <|
 some (!shut (decide (intsOf (shut (numsL IntKind.u8 (packR (shut (okL (unpR (0 + x4_20) (intsOf (zrow (ofV (Go.Value.int IntKind.u8 (0 : Int))).cells 0 ++ x5_20)))).length) (intsOf (shut (numsL IntKind.i64 (okL (unpR (0 + x4_20) (intsOf (zrow (ofV (Go.Value.int IntKind.u8 (0 : Int))).cells 0 ++ x5_20)))))))).fst)) = intsOf x5_20))))) fun v30 =>
 condO (v30)
 (
 some ([RLeaf.v (AV.bool false)]))
 (
 guardO (shut (decide (x5_20.length = x4_20 * 1))) <|
 guardO (shut (decide ((0 + x4_20) * 2 ≤ 549755813888))) <|
 guardO (shut (decide (Bytes (0 + x4_20) (zrow (ofV (Go.Value.int IntKind.u8 (0 : Int))).cells 0 ++ x5_20)))) <|
 condO (shut (shut (erE (unpWR (0 + x4_20) (intsOf (zrow (ofV (Go.Value.int IntKind.u8 (0 : Int))).cells 0 ++ x5_20)))) == (0 : Int)))
 (
 guardO (shut (decide (Words (shut (okL (unpWR (0 + x4_20) (intsOf (zrow (ofV (Go.Value.int IntKind.u8 (0 : Int))).cells 0 ++ x5_20)))).length) (shut (numsL IntKind.u16 (okL (unpWR (0 + x4_20) (intsOf (zrow (ofV (Go.Value.int IntKind.u8 (0 : Int))).cells 0 ++ x5_20))))))))) <|
 bindO (
 condO (shut (shut (if shut (okL (unpWR (0 + x4_20) (intsOf (zrow (ofV (Go.Value.int IntKind.u8 (0 : Int))).cells 0 ++ x5_20)))).length > 4096 then (5 : Int) else (0 : Int)) != (0 : Int)))
 (
 some (true))
 (
 guardO (shut (decide (Nums IntKind.u8 (shut (if shut (okL (unpWR (0 + x4_20) (intsOf (zrow (ofV (Go.Value.int IntKind.u8 (0 : Int))).cells 0 ++ x5_20)))).length > 4096 then [] else packW (intsOf (shut (numsL IntKind.u16 (okL (unpWR (0 + x4_20) (intsOf (zrow (ofV (Go.Value.int IntKind.u8 (0 : Int))).cells 0 ++ x5_20)))))))).length) (shut (numsL IntKind.u8 (if shut (okL (unpWR (0 + x4_20) (intsOf (zrow (ofV (Go.Value.int IntKind.u8 (0 : Int))).cells 0 ++ x5_20)))).length > 4096 then [] else packW (intsOf (shut (numsL IntKind.u16 (okL (unpWR (0 + x4_20) (intsOf (zrow (ofV (Go.Value.int IntKind.u8 (0 : Int))).cells 0 ++ x5_20)))))))))) ∧ Nums IntKind.u8 x4_20 x5_20))) <|
 some (!shut (decide (intsOf (shut (numsL IntKind.u8 (if shut (okL (unpWR (0 + x4_20) (intsOf (zrow (ofV (Go.Value.int IntKind.u8 (0 : Int))).cells 0 ++ x5_20)))).length > 4096 then [] else packW (intsOf (shut (numsL IntKind.u16 (okL (unpWR (0 + x4_20) (intsOf (zrow (ofV (Go.Value.int IntKind.u8 (0 : Int))).cells 0 ++ x5_20)))))))))) = intsOf x5_20))))) fun v37 =>
 condO (v37)
 (
 some ([RLeaf.v (AV.bool false)]))
 (
 some ([RLeaf.v (AV.bool true)])))
 (
 some ([RLeaf.v (AV.bool true)]))))
 (
 guardO (shut (decide (x5_20.length = x4_20 * 1))) <|
 guardO (shut (decide ((0 + x4_20) * 2 ≤ 549755813888))) <|
 guardO (shut (decide (Bytes (0 + x4_20) (zrow (ofV (Go.Value.int IntKind.u8 (0 : Int))).cells 0 ++ x5_20)))) <|
 condO (shut (shut (erE (unpWR (0 + x4_20) (intsOf (zrow (ofV (Go.Value.int IntKind.u8 (0 : Int))).cells 0 ++ x5_20)))) == (0 : Int)))
 (
 guardO (shut (decide (Words (shut (okL (unpWR (0 + x4_20) (intsOf (zrow (ofV (Go.Value.int IntKind.u8 (0 : Int))).cells 0 ++ x5_20)))).length) (shut (numsL IntKind.u16 (okL (unpWR (0 + x4_20) (intsOf (zrow (ofV (Go.Value.int IntKind.u8 (0 : Int))).cells 0 ++ x5_20))))))))) <|
 bindO (
 condO (shut (shut (if shut (okL (unpWR (0 + x4_20) (intsOf (zrow (ofV (Go.Value.int IntKind.u8 (0 : Int))).cells 0 ++ x5_20)))).length > 4096 then (5 : Int) else (0 : Int)) != (0 : Int)))
 (
 some (true))
 (
 guardO (shut (decide (Nums IntKind.u8 (shut (if shut (okL (unpWR (0 + x4_20) (intsOf (zrow (ofV (Go.Value.int IntKind.u8 (0 : Int))).cells 0 ++ x5_20)))).length > 4096 then [] else packW (intsOf (shut (numsL IntKind.u16 (okL (unpWR (0 + x4_20) (intsOf (zrow (ofV (Go.Value.int IntKind.u8 (0 : Int))).cells 0 ++ x5_20)))))))).length) (shut (numsL IntKind.u8 (if shut (okL (unpWR (0 + x4_20) (intsOf (zrow (ofV (Go.Value.int IntKind.u8 (0 : Int))).cells 0 ++ x5_20)))).length > 4096 then [] else packW (intsOf (shut (numsL IntKind.u16 (okL (unpWR (0 + x4_20) (intsOf (zrow (ofV (Go.Value.int IntKind.u8 (0 : Int))).cells 0 ++ x5_20)))))))))) ∧ Nums IntKind.u8 x4_20 x5_20))) <|
 some (!shut (decide (intsOf (shut (numsL IntKind.u8 (if shut (okL (unpWR (0 + x4_20) (intsOf (zrow (ofV (Go.Value.int IntKind.u8 (0 : Int))).cells 0 ++ x5_20)))).length > 4096 then [] else packW (intsOf (shut (numsL IntKind.u16 (okL (unpWR (0 + x4_20) (intsOf (zrow (ofV (Go.Value.int IntKind.u8 (0 : Int))).cells 0 ++ x5_20)))))))))) = intsOf x5_20))))) fun v34 =>
 condO (v34)
 (
 some ([RLeaf.v (AV.bool false)]))
 (
 some ([RLeaf.v (AV.bool true)])))
 (
 some ([RLeaf.v (AV.bool true)]))))))
 (fun _ _ _ _ _ _ _ _ _ _ _ _ _ _ _ _ _ _ _ _ => none) (x0_18) (x1_18) (x2_18) (x3_18) (x4_18) (x5_18) (x6_18) (x7_18) (x8_18) (x9_18) (x10_18) (x12_18) (x2_18) (x3_18) ((↑x2_18 : Int)) ((0 : Int)) (x17_18) (x18_18) (x19_18) (x20_18)))
 (fun _ _ _ _ _ _ _ _ _ _ _ _ _ _ _ _ _ _ _ _ _ => none) (n) (cs) (m) (ds) (q) (es) (shut (packR (0 + n) (intsOf (zrow (ofV (Go.Value.int IntKind.i64 (0 : Int))).cells 0 ++ cs))).fst.length) (shut (numsL IntKind.u8 (packR (0 + n) (intsOf (zrow (ofV (Go.Value.int IntKind.i64 (0 : Int))).cells 0 ++ cs))).fst)) (shut (if 0 + m > 4096 then [] else packW (intsOf (zrow (ofV (Go.Value.int IntKind.u16 (0 : Int))).cells 0 ++ ds))).length) (shut (numsL IntKind.u8 (if 0 + m > 4096 then [] else packW (intsOf (zrow (ofV (Go.Value.int IntKind.u16 (0 : Int))).cells 0 ++ ds))))) (true) ((0 : Int)) ((0 : Int)) (n) (cs) ((↑n : Int)) ((0 : Int)) (0 + n) (zrow (ofV (Go.Value.int IntKind.i64 (0 : Int))).cells 0 ++ cs) (0 + m) (zrow (ofV (Go.Value.int IntKind.u16 (0 : Int))).cells 0 ++ ds)))) := by kernel_rfl


end Go.Abs
end

