/- Part 30 of the library that the proof of the statement uses: an abstract run of the program, proved right, and what its functions give. -/
import Derived.Test.YtkloadomnblkeaaGreatDoorCv29
set_option linter.unusedVariables false
set_option linter.unusedSimpArgs false

section
/- Functions of the Memory seat, lifted (printed by the tool gen2.py). -/
set_option maxRecDepth 100000
set_option linter.unusedVariables false
namespace Go.Abs
open Go.Proofs Classical

theorem run_73 (N : Nat) (n : Nat) (cs : List AV) : (fsM mzB waysP N 12).call (List RLeaf) 73 [.ofB (.list n cs)] [] (resK [true, false]) = (
 guardO (shut (decide ((3 : Int) ≠ (0 : Int)))) <|
 guardO (shut (decide (Ints 2 (putCells (putCells (zrow (ofV (Go.Value.int IntKind.i64 (0 : Int))).cells 2) 0 [AV.int IntKind.i64 (shut (if shut (decide ((↑n : Int) > (12288 : Int))) = true then (26 : Int) else (0 : Int)))]) 1 [AV.int IntKind.i64 (shut (if shut (shut ((↑n : Int).tmod (3 : Int)) != (0 : Int)) = true then (28 : Int) else (0 : Int)))])))) <|
 condO (shut (shut (firstNZ (intsOf (putCells (putCells (zrow (ofV (Go.Value.int IntKind.i64 (0 : Int))).cells 2) 0 [AV.int IntKind.i64 (shut (if shut (decide ((↑n : Int) > (12288 : Int))) = true then (26 : Int) else (0 : Int)))]) 1 [AV.int IntKind.i64 (shut (if shut (shut ((↑n : Int).tmod (3 : Int)) != (0 : Int)) = true then (28 : Int) else (0 : Int)))]))) != (0 : Int)))
 (
 some ([RLeaf.fz 0 [], RLeaf.v (AV.int IntKind.i64 (shut (firstNZ (intsOf (putCells (putCells (zrow (ofV (Go.Value.int IntKind.i64 (0 : Int))).cells 2) 0 [AV.int IntKind.i64 (shut (if shut (decide ((↑n : Int) > (12288 : Int))) = true then (26 : Int) else (0 : Int)))]) 1 [AV.int IntKind.i64 (shut (if shut (shut ((↑n : Int).tmod (3 : Int)) != (0 : Int)) = true then (28 : Int) else (0 : Int)))])))))]))
 (
 condO (shut (decide ((3 : Int) < (1 : Int))))
 (
 none)
 (
 loopC N (fun r_4 (x0_4 : Int) (x1_4 : Nat) (x2_4 : List AV) (x3_4 : Int) (x4_4 : Nat) (x5_4 : List AV) (x6_4 : Nat) (x7_4 : List AV) (x8_4 : Int) (x9_4 : Int) (x10_4 : Nat) (x11_4 : List AV) (x12_4 : Int) =>
 condO (shut (decide (x0_4 < (↑x10_4 : Int))))
 (
 guardO (shut (decide ((0 : Int) ≤ x0_4 ∧ x0_4 ≤ (↑x10_4 : Int) ∧ (↑x10_4 : Int) ≤ (↑x10_4 : Int)))) <|
 guardO (shut (decide (x10_4 * 1 = x11_4.length))) <|
 guardO (shut (decide ((0 : Int) ≤ x0_4 ∧ x0_4 ≤ shut (IntKind.i64.wrap (x0_4 + shut (if (↑((↑x10_4 : Int).toNat - x0_4.toNat) : Int) < x12_4 then (↑((↑x10_4 : Int).toNat - x0_4.toNat) : Int) else x12_4))) ∧ shut (IntKind.i64.wrap (x0_4 + shut (if (↑((↑x10_4 : Int).toNat - x0_4.toNat) : Int) < x12_4 then (↑((↑x10_4 : Int).toNat - x0_4.toNat) : Int) else x12_4))) ≤ shut (IntKind.i64.wrap (x0_4 + shut (if (↑((↑x10_4 : Int).toNat - x0_4.toNat) : Int) < x12_4 then (↑((↑x10_4 : Int).toNat - x0_4.toNat) : Int) else x12_4))) ∧ shut (IntKind.i64.wrap (x0_4 + shut (if (↑((↑x10_4 : Int).toNat - x0_4.toNat) : Int) < x12_4 then (↑((↑x10_4 : Int).toNat - x0_4.toNat) : Int) else x12_4))) ≤ (↑x10_4 : Int)))) <|
 guardO (shut (decide (x10_4 * 1 = x11_4.length))) <|
 guardO (shut (decide ((0 : Int) ≤ (0 : Int) ∧ (0 : Int) < (↑((shut (IntKind.i64.wrap (x0_4 + shut (if (↑((↑x10_4 : Int).toNat - x0_4.toNat) : Int) < x12_4 then (↑((↑x10_4 : Int).toNat - x0_4.toNat) : Int) else x12_4)))).toNat - x0_4.toNat) : Int) ∧ 0 < (List.take (((shut (IntKind.i64.wrap (x0_4 + shut (if (↑((↑x10_4 : Int).toNat - x0_4.toNat) : Int) < x12_4 then (↑((↑x10_4 : Int).toNat - x0_4.toNat) : Int) else x12_4)))).toNat - x0_4.toNat) * 1) (List.drop (x0_4.toNat * 1) x11_4)).length))) <|
 bindO (asInt IntKind.u8 ((List.take (((shut (IntKind.i64.wrap (x0_4 + shut (if (↑((↑x10_4 : Int).toNat - x0_4.toNat) : Int) < x12_4 then (↑((↑x10_4 : Int).toNat - x0_4.toNat) : Int) else x12_4)))).toNat - x0_4.toNat) * 1) (List.drop (x0_4.toNat * 1) x11_4)).getD 0 AV.top)) fun v11 =>
 guardO (shut (decide ((0 : Int) ≤ (1 : Int) ∧ (1 : Int) < (↑((shut (IntKind.i64.wrap (x0_4 + shut (if (↑((↑x10_4 : Int).toNat - x0_4.toNat) : Int) < x12_4 then (↑((↑x10_4 : Int).toNat - x0_4.toNat) : Int) else x12_4)))).toNat - x0_4.toNat) : Int) ∧ 0 < (List.take (((shut (IntKind.i64.wrap (x0_4 + shut (if (↑((↑x10_4 : Int).toNat - x0_4.toNat) : Int) < x12_4 then (↑((↑x10_4 : Int).toNat - x0_4.toNat) : Int) else x12_4)))).toNat - x0_4.toNat) * 1) (List.drop (x0_4.toNat * 1) x11_4)).length))) <|
 bindO (asInt IntKind.u8 ((List.take (((shut (IntKind.i64.wrap (x0_4 + shut (if (↑((↑x10_4 : Int).toNat - x0_4.toNat) : Int) < x12_4 then (↑((↑x10_4 : Int).toNat - x0_4.toNat) : Int) else x12_4)))).toNat - x0_4.toNat) * 1) (List.drop (x0_4.toNat * 1) x11_4)).getD 1 AV.top)) fun v13 =>
 guardO (shut (decide ((0 : Int) ≤ (2 : Int) ∧ (2 : Int) < (↑((shut (IntKind.i64.wrap (x0_4 + shut (if (↑((↑x10_4 : Int).toNat - x0_4.toNat) : Int) < x12_4 then (↑((↑x10_4 : Int).toNat - x0_4.toNat) : Int) else x12_4)))).toNat - x0_4.toNat) : Int) ∧ 0 < (List.take (((shut (IntKind.i64.wrap (x0_4 + shut (if (↑((↑x10_4 : Int).toNat - x0_4.toNat) : Int) < x12_4 then (↑((↑x10_4 : Int).toNat - x0_4.toNat) : Int) else x12_4)))).toNat - x0_4.toNat) * 1) (List.drop (x0_4.toNat * 1) x11_4)).length))) <|
 bindO (asInt IntKind.u8 ((List.take (((shut (IntKind.i64.wrap (x0_4 + shut (if (↑((↑x10_4 : Int).toNat - x0_4.toNat) : Int) < x12_4 then (↑((↑x10_4 : Int).toNat - x0_4.toNat) : Int) else x12_4)))).toNat - x0_4.toNat) * 1) (List.drop (x0_4.toNat * 1) x11_4)).getD 2 AV.top)) fun v15 =>
 guardO (shut (decide ((0 : Int) ≤ (8 : Int)))) <|
 condO (shut (shut (Go.bits Go.BinOp.or IntKind.u16 (shut (IntKind.u16.wrap v13)) (shut (IntKind.u16.wrap (shut (IntKind.u16.wrap v15) * (2 : Int) ^ 8)))) == x8_4))
 (
 guardO (shut (decide (Ints 3 (putCells (putCells (putCells (zrow (ofV (Go.Value.int IntKind.i64 (0 : Int))).cells 3) 0 [AV.int IntKind.i64 (shut (if shut (shut (IntKind.i64.wrap v11) == (0 : Int)) = true then (6 : Int) else (0 : Int)))]) 1 [AV.int IntKind.i64 (shut (if shut (decide (x9_4 < (255 : Int))) = true then (1 : Int) else (0 : Int)))]) 2 [AV.int IntKind.i64 (shut (if shut (decide (shut (IntKind.i64.wrap ((↑x6_4 : Int) + shut (IntKind.i64.wrap v11))) > (4096 : Int))) = true then (5 : Int) else (0 : Int)))])))) <|
 condO (shut (shut (firstNZ (intsOf (putCells (putCells (putCells (zrow (ofV (Go.Value.int IntKind.i64 (0 : Int))).cells 3) 0 [AV.int IntKind.i64 (shut (if shut (shut (IntKind.i64.wrap v11) == (0 : Int)) = true then (6 : Int) else (0 : Int)))]) 1 [AV.int IntKind.i64 (shut (if shut (decide (x9_4 < (255 : Int))) = true then (1 : Int) else (0 : Int)))]) 2 [AV.int IntKind.i64 (shut (if shut (decide (shut (IntKind.i64.wrap ((↑x6_4 : Int) + shut (IntKind.i64.wrap v11))) > (4096 : Int))) = true then (5 : Int) else (0 : Int)))]))) != (0 : Int)))
 (
 some ([RLeaf.fz 0 [], RLeaf.v (AV.int IntKind.i64 (shut (firstNZ (intsOf (putCells (putCells (putCells (zrow (ofV (Go.Value.int IntKind.i64 (0 : Int))).cells 3) 0 [AV.int IntKind.i64 (shut (if shut (shut (IntKind.i64.wrap v11) == (0 : Int)) = true then (6 : Int) else (0 : Int)))]) 1 [AV.int IntKind.i64 (shut (if shut (decide (x9_4 < (255 : Int))) = true then (1 : Int) else (0 : Int)))]) 2 [AV.int IntKind.i64 (shut (if shut (decide (shut (IntKind.i64.wrap ((↑x6_4 : Int) + shut (IntKind.i64.wrap v11))) > (4096 : Int))) = true then (5 : Int) else (0 : Int)))])))))]))
 (
 guardO (shut (decide (Nums IntKind.u16 1 (putCells (zrow (ofV (Go.Value.int IntKind.u16 (0 : Int))).cells 1) 0 [AV.int IntKind.u16 (shut (Go.bits Go.BinOp.or IntKind.u16 (shut (IntKind.u16.wrap v13)) (shut (IntKind.u16.wrap (shut (IntKind.u16.wrap v15) * (2 : Int) ^ 8)))))]) ∧ 1 = 1 ∧ (0 : Int) ≤ shut (IntKind.i64.wrap v11) ∧ shut (IntKind.i64.wrap v11) ≤ (100000 : Int)))) <|
 guardO (shut (decide ((shut (numsL IntKind.u16 (List.replicate (shut (IntKind.i64.wrap v11)).toNat ((intsOf (putCells (zrow (ofV (Go.Value.int IntKind.u16 (0 : Int))).cells 1) 0 [AV.int IntKind.u16 (shut (Go.bits Go.BinOp.or IntKind.u16 (shut (IntKind.u16.wrap v13)) (shut (IntKind.u16.wrap (shut (IntKind.u16.wrap v15) * (2 : Int) ^ 8)))))])).getD 0 (0 : Int))))).length = shut (shut (IntKind.i64.wrap v11)).toNat * 1))) <|
 guardO (shut (decide ((x6_4 + shut (shut (IntKind.i64.wrap v11)).toNat) * 3 ≤ 549755813888))) <|
 r_4 (shut (IntKind.i64.wrap (x0_4 + x12_4))) (x1_4) (x2_4) (x3_4) (x4_4) (x5_4) (x6_4 + shut (shut (IntKind.i64.wrap v11)).toNat) (x7_4 ++ shut (numsL IntKind.u16 (List.replicate (shut (IntKind.i64.wrap v11)).toNat ((intsOf (putCells (zrow (ofV (Go.Value.int IntKind.u16 (0 : Int))).cells 1) 0 [AV.int IntKind.u16 (shut (Go.bits Go.BinOp.or IntKind.u16 (shut (IntKind.u16.wrap v13)) (shut (IntKind.u16.wrap (shut (IntKind.u16.wrap v15) * (2 : Int) ^ 8)))))])).getD 0 (0 : Int))))) (shut (Go.bits Go.BinOp.or IntKind.u16 (shut (IntKind.u16.wrap v13)) (shut (IntKind.u16.wrap (shut (IntKind.u16.wrap v15) * (2 : Int) ^ 8))))) (shut (IntKind.i64.wrap v11)) (x10_4) (x11_4) (x12_4)))
 (
 guardO (shut (decide (Ints 3 (putCells (putCells (putCells (zrow (ofV (Go.Value.int IntKind.i64 (0 : Int))).cells 3) 0 [AV.int IntKind.i64 (shut (if shut (shut (IntKind.i64.wrap v11) == (0 : Int)) = true then (6 : Int) else (0 : Int)))]) 1 [AV.int IntKind.i64 (shut (if false = true then (1 : Int) else (0 : Int)))]) 2 [AV.int IntKind.i64 (shut (if shut (decide (shut (IntKind.i64.wrap ((↑x6_4 : Int) + shut (IntKind.i64.wrap v11))) > (4096 : Int))) = true then (5 : Int) else (0 : Int)))])))) <|
 condO (shut (shut (firstNZ (intsOf (putCells (putCells (putCells (zrow (ofV (Go.Value.int IntKind.i64 (0 : Int))).cells 3) 0 [AV.int IntKind.i64 (shut (if shut (shut (IntKind.i64.wrap v11) == (0 : Int)) = true then (6 : Int) else (0 : Int)))]) 1 [AV.int IntKind.i64 (shut (if false = true then (1 : Int) else (0 : Int)))]) 2 [AV.int IntKind.i64 (shut (if shut (decide (shut (IntKind.i64.wrap ((↑x6_4 : Int) + shut (IntKind.i64.wrap v11))) > (4096 : Int))) = true then (5 : Int) else (0 : Int)))]))) != (0 : Int)))
 (
 some ([RLeaf.fz 0 [], RLeaf.v (AV.int IntKind.i64 (shut (firstNZ (intsOf (putCells (putCells (putCells (zrow (ofV (Go.Value.int IntKind.i64 (0 : Int))).cells 3) 0 [AV.int IntKind.i64 (shut (if shut (shut (IntKind.i64.wrap v11) == (0 : Int)) = true then (6 : Int) else (0 : Int)))]) 1 [AV.int IntKind.i64 (shut (if false = true then (1 : Int) else (0 : Int)))]) 2 [AV.int IntKind.i64 (shut (if shut (decide (shut (IntKind.i64.wrap ((↑x6_4 : Int) + shut (IntKind.i64.wrap v11))) > (4096 : Int))) = true then (5 : Int) else (0 : Int)))])))))]))
 (
 guardO (shut (decide (Nums IntKind.u16 1 (putCells (zrow (ofV (Go.Value.int IntKind.u16 (0 : Int))).cells 1) 0 [AV.int IntKind.u16 (shut (Go.bits Go.BinOp.or IntKind.u16 (shut (IntKind.u16.wrap v13)) (shut (IntKind.u16.wrap (shut (IntKind.u16.wrap v15) * (2 : Int) ^ 8)))))]) ∧ 1 = 1 ∧ (0 : Int) ≤ shut (IntKind.i64.wrap v11) ∧ shut (IntKind.i64.wrap v11) ≤ (100000 : Int)))) <|
 guardO (shut (decide ((shut (numsL IntKind.u16 (List.replicate (shut (IntKind.i64.wrap v11)).toNat ((intsOf (putCells (zrow (ofV (Go.Value.int IntKind.u16 (0 : Int))).cells 1) 0 [AV.int IntKind.u16 (shut (Go.bits Go.BinOp.or IntKind.u16 (shut (IntKind.u16.wrap v13)) (shut (IntKind.u16.wrap (shut (IntKind.u16.wrap v15) * (2 : Int) ^ 8)))))])).getD 0 (0 : Int))))).length = shut (shut (IntKind.i64.wrap v11)).toNat * 1))) <|
 guardO (shut (decide ((x6_4 + shut (shut (IntKind.i64.wrap v11)).toNat) * 3 ≤ 549755813888))) <|
 r_4 (shut (IntKind.i64.wrap (x0_4 + x12_4))) (x1_4) (x2_4) (x3_4) (x4_4) (x5_4) (x6_4 + shut (shut (IntKind.i64.wrap v11)).toNat) (x7_4 ++ shut (numsL IntKind.u16 (List.replicate (shut (IntKind.i64.wrap v11)).toNat ((intsOf (putCells (zrow (ofV (Go.Value.int IntKind.u16 (0 : Int))).cells 1) 0 [AV.int IntKind.u16 (shut (Go.bits Go.BinOp.or IntKind.u16 (shut (IntKind.u16.wrap v13)) (shut (IntKind.u16.wrap (shut (IntKind.u16.wrap v15) * (2 : Int) ^ 8)))))])).getD 0 (0 : Int))))) (shut (Go.bits Go.BinOp.or IntKind.u16 (shut (IntKind.u16.wrap v13)) (shut (IntKind.u16.wrap (shut (IntKind.u16.wrap v15) * (2 : Int) ^ 8))))) (shut (IntKind.i64.wrap v11)) (x10_4) (x11_4) (x12_4))))
 (
 some ([RLeaf.fz x6_4 x7_4, RLeaf.v (AV.int IntKind.i64 (0 : Int))])))
 (fun _ _ _ _ _ _ _ _ _ _ _ _ _ => none) ((0 : Int)) (0) ([]) ((0 : Int)) (2) (putCells (putCells (zrow (ofV (Go.Value.int IntKind.i64 (0 : Int))).cells 2) 0 [AV.int IntKind.i64 (shut (if shut (decide ((↑n : Int) > (12288 : Int))) = true then (26 : Int) else (0 : Int)))]) 1 [AV.int IntKind.i64 (shut (if shut (shut ((↑n : Int).tmod (3 : Int)) != (0 : Int)) = true then (28 : Int) else (0 : Int)))]) (0) ([]) ((0 : Int)) ((255 : Int)) (n) (cs) ((3 : Int))))) := by kernel_rfl


end Go.Abs
end

