/- Part 27 of the library that the proof of the statement uses: an abstract run of the program, proved right, and what its functions give. -/
import Derived.Test.YtkloadomnblkeaaGreatDoorBd26
set_option linter.unusedVariables false
set_option linter.unusedSimpArgs false

section
/- Pyramids, lifted (printed by the tool gen2.py). -/
set_option maxRecDepth 100000
set_option linter.unusedVariables false
namespace Go.Abs
open Go.Proofs Classical

theorem run_24 (N : Nat) (n : Nat) (cs : List AV) (b : Int) : (fsM mzK waysQ N 12).call (List RLeaf) 24 [.ofB (.list n cs), .ofB (.int .i64 b)] [] (resK [false]) = (
 (loopC N (fun (r_0 : (Nat → List AV → Int → Nat → List AV → Int → Nat → List AV → Int → Nat → List AV → Option (List RLeaf)) × PUnit.{1}) => (
 (fun x0_0 x1_0 x2_0 x3_0 x4_0 x5_0 x6_0 x7_0 x8_0 x9_0 x10_0 =>
 condO (shut (decide ((↑x0_0 : Int) > (0 : Int))))
 (
 loopC N (fun r_2 (x0_2 : Nat) (x1_2 : List AV) (x2_2 : Int) (x3_2 : Int) (x4_2 : Nat) (x5_2 : List AV) (x6_2 : Int) (x7_2 : Nat) (x8_2 : List AV) (x9_2 : Int) (x10_2 : Nat) (x11_2 : List AV) (x12_2 : Nat) (x13_2 : List AV) =>
 condO (shut (decide (x3_2 < (↑x0_2 : Int))))
 (
 guardO (shut (decide ((0 : Int) ≤ x3_2 ∧ x3_2 ≤ shut (if (↑x0_2 : Int) < shut (IntKind.i64.wrap (x3_2 + x2_2)) then (↑x0_2 : Int) else shut (IntKind.i64.wrap (x3_2 + x2_2))) ∧ shut (if (↑x0_2 : Int) < shut (IntKind.i64.wrap (x3_2 + x2_2)) then (↑x0_2 : Int) else shut (IntKind.i64.wrap (x3_2 + x2_2))) ≤ (↑x0_2 : Int)))) <|
 guardO (shut (decide (x0_2 * 1 = x1_2.length))) <|
 guardO (shut (decide (Flos ((shut (if (↑x0_2 : Int) < shut (IntKind.i64.wrap (x3_2 + x2_2)) then (↑x0_2 : Int) else shut (IntKind.i64.wrap (x3_2 + x2_2)))).toNat - x3_2.toNat) (List.take (((shut (if (↑x0_2 : Int) < shut (IntKind.i64.wrap (x3_2 + x2_2)) then (↑x0_2 : Int) else shut (IntKind.i64.wrap (x3_2 + x2_2)))).toNat - x3_2.toNat) * 1) (List.drop (x3_2.toNat * 1) x1_2)) ∧ 0 < (shut (if (↑x0_2 : Int) < shut (IntKind.i64.wrap (x3_2 + x2_2)) then (↑x0_2 : Int) else shut (IntKind.i64.wrap (x3_2 + x2_2)))).toNat - x3_2.toNat))) <|
 guardO (shut (decide ((x12_2 + 1) * 9 ≤ 549755813888))) <|
 r_2 (x0_2) (x1_2) (x2_2) (shut (IntKind.i64.wrap (x3_2 + x2_2))) (x4_2) (x5_2) (x6_2) (x7_2) (x8_2) (x9_2) (x10_2) (x11_2) (x12_2 + 1) (x13_2 ++ putCells (zrow (ofV (Go.Value.agg #[Go.Value.float Go.FloatKind.f32 0, Go.Value.float Go.FloatKind.f32 0])).cells 2) 0 [AV.flo Go.FloatKind.f32 (shut (extV Ordering.lt ((flosOf (List.take (((shut (if (↑x0_2 : Int) < shut (IntKind.i64.wrap (x3_2 + x2_2)) then (↑x0_2 : Int) else shut (IntKind.i64.wrap (x3_2 + x2_2)))).toNat - x3_2.toNat) * 1) (List.drop (x3_2.toNat * 1) x1_2))).getD 0 Option.none) (flosOf (List.take (((shut (if (↑x0_2 : Int) < shut (IntKind.i64.wrap (x3_2 + x2_2)) then (↑x0_2 : Int) else shut (IntKind.i64.wrap (x3_2 + x2_2)))).toNat - x3_2.toNat) * 1) (List.drop (x3_2.toNat * 1) x1_2))))), AV.flo Go.FloatKind.f32 (shut (extV Ordering.gt ((flosOf (List.take (((shut (if (↑x0_2 : Int) < shut (IntKind.i64.wrap (x3_2 + x2_2)) then (↑x0_2 : Int) else shut (IntKind.i64.wrap (x3_2 + x2_2)))).toNat - x3_2.toNat) * 1) (List.drop (x3_2.toNat * 1) x1_2))).getD 0 Option.none) (flosOf (List.take (((shut (if (↑x0_2 : Int) < shut (IntKind.i64.wrap (x3_2 + x2_2)) then (↑x0_2 : Int) else shut (IntKind.i64.wrap (x3_2 + x2_2)))).toNat - x3_2.toNat) * 1) (List.drop (x3_2.toNat * 1) x1_2)))))]))
 (
 guardO (shut (decide ((x10_2 + 1) * 25 ≤ 549755813888))) <|
 condO (shut ((↑x12_2 : Int) == (1 : Int)))
 (
 some ([RLeaf.v (AV.agg [AV.int IntKind.i64 x9_2, AV.list (x10_2 + 1) (x11_2 ++ putCells (zrow (ofV (Go.Value.slice Option.none 0 0)).cells 1) 0 [AV.list x12_2 x13_2])])]))
 (
 r_0.1 (x0_2) (x1_2) (shut (IntKind.i64.wrap ((2 : Int) * x2_2))) (x4_2) (x5_2) (x6_2) (x7_2) (x8_2) (x9_2) (x10_2 + 1) (x11_2 ++ putCells (zrow (ofV (Go.Value.slice Option.none 0 0)).cells 1) 0 [AV.list x12_2 x13_2]))))
 (fun _ _ _ _ _ _ _ _ _ _ _ _ _ _ => none) (x0_0) (x1_0) (x2_0) ((0 : Int)) (x3_0) (x4_0) (x5_0) (x6_0) (x7_0) (x8_0) (x9_0) (x10_0) (0) ([]))
 (
 some ([RLeaf.v (AV.agg [AV.int IntKind.i64 x8_0, AV.list x9_0 x10_0])]))), PUnit.unit))
 ((fun _ _ _ _ _ _ _ _ _ _ _ => none), PUnit.unit)).1 (n) (cs) (b) (0) ([]) ((0 : Int)) (0) ([]) (b) (0) ([])) := by kernel_rfl

theorem run_26 (N : Nat) (b : Int) (m : Nat) (ls : List AV) : (fsM mzK waysQ N 12).call (List RLeaf) 26 [.s (.agg [.b (.int .i64 b), .b (.list m ls)])] [] (resK [false]) = (
 (loopC N (fun (r_0 : (Nat → List AV → Int → Int → Int → Nat → List AV → Nat → List AV → Int → Nat → List AV → Int → Nat → List AV → Option (List RLeaf)) × PUnit.{1}) => (
 (fun x0_0 x1_0 x2_0 x3_0 x4_0 x5_0 x6_0 x7_0 x8_0 x9_0 x10_0 x11_0 x12_0 x13_0 x14_0 =>
 condO (shut (decide (x3_0 < x2_0)))
 (
 guardO (shut (decide ((0 : Int) ≤ x3_0 ∧ x3_0 < (↑x0_0 : Int) ∧ 0 < x1_0.length))) <|
 bindO (asList (x1_0.getD (x3_0.toNat * 1) AV.top)) fun v3 =>
 guardO (shut (decide (Flos (2 * v3.fst) v3.snd ∧ v3.fst ≤ 100000))) <|
 guardO (shut (decide ((x13_0 + 1) * 25 ≤ 549755813888))) <|
 r_0.1 (x0_0) (x1_0) (x2_0) (shut (IntKind.i64.wrap (x3_0 + (1 : Int)))) (x4_0) (x5_0) (x6_0) (x7_0) (x8_0) (x9_0) (x10_0) (x11_0) (x12_0) (x13_0 + 1) (x14_0 ++ putCells (zrow (ofV (Go.Value.slice Option.none 0 0)).cells 1) 0 [AV.list (shut v3.fst) (shut v3.snd)]))
 (
 some ([RLeaf.v (AV.agg [AV.int IntKind.i64 x12_0, AV.list x13_0 x14_0])]))), PUnit.unit))
 ((fun _ _ _ _ _ _ _ _ _ _ _ _ _ _ _ => none), PUnit.unit)).1 (m) (ls) ((↑m : Int)) ((0 : Int)) (b) (m) (ls) (0) ([]) ((0 : Int)) (0) ([]) (b) (0) ([])) := by kernel_rfl

theorem run_28 (N : Nat) (b : Int) (m : Nat) (ls : List AV) : (fsM mzK waysQ N 12).call (List RLeaf) 28 [.s (.agg [.b (.int .i64 b), .b (.list m ls)])] [] (resK [false]) = (
 (loopC N (fun (r_0 : (Nat → List AV → Int → Int → Int → Nat → List AV → Nat → List AV → Int → Nat → List AV → Int → Nat → List AV → Option (List RLeaf)) × PUnit.{1}) => (
 (fun x0_0 x1_0 x2_0 x3_0 x4_0 x5_0 x6_0 x7_0 x8_0 x9_0 x10_0 x11_0 x12_0 x13_0 x14_0 =>
 condO (shut (decide (x3_0 < x2_0)))
 (
 guardO (shut (decide ((0 : Int) ≤ x3_0 ∧ x3_0 < (↑x0_0 : Int) ∧ 0 < x1_0.length))) <|
 bindO (asList (x1_0.getD (x3_0.toNat * 1) AV.top)) fun v3 =>
 loopC N (fun r_4 (x0_4 : Nat) (x1_4 : List AV) (x2_4 : Int) (x3_4 : Int) (x4_4 : Nat) (x5_4 : List AV) (x6_4 : Int) (x7_4 : Int) (x8_4 : Int) (x9_4 : Nat) (x10_4 : List AV) (x11_4 : Nat) (x12_4 : List AV) (x13_4 : Int) (x14_4 : Nat) (x15_4 : List AV) (x16_4 : Int) (x17_4 : Nat) (x18_4 : List AV) (x19_4 : Nat) (x20_4 : List AV) =>
 condO (shut (decide (x7_4 < x6_4)))
 (
 guardO (shut (decide ((0 : Int) ≤ x7_4 ∧ x7_4 < (↑x4_4 : Int) ∧ 0 < x5_4.length))) <|
 guardO (shut (decide (x7_4.toNat * 2 + 2 ≤ x5_4.length))) <|
 bindO (asFloat Go.FloatKind.f32 (x5_4.getD (x7_4.toNat * 2) AV.top)) fun v8 =>
 bindO (asFloat Go.FloatKind.f32 (x5_4.getD (x7_4.toNat * 2 + 1) AV.top)) fun v9 =>
 guardO (shut (decide ((x19_4 + 1) * 9 ≤ 549755813888))) <|
 r_4 (x0_4) (x1_4) (x2_4) (x3_4) (x4_4) (x5_4) (x6_4) (shut (IntKind.i64.wrap (x7_4 + (1 : Int)))) (x8_4) (x9_4) (x10_4) (x11_4) (x12_4) (x13_4) (x14_4) (x15_4) (x16_4) (x17_4) (x18_4) (x19_4 + 1) (x20_4 ++ putCells (zrow (ofV (Go.Value.agg #[Go.Value.float Go.FloatKind.f32 0, Go.Value.float Go.FloatKind.f32 0])).cells 2) 0 [AV.flo Go.FloatKind.f32 v8, AV.flo Go.FloatKind.f32 v9]))
 (
 guardO (shut (decide ((x17_4 + 1) * 25 ≤ 549755813888))) <|
 r_0.1 (x0_4) (x1_4) (x2_4) (shut (IntKind.i64.wrap (x3_4 + (1 : Int)))) (x8_4) (x9_4) (x10_4) (x11_4) (x12_4) (x13_4) (x14_4) (x15_4) (x16_4) (x17_4 + 1) (x18_4 ++ putCells (zrow (ofV (Go.Value.slice Option.none 0 0)).cells 1) 0 [AV.list x19_4 x20_4])))
 (fun _ _ _ _ _ _ _ _ _ _ _ _ _ _ _ _ _ _ _ _ _ => none) (x0_0) (x1_0) (x2_0) (x3_0) (v3.fst) (v3.snd) ((↑v3.fst : Int)) ((0 : Int)) (x4_0) (x5_0) (x6_0) (x7_0) (x8_0) (x9_0) (x10_0) (x11_0) (x12_0) (x13_0) (x14_0) (0) ([]))
 (
 some ([RLeaf.v (AV.agg [AV.int IntKind.i64 x12_0, AV.list x13_0 x14_0])]))), PUnit.unit))
 ((fun _ _ _ _ _ _ _ _ _ _ _ _ _ _ _ => none), PUnit.unit)).1 (m) (ls) ((↑m : Int)) ((0 : Int)) (b) (m) (ls) (0) ([]) ((0 : Int)) (0) ([]) (b) (0) ([])) := by kernel_rfl


theorem run_20 (N : Nat) (n : Nat) (cs : List AV) (b : Int) : (fsM mzK waysQ N 12).call (List RLeaf) 20 [.ofB (.list n cs), .ofB (.int .i64 b)] [] (resK [false, false]) = (
 guardO (shut (decide (Flos n cs))) <|
 guardO (shut (decide (Ints 2 (putCells (putCells (zrow (ofV (Go.Value.int IntKind.i64 (0 : Int))).cells 2) 0 [AV.int IntKind.i64 (shut (sampErr n (flosOf cs)))]) 1 [AV.int IntKind.i64 (shut (if b < (1 : Int) ∨ b > (256 : Int) then (3 : Int) else (0 : Int)))])))) <|
 condO (shut (shut (firstNZ (intsOf (putCells (putCells (zrow (ofV (Go.Value.int IntKind.i64 (0 : Int))).cells 2) 0 [AV.int IntKind.i64 (shut (sampErr n (flosOf cs)))]) 1 [AV.int IntKind.i64 (shut (if b < (1 : Int) ∨ b > (256 : Int) then (3 : Int) else (0 : Int)))]))) != (0 : Int)))
 (
 some ([RLeaf.v (AV.agg [AV.int IntKind.i64 (0 : Int), AV.list 0 []]), RLeaf.v (AV.int IntKind.i64 (shut (firstNZ (intsOf (putCells (putCells (zrow (ofV (Go.Value.int IntKind.i64 (0 : Int))).cells 2) 0 [AV.int IntKind.i64 (shut (sampErr n (flosOf cs)))]) 1 [AV.int IntKind.i64 (shut (if b < (1 : Int) ∨ b > (256 : Int) then (3 : Int) else (0 : Int)))])))))]))
 (
 guardO (shut (decide (Flos n cs ∧ n ≤ 5000 ∧ FinL (flosOf cs) ∧ (1 : Int) ≤ b ∧ b ≤ (100000 : Int)))) <|
 some ([RLeaf.v (AV.agg [AV.int IntKind.i64 b, AV.list (shut (levelsF (flosOf cs) b.toNat).length) (shut (lvCells (levelsF (flosOf cs) b.toNat)))]), RLeaf.v (AV.int IntKind.i64 (0 : Int))]))) := by kernel_rfl

theorem run_27 (N : Nat) (n : Nat) (cs : List AV) (b : Int) (m : Nat) (ls : List AV) : (fsM mzK waysQ N 12).call (List RLeaf) 27 [.ofB (.list n cs), .s (.agg [.b (.int .i64 b), .b (.list m ls)])] [] (resK [false]) = (
 guardO (shut (decide (Flos n cs))) <|
 guardO (shut (decide (Ints 2 (putCells (putCells (zrow (ofV (Go.Value.int IntKind.i64 (0 : Int))).cells 2) 0 [AV.int IntKind.i64 (shut (sampErr n (flosOf cs)))]) 1 [AV.int IntKind.i64 (shut (if b < (1 : Int) ∨ b > (256 : Int) then (3 : Int) else (0 : Int)))])))) <|
 condO (shut (shut (firstNZ (intsOf (putCells (putCells (zrow (ofV (Go.Value.int IntKind.i64 (0 : Int))).cells 2) 0 [AV.int IntKind.i64 (shut (sampErr n (flosOf cs)))]) 1 [AV.int IntKind.i64 (shut (if b < (1 : Int) ∨ b > (256 : Int) then (3 : Int) else (0 : Int)))]))) != (0 : Int)))
 (
 some ([RLeaf.v (AV.int IntKind.i64 (shut (firstNZ (intsOf (putCells (putCells (zrow (ofV (Go.Value.int IntKind.i64 (0 : Int))).cells 2) 0 [AV.int IntKind.i64 (shut (sampErr n (flosOf cs)))]) 1 [AV.int IntKind.i64 (shut (if b < (1 : Int) ∨ b > (256 : Int) then (3 : Int) else (0 : Int)))])))))]))
 (
 guardO (shut (decide (Flos n cs ∧ n ≤ 5000 ∧ FinL (flosOf cs) ∧ (1 : Int) ≤ b ∧ b ≤ (100000 : Int)))) <|
 condO (shut ((↑m : Int) != (↑(shut (levelsF (flosOf cs) b.toNat).length) : Int)))
 (
 some ([RLeaf.v (AV.int IntKind.i64 (2 : Int))]))
 (
 loopC N (fun r_5 (x0_5 : Nat) (x1_5 : List AV) (x2_5 : Nat) (x3_5 : List AV) (x4_5 : Int) (x5_5 : Int) (x6_5 : Int) (x7_5 : Nat) (x8_5 : List AV) (x9_5 : Nat) (x10_5 : List AV) =>
 condO (shut (decide (x5_5 < x4_5)))
 (
 guardO (shut (decide ((0 : Int) ≤ x5_5 ∧ x5_5 < (↑x2_5 : Int) ∧ 0 < x3_5.length))) <|
 bindO (asList (x3_5.getD (x5_5.toNat * 1) AV.top)) fun v8 =>
 guardO (shut (decide ((0 : Int) ≤ x5_5 ∧ x5_5 < (↑x7_5 : Int) ∧ 0 < x8_5.length))) <|
 bindO (asList (x8_5.getD (x5_5.toNat * 1) AV.top)) fun v10 =>
 condO (shut ((↑v10.fst : Int) != (↑v8.fst : Int)))
 (
 some ([RLeaf.v (AV.int IntKind.i64 (2 : Int))]))
 (
 r_5 (x0_5) (x1_5) (x2_5) (x3_5) (x4_5) (shut (IntKind.i64.wrap (x5_5 + (1 : Int)))) (x6_5) (x7_5) (x8_5) (x9_5) (x10_5)))
 (
 loopC N (fun r_7 (x0_7 : Int) (x1_7 : Nat) (x2_7 : List AV) (x3_7 : Int) (x4_7 : Int) (x5_7 : Int) (x6_7 : Nat) (x7_7 : List AV) (x8_7 : Nat) (x9_7 : List AV) =>
 condO (shut (decide (x4_7 < x3_7)))
 (
 guardO (shut (decide ((0 : Int) ≤ x4_7 ∧ x4_7 < (↑x1_7 : Int) ∧ 0 < x2_7.length))) <|
 bindO (asList (x2_7.getD (x4_7.toNat * 1) AV.top)) fun v10 =>
 loopC N (fun r_11 (x0_11 : Int) (x1_11 : Int) (x2_11 : Nat) (x3_11 : List AV) (x4_11 : Int) (x5_11 : Int) (x6_11 : Nat) (x7_11 : List AV) (x8_11 : Int) (x9_11 : Int) (x10_11 : Int) (x11_11 : Nat) (x12_11 : List AV) (x13_11 : Nat) (x14_11 : List AV) =>
 condO (shut (decide (x9_11 < x8_11)))
 (
 guardO (shut (decide ((0 : Int) ≤ x9_11 ∧ x9_11 < (↑x6_11 : Int) ∧ 0 < x7_11.length))) <|
 guardO (shut (decide (x9_11.toNat * 2 + 2 ≤ x7_11.length))) <|
 bindO (asFloat Go.FloatKind.f32 (x7_11.getD (x9_11.toNat * 2) AV.top)) fun v15 =>
 bindO (asFloat Go.FloatKind.f32 (x7_11.getD (x9_11.toNat * 2 + 1) AV.top)) fun v16 =>
 guardO (shut (decide ((0 : Int) ≤ x1_11 ∧ x1_11 < (↑x11_11 : Int) ∧ 0 < x12_11.length))) <|
 bindO (asList (x12_11.getD (x1_11.toNat * 1) AV.top)) fun v18 =>
 guardO (shut (decide ((0 : Int) ≤ x9_11 ∧ x9_11 < (↑v18.fst : Int) ∧ 0 < v18.snd.length))) <|
 guardO (shut (decide (x9_11.toNat * 2 + 2 ≤ v18.snd.length))) <|
 bindO (asFloat Go.FloatKind.f32 (v18.snd.getD (x9_11.toNat * 2) AV.top)) fun v21 =>
 bindO (asFloat Go.FloatKind.f32 (v18.snd.getD (x9_11.toNat * 2 + 1) AV.top)) fun v22 =>
 bindO (
 condO (!shut (finB v21))
 (
 some (true))
 (
 some (!shut (finB v22)))) fun v23 =>
 condO (v23)
 (
 some ([RLeaf.v (AV.int IntKind.i64 (1 : Int))]))
 (
 guardO (shut (decide (Ints 2 (putCells (putCells (zrow (ofV (Go.Value.int IntKind.i64 (0 : Int))).cells 2) 0 [AV.int IntKind.i64 x0_11]) 1 [AV.int IntKind.i64 (shut (if (shut !(shut (ordO Go.FloatKind.f32 v21 v15 == Option.some Ordering.eq) && (shut (ordO Go.FloatKind.f32 v22 v16 == Option.some Ordering.eq) && true))) = true then (21 : Int) else (0 : Int)))])))) <|
 r_11 (shut (firstNZ (intsOf (putCells (putCells (zrow (ofV (Go.Value.int IntKind.i64 (0 : Int))).cells 2) 0 [AV.int IntKind.i64 x0_11]) 1 [AV.int IntKind.i64 (shut (if (shut !(shut (ordO Go.FloatKind.f32 v21 v15 == Option.some Ordering.eq) && (shut (ordO Go.FloatKind.f32 v22 v16 == Option.some Ordering.eq) && true))) = true then (21 : Int) else (0 : Int)))])))) (x1_11) (x2_11) (x3_11) (x4_11) (x5_11) (x6_11) (x7_11) (x8_11) (shut (IntKind.i64.wrap (x9_11 + (1 : Int)))) (x10_11) (x11_11) (x12_11) (x13_11) (x14_11)))
 (
 r_7 (x0_11) (x2_11) (x3_11) (x4_11) (shut (IntKind.i64.wrap (x5_11 + (1 : Int)))) (x10_11) (x11_11) (x12_11) (x13_11) (x14_11)))
 (fun _ _ _ _ _ _ _ _ _ _ _ _ _ _ _ => none) (x0_7) (x4_7) (x1_7) (x2_7) (x3_7) (x4_7) (v10.fst) (v10.snd) ((↑v10.fst : Int)) ((0 : Int)) (x5_7) (x6_7) (x7_7) (x8_7) (x9_7))
 (
 some ([RLeaf.v (AV.int IntKind.i64 x0_7)])))
 (fun _ _ _ _ _ _ _ _ _ _ => none) ((0 : Int)) (x0_5) (x1_5) ((↑x0_5 : Int)) ((0 : Int)) (x6_5) (x7_5) (x8_5) (x9_5) (x10_5)))
 (fun _ _ _ _ _ _ _ _ _ _ _ => none) (shut (levelsF (flosOf cs) b.toNat).length) (shut (lvCells (levelsF (flosOf cs) b.toNat))) (shut (levelsF (flosOf cs) b.toNat).length) (shut (lvCells (levelsF (flosOf cs) b.toNat))) ((↑(shut (levelsF (flosOf cs) b.toNat).length) : Int)) ((0 : Int)) (b) (m) (ls) (2) (putCells (putCells (zrow (ofV (Go.Value.int IntKind.i64 (0 : Int))).cells 2) 0 [AV.int IntKind.i64 (shut (sampErr n (flosOf cs)))]) 1 [AV.int IntKind.i64 (shut (if b < (1 : Int) ∨ b > (256 : Int) then (3 : Int) else (0 : Int)))])))) := by kernel_rfl

theorem run_25 (N : Nat) (b : Int) (m : Nat) (ls : List AV) (c : Int) (q : Nat) (ks : List AV) : (fsM mzK waysQ N 12).call (List RLeaf) 25 [.s (.agg [.b (.int .i64 b), .b (.list m ls)]), .s (.agg [.b (.int .i64 c), .b (.list q ks)])] [] (resK [false]) = (
 bindO (
 condO (shut (b != c))
 (
 some (true))
 (
 some (shut ((↑m : Int) != (↑q : Int))))) fun v0 =>
 condO (v0)
 (
 some ([RLeaf.v (AV.bool false)]))
 (
 loopC N (fun r_2 (x0_2 : Int) (x1_2 : Int) (x2_2 : Nat) (x3_2 : List AV) (x4_2 : Int) (x5_2 : Nat) (x6_2 : List AV) =>
 condO (shut (decide (x0_2 < (↑x2_2 : Int))))
 (
 guardO (shut (decide ((0 : Int) ≤ x0_2 ∧ x0_2 < (↑x2_2 : Int) ∧ 0 < x3_2.length))) <|
 bindO (asList (x3_2.getD (x0_2.toNat * 1) AV.top)) fun v5 =>
 guardO (shut (decide ((0 : Int) ≤ x0_2 ∧ x0_2 < (↑x5_2 : Int) ∧ 0 < x6_2.length))) <|
 bindO (asList (x6_2.getD (x0_2.toNat * 1) AV.top)) fun v7 =>
 condO (shut ((↑v5.fst : Int) != (↑v7.fst : Int)))
 (
 some ([RLeaf.v (AV.bool false)]))
 (
 loopC N (fun r_9 (x0_9 : Nat) (x1_9 : List AV) (x2_9 : Nat) (x3_9 : List AV) (x4_9 : Int) (x5_9 : Int) (x6_9 : Nat) (x7_9 : List AV) (x8_9 : Int) (x9_9 : Nat) (x10_9 : List AV) =>
 condO (shut (decide (x4_9 < (↑x0_9 : Int))))
 (
 guardO (shut (decide ((0 : Int) ≤ x4_9 ∧ x4_9 < (↑x0_9 : Int) ∧ 0 < x1_9.length))) <|
 guardO (shut (decide (x4_9.toNat * 2 + 2 ≤ x1_9.length))) <|
 bindO (asFloat Go.FloatKind.f32 (x1_9.getD (x4_9.toNat * 2) AV.top)) fun v13 =>
 bindO (asFloat Go.FloatKind.f32 (x1_9.getD (x4_9.toNat * 2 + 1) AV.top)) fun v14 =>
 guardO (shut (decide ((0 : Int) ≤ x4_9 ∧ x4_9 < (↑x2_9 : Int) ∧ 0 < x3_9.length))) <|
 guardO (shut (decide (x4_9.toNat * 2 + 2 ≤ x3_9.length))) <|
 bindO (asFloat Go.FloatKind.f32 (x3_9.getD (x4_9.toNat * 2) AV.top)) fun v17 =>
 bindO (asFloat Go.FloatKind.f32 (x3_9.getD (x4_9.toNat * 2 + 1) AV.top)) fun v18 =>
 condO (shut !(shut (ordO Go.FloatKind.f32 v13 v17 == Option.some Ordering.eq) && (shut (ordO Go.FloatKind.f32 v14 v18 == Option.some Ordering.eq) && true)))
 (
 some ([RLeaf.v (AV.bool false)]))
 (
 r_9 (x0_9) (x1_9) (x2_9) (x3_9) (shut (IntKind.i64.wrap (x4_9 + (1 : Int)))) (x5_9) (x6_9) (x7_9) (x8_9) (x9_9) (x10_9)))
 (
 r_2 (shut (IntKind.i64.wrap (x0_2 + (1 : Int)))) (x5_9) (x6_9) (x7_9) (x8_9) (x9_9) (x10_9)))
 (fun _ _ _ _ _ _ _ _ _ _ _ => none) (v5.fst) (v5.snd) (v7.fst) (v7.snd) ((0 : Int)) (x1_2) (x2_2) (x3_2) (x4_2) (x5_2) (x6_2)))
 (
 some ([RLeaf.v (AV.bool true)])))
 (fun _ _ _ _ _ _ _ => none) ((0 : Int)) (b) (m) (ls) (c) (q) (ks))) := by kernel_rfl

theorem run_18 (N : Nat) (b : Int) (m : Nat) (ls : List AV) : (fsM mzK waysQ N 12).call (List RLeaf) 18 [.s (.agg [.b (.int .i64 b), .b (.list m ls)])] [] (resK [false]) = (
 condO (shut (decide ((↑m : Int) > (12 : Int))))
 (
 some ([RLeaf.v (AV.bool false)]))
 (
 loopC N (fun r_1 (x0_1 : Int) (x1_1 : Int) (x2_1 : Nat) (x3_1 : List AV) =>
 condO (shut (decide (x0_1 < (↑x2_1 : Int))))
 (
 guardO (shut (decide ((0 : Int) ≤ x0_1 ∧ x0_1 < (↑x2_1 : Int) ∧ 0 < x3_1.length))) <|
 bindO (asList (x3_1.getD (x0_1.toNat * 1) AV.top)) fun v4 =>
 condO (shut (decide ((↑v4.fst : Int) > (80 : Int))))
 (
 some ([RLeaf.v (AV.bool false)]))
 (
 r_1 (shut (IntKind.i64.wrap (x0_1 + (1 : Int)))) (x1_1) (x2_1) (x3_1)))
 (
 some ([RLeaf.v (AV.bool true)])))
 (fun _ _ _ _ => none) ((0 : Int)) (b) (m) (ls))) := by kernel_rfl


end Go.Abs
end

