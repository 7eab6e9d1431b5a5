/- Part 12 of the library that the proof of the statement uses: an abstract run of the program, proved right, and what its functions give. -/
import Derived.Test.YtkloadomnblkeaaGreatDoorBd11
set_option linter.unusedVariables false
set_option linter.unusedSimpArgs false

section
/- Functions of the Memory seat, lifted (printed by the tool gen2.py). -/
set_option maxRecDepth 100000
set_option linter.unusedVariables false
namespace Go.Abs
open Go.Proofs Classical

theorem run_82 (N : Nat) (n : Nat) (cs : List AV) : (fsM [] waysP N 6).call (List RLeaf) 82 [.ofB (.list n cs)] [] (resK [false]) = (
 loopC N (fun r_0 (x0_0 : Nat) (x1_0 : List AV) (x2_0 : Int) (x3_0 : Int) =>
 condO (shut (decide (x3_0 < x2_0)))
 (
 guardO (shut (decide ((0 : Int) ≤ x3_0 ∧ x3_0 < (↑x0_0 : Int) ∧ 0 < x1_0.length))) <|
 bindO (asInt IntKind.i64 (x1_0.getD (x3_0.toNat * 1) AV.top)) fun v3 =>
 condO (shut (v3 != (0 : Int)))
 (
 some ([RLeaf.v (AV.int IntKind.i64 v3)]))
 (
 r_0 (x0_0) (x1_0) (x2_0) (shut (IntKind.i64.wrap (x3_0 + (1 : Int))))))
 (
 some ([RLeaf.v (AV.int IntKind.i64 (0 : Int))])))
 (fun _ _ _ _ => none) (n) (cs) ((↑n : Int)) ((0 : Int))) := by kernel_rfl

theorem run_138 (N : Nat) (n : Nat) (cs : List AV) : (fsM [] waysP N 6).call (List RLeaf) 138 [.ofB (.list n cs)] [] (resK [false]) = (
 loopC N (fun r_0 (x0_0 : Nat) (x1_0 : List AV) (x2_0 : Int) (x3_0 : Int) =>
 condO (shut (decide (x3_0 < x2_0)))
 (
 guardO (shut (decide ((0 : Int) ≤ x3_0 ∧ x3_0 < (↑x0_0 : Int) ∧ 0 < x1_0.length))) <|
 bindO (asInt IntKind.i64 (x1_0.getD (x3_0.toNat * 1) AV.top)) fun v3 =>
 condO (shut (v3 != (0 : Int)))
 (
 some ([RLeaf.v (AV.int IntKind.i64 v3)]))
 (
 r_0 (x0_0) (x1_0) (x2_0) (shut (IntKind.i64.wrap (x3_0 + (1 : Int))))))
 (
 some ([RLeaf.v (AV.int IntKind.i64 (0 : Int))])))
 (fun _ _ _ _ => none) (n) (cs) ((↑n : Int)) ((0 : Int))) := by kernel_rfl

theorem run_87 (N : Nat) (b : Bool) (a : Int) : (fsM [] waysP N 6).call (List RLeaf) 87 [.ofB (.bool b), .ofB (.int .i64 a)] [] (resK [false]) = (
 condO (b)
 (
 some ([RLeaf.v (AV.int IntKind.i64 a)]))
 (
 some ([RLeaf.v (AV.int IntKind.i64 (0 : Int))]))) := by kernel_rfl

theorem run_126 (N : Nat) (b : Bool) (a : Int) : (fsM [] waysP N 6).call (List RLeaf) 126 [.ofB (.bool b), .ofB (.int .i64 a)] [] (resK [false]) = (
 condO (b)
 (
 some ([RLeaf.v (AV.int IntKind.i64 a)]))
 (
 some ([RLeaf.v (AV.int IntKind.i64 (0 : Int))]))) := by kernel_rfl

theorem run_86 (N : Nat) (o : Option Nat) : (fsM [] waysP N 6).call (List RLeaf) 86 [.ofB (.flo .f32 o)] [] (resK [false]) = (
 some ([RLeaf.v (AV.bool (shut (ordO Go.FloatKind.f32 (shut (arithO Go.BinOp.sub Go.FloatKind.f32 o o)) (Option.some 0) == Option.some Ordering.eq)))])) := by kernel_rfl

theorem run_127 (N : Nat) (o : Option Nat) : (fsM [] waysP N 6).call (List RLeaf) 127 [.ofB (.flo .f32 o)] [] (resK [false]) = (
 some ([RLeaf.v (AV.bool (shut (ordO Go.FloatKind.f32 (shut (arithO Go.BinOp.sub Go.FloatKind.f32 o o)) (Option.some 0) == Option.some Ordering.eq)))])) := by kernel_rfl

theorem run_41 (N : Nat) (o : Option Nat) : (fsM [] waysP N 6).call (List RLeaf) 41 [.ofB (.flo .f32 o)] [] (resK [false]) = (
 some ([RLeaf.v (AV.bool (shut (ordO Go.FloatKind.f32 (shut (arithO Go.BinOp.sub Go.FloatKind.f32 o o)) (Option.some 0) == Option.some Ordering.eq)))])) := by kernel_rfl

theorem run_104 (N : Nat) (o : Option Nat) : (fsM [] waysP N 6).call (List RLeaf) 104 [.ofB (.flo .f32 o)] [] (resK [false]) = (
 condO (shut (ordO Go.FloatKind.f32 o (Option.some 0) == Option.some Ordering.eq))
 (
 some ([RLeaf.v (AV.flo Go.FloatKind.f32 (Option.some 0))]))
 (
 some ([RLeaf.v (AV.flo Go.FloatKind.f32 o)]))) := by kernel_rfl

theorem run_60 (N : Nat) (n : Nat) (cs : List AV) (m : Nat) (ds : List AV) : (fsM [] waysP N 6).call (List RLeaf) 60 [.ofB (.list n cs), .ofB (.list m ds)] [] (resK [false]) = (
 condO (shut ((↑n : Int) != (↑m : Int)))
 (
 some ([RLeaf.v (AV.bool false)]))
 (
 loopC N (fun r_1 (x0_1 : Nat) (x1_1 : List AV) (x2_1 : Nat) (x3_1 : List AV) (x4_1 : Int) =>
 condO (shut (decide (x4_1 < (↑x0_1 : Int))))
 (
 guardO (shut (decide ((0 : Int) ≤ x4_1 ∧ x4_1 < (↑x0_1 : Int) ∧ 0 < x1_1.length))) <|
 bindO (asInt IntKind.i64 (x1_1.getD (x4_1.toNat * 1) AV.top)) fun v4 =>
 guardO (shut (decide ((0 : Int) ≤ x4_1 ∧ x4_1 < (↑x2_1 : Int) ∧ 0 < x3_1.length))) <|
 bindO (asInt IntKind.i64 (x3_1.getD (x4_1.toNat * 1) AV.top)) fun v6 =>
 condO (shut (v4 != v6))
 (
 some ([RLeaf.v (AV.bool false)]))
 (
 r_1 (x0_1) (x1_1) (x2_1) (x3_1) (shut (IntKind.i64.wrap (x4_1 + (1 : Int))))))
 (
 some ([RLeaf.v (AV.bool true)])))
 (fun _ _ _ _ _ => none) (n) (cs) (m) (ds) ((0 : Int)))) := by kernel_rfl

theorem run_61 (N : Nat) (n : Nat) (cs : List AV) (m : Nat) (ds : List AV) : (fsM [] waysP N 6).call (List RLeaf) 61 [.ofB (.list n cs), .ofB (.list m ds)] [] (resK [false]) = (
 condO (shut ((↑n : Int) != (↑m : Int)))
 (
 some ([RLeaf.v (AV.bool false)]))
 (
 loopC N (fun r_1 (x0_1 : Nat) (x1_1 : List AV) (x2_1 : Nat) (x3_1 : List AV) (x4_1 : Int) =>
 condO (shut (decide (x4_1 < (↑x0_1 : Int))))
 (
 guardO (shut (decide ((0 : Int) ≤ x4_1 ∧ x4_1 < (↑x0_1 : Int) ∧ 0 < x1_1.length))) <|
 bindO (asFloat Go.FloatKind.f32 (x1_1.getD (x4_1.toNat * 1) AV.top)) fun v4 =>
 guardO (shut (decide ((0 : Int) ≤ x4_1 ∧ x4_1 < (↑x2_1 : Int) ∧ 0 < x3_1.length))) <|
 bindO (asFloat Go.FloatKind.f32 (x3_1.getD (x4_1.toNat * 1) AV.top)) fun v6 =>
 condO (shut (ordO Go.FloatKind.f32 v4 v6 != Option.some Ordering.eq))
 (
 some ([RLeaf.v (AV.bool false)]))
 (
 r_1 (x0_1) (x1_1) (x2_1) (x3_1) (shut (IntKind.i64.wrap (x4_1 + (1 : Int))))))
 (
 some ([RLeaf.v (AV.bool true)])))
 (fun _ _ _ _ _ => none) (n) (cs) (m) (ds) ((0 : Int)))) := by kernel_rfl

theorem run_71 (N : Nat) (n : Nat) (cs : List AV) (m : Nat) (ds : List AV) : (fsM [] waysP N 6).call (List RLeaf) 71 [.ofB (.list n cs), .ofB (.list m ds)] [] (resK [false]) = (
 condO (shut ((↑n : Int) != (↑m : Int)))
 (
 some ([RLeaf.v (AV.bool false)]))
 (
 loopC N (fun r_1 (x0_1 : Nat) (x1_1 : List AV) (x2_1 : Nat) (x3_1 : List AV) (x4_1 : Int) =>
 condO (shut (decide (x4_1 < (↑x0_1 : Int))))
 (
 guardO (shut (decide ((0 : Int) ≤ x4_1 ∧ x4_1 < (↑x0_1 : Int) ∧ 0 < x1_1.length))) <|
 bindO (asInt IntKind.u8 (x1_1.getD (x4_1.toNat * 1) AV.top)) fun v4 =>
 guardO (shut (decide ((0 : Int) ≤ x4_1 ∧ x4_1 < (↑x2_1 : Int) ∧ 0 < x3_1.length))) <|
 bindO (asInt IntKind.u8 (x3_1.getD (x4_1.toNat * 1) AV.top)) fun v6 =>
 condO (shut (v4 != v6))
 (
 some ([RLeaf.v (AV.bool false)]))
 (
 r_1 (x0_1) (x1_1) (x2_1) (x3_1) (shut (IntKind.i64.wrap (x4_1 + (1 : Int))))))
 (
 some ([RLeaf.v (AV.bool true)])))
 (fun _ _ _ _ _ => none) (n) (cs) (m) (ds) ((0 : Int)))) := by kernel_rfl

theorem run_76 (N : Nat) (n : Nat) (cs : List AV) (m : Nat) (ds : List AV) : (fsM [] waysP N 6).call (List RLeaf) 76 [.ofB (.list n cs), .ofB (.list m ds)] [] (resK [false]) = (
 condO (shut ((↑n : Int) != (↑m : Int)))
 (
 some ([RLeaf.v (AV.bool false)]))
 (
 loopC N (fun r_1 (x0_1 : Nat) (x1_1 : List AV) (x2_1 : Nat) (x3_1 : List AV) (x4_1 : Int) =>
 condO (shut (decide (x4_1 < (↑x0_1 : Int))))
 (
 guardO (shut (decide ((0 : Int) ≤ x4_1 ∧ x4_1 < (↑x0_1 : Int) ∧ 0 < x1_1.length))) <|
 bindO (asInt IntKind.u16 (x1_1.getD (x4_1.toNat * 1) AV.top)) fun v4 =>
 guardO (shut (decide ((0 : Int) ≤ x4_1 ∧ x4_1 < (↑x2_1 : Int) ∧ 0 < x3_1.length))) <|
 bindO (asInt IntKind.u16 (x3_1.getD (x4_1.toNat * 1) AV.top)) fun v6 =>
 condO (shut (v4 != v6))
 (
 some ([RLeaf.v (AV.bool false)]))
 (
 r_1 (x0_1) (x1_1) (x2_1) (x3_1) (shut (IntKind.i64.wrap (x4_1 + (1 : Int))))))
 (
 some ([RLeaf.v (AV.bool true)])))
 (fun _ _ _ _ _ => none) (n) (cs) (m) (ds) ((0 : Int)))) := by kernel_rfl

theorem run_62 (N : Nat) (a b c : Int) : (fsM [] waysP N 6).call (List RLeaf) 62 [.ofB (.int .i64 a), .ofB (.int .i64 b), .ofB (.int .i64 c)] [] (resK [false]) = (
 bindO (
 condO (shut (decide (a ≤ b)))
 (
 some (true))
 (
 condO (shut (decide (a > c)))
 (
 some (shut (decide (a ≤ shut (IntKind.i64.wrap (c + (2 : Int)))))))
 (
 some (false)))) fun v0 =>
 some ([RLeaf.v (AV.bool v0)])) := by kernel_rfl

theorem run_23 (N : Nat) (a : Int) : (fsM [] waysP N 6).call (List RLeaf) 23 [.ofB (.int .i64 a)] [] (resK [false]) = (
 joinC N (
 (fun (y0_0 : Bool) =>
 condO (y0_0)
 (
 some ([RLeaf.v (AV.int IntKind.i64 (3 : Int))]))
 (
 some ([RLeaf.v (AV.int IntKind.i64 (0 : Int))]))), PUnit.unit) fun k_0 =>
 bindO (
 condO (shut (decide (a < (1 : Int))))
 (
 some (true))
 (
 some (shut (decide (a > (256 : Int)))))) fun v1 =>
 k_0.1 (v1)) := by kernel_rfl

theorem run_31 (N : Nat) (a b c : Int) : (fsM [] waysP N 6).call (List RLeaf) 31 [.ofB (.int .i64 a), .ofB (.int .i64 b), .ofB (.int .i64 c)] [] (resK [false]) = (
 joinC N (
 (fun (y0_0 : Int) (y1_0 : Int) (y2_0 : Bool) =>
 condO (y2_0)
 (
 some ([RLeaf.v (AV.int IntKind.i64 (3 : Int))]))
 (
 condO (shut (decide (y1_0 < y0_0)))
 (
 some ([RLeaf.v (AV.int IntKind.i64 (11 : Int))]))
 (
 some ([RLeaf.v (AV.int IntKind.i64 (0 : Int))])))), PUnit.unit) fun k_0 =>
 bindO (
 condO (shut (decide (b < (0 : Int))))
 (
 some (true))
 (
 some (shut (decide (b > a))))) fun v1 =>
 bindO (
 condO (v1)
 (
 some (true))
 (
 some (shut (decide (c < (0 : Int)))))) fun v2 =>
 bindO (
 condO (v2)
 (
 some (true))
 (
 some (shut (decide (c > a))))) fun v3 =>
 k_0.1 (b) (c) (v3)) := by kernel_rfl

theorem run_39 (N : Nat) (a : Int) : (fsM [] waysP N 6).call (List RLeaf) 39 [.ofB (.int .i64 a)] [] (resK [false]) = (
 bindO (
 condO (shut (decide (a < (1 : Int))))
 (
 some (true))
 (
 some (shut (decide (a > (2048 : Int)))))) fun v0 =>
 condO (v0)
 (
 some ([RLeaf.v (AV.int IntKind.i64 (3 : Int))]))
 (
 some ([RLeaf.v (AV.int IntKind.i64 (0 : Int))]))) := by kernel_rfl

theorem run_49 (N : Nat) (a b : Int) : (fsM [] waysP N 6).call (List RLeaf) 49 [.ofB (.int .i64 a), .ofB (.int .i64 b)] [] (resK [false]) = (
 joinC N (
 (fun (y0_0 : Bool) =>
 condO (y0_0)
 (
 some ([RLeaf.v (AV.int IntKind.i64 (3 : Int))]))
 (
 some ([RLeaf.v (AV.int IntKind.i64 (0 : Int))]))), PUnit.unit) fun k_0 =>
 bindO (
 condO (shut (decide (b < (0 : Int))))
 (
 some (true))
 (
 some (shut (decide (b > a))))) fun v1 =>
 k_0.1 (v1)) := by kernel_rfl

theorem run_50 (N : Nat) (a : Int) : (fsM [] waysP N 6).call (List RLeaf) 50 [.ofB (.int .i64 a)] [] (resK [false, false]) = (
 condO (shut (decide (a < (0 : Int))))
 (
 some ([RLeaf.v (AV.int IntKind.i64 (0 : Int)), RLeaf.v (AV.int IntKind.i64 (7 : Int))]))
 (
 some ([RLeaf.v (AV.int IntKind.i64 a), RLeaf.v (AV.int IntKind.i64 (0 : Int))]))) := by kernel_rfl

theorem run_96 (N : Nat) (a : Int) : (fsM [] waysP N 6).call (List RLeaf) 96 [.ofB (.int .i64 a)] [] (resK [false, false]) = (
 condO (shut (decide (a < (0 : Int))))
 (
 some ([RLeaf.v (AV.int IntKind.i64 (0 : Int)), RLeaf.v (AV.int IntKind.i64 (7 : Int))]))
 (
 some ([RLeaf.v (AV.int IntKind.i64 a), RLeaf.v (AV.int IntKind.i64 (0 : Int))]))) := by kernel_rfl

theorem run_118 (N : Nat) (a : Int) : (fsM [] waysP N 6).call (List RLeaf) 118 [.ofB (.int .i64 a)] [] (resK [false]) = (
 condO (shut (decide (a < (0 : Int))))
 (
 some ([RLeaf.v (AV.int IntKind.i64 (shut (IntKind.i64.wrap (shut (IntKind.i64.wrap ((-2 : Int) * a)) - (1 : Int)))))]))
 (
 some ([RLeaf.v (AV.int IntKind.i64 (shut (IntKind.i64.wrap ((2 : Int) * a))))]))) := by kernel_rfl

theorem run_119 (N : Nat) (a : Int) : (fsM [] waysP N 6).call (List RLeaf) 119 [.ofB (.int .i64 a)] [] (resK [false]) = (
 guardO (shut (decide ((2 : Int) ≠ (0 : Int)))) <|
 condO (shut (shut (a.tmod (2 : Int)) == (1 : Int)))
 (
 guardO (shut (decide ((2 : Int) ≠ (0 : Int)))) <|
 some ([RLeaf.v (AV.int IntKind.i64 (shut (IntKind.i64.wrap ((shut (IntKind.i64.wrap ((0 : Int) - shut (IntKind.i64.wrap (a + (1 : Int)))))).tdiv (2 : Int)))))]))
 (
 guardO (shut (decide ((2 : Int) ≠ (0 : Int)))) <|
 some ([RLeaf.v (AV.int IntKind.i64 (shut (IntKind.i64.wrap (a.tdiv (2 : Int)))))]))) := by kernel_rfl

theorem run_68 (N : Nat) (n : Nat) (cs : List AV) : (fsM [] waysP N 6).call (List RLeaf) 68 [.ofB (.list n cs)] [] (resK [false]) = (
 condO (shut (decide ((↑n : Int) > (4096 : Int))))
 (
 some ([RLeaf.v (AV.int IntKind.i64 (5 : Int))]))
 (
 loopC N (fun r_1 (x0_1 : Nat) (x1_1 : List AV) (x2_1 : Int) =>
 condO (shut (decide (x2_1 < (↑x0_1 : Int))))
 (
 joinC N (
 (fun (y0_3 : Nat) (y1_3 : List AV) (y2_3 : Int) (y3_3 : Bool) =>
 condO (y3_3)
 (
 some ([RLeaf.v (AV.int IntKind.i64 (3 : Int))]))
 (
 r_1 (y0_3) (y1_3) (shut (IntKind.i64.wrap (y2_3 + (1 : Int)))))), PUnit.unit) fun k_3 =>
 guardO (shut (decide ((0 : Int) ≤ x2_1 ∧ x2_1 < (↑x0_1 : Int) ∧ 0 < x1_1.length))) <|
 bindO (asInt IntKind.i64 (x1_1.getD (x2_1.toNat * 1) AV.top)) fun v5 =>
 bindO (
 condO (shut (decide (v5 < (0 : Int))))
 (
 some (true))
 (
 guardO (shut (decide ((0 : Int) ≤ x2_1 ∧ x2_1 < (↑x0_1 : Int) ∧ 0 < x1_1.length))) <|
 bindO (asInt IntKind.i64 (x1_1.getD (x2_1.toNat * 1) AV.top)) fun v9 =>
 some (shut (decide (v9 > (4095 : Int)))))) fun v6 =>
 k_3.1 (x0_1) (x1_1) (x2_1) (v6))
 (
 some ([RLeaf.v (AV.int IntKind.i64 (0 : Int))])))
 (fun _ _ _ => none) (n) (cs) ((0 : Int)))) := by kernel_rfl

theorem run_84 (N : Nat) (a b c : Int) : (fsM [] waysP N 6).call (List RLeaf) 84 [.ofB (.int .i64 a), .ofB (.int .i64 b), .ofB (.int .i64 c)] [] (resK [false]) = (
 bindO (
 condO (shut (decide (a < b)))
 (
 some (true))
 (
 some (shut (decide (a > c))))) fun v0 =>
 condO (v0)
 (
 some ([RLeaf.v (AV.int IntKind.i64 (3 : Int))]))
 (
 some ([RLeaf.v (AV.int IntKind.i64 (0 : Int))]))) := by kernel_rfl

theorem run_22 (N : Nat) (n : Nat) (cs : List AV) : (fsM [] waysP N 6).call (List RLeaf) 22 [.ofB (.list n cs)] [] (resK [false]) = (
 condO (shut (decide ((↑n : Int) > (4096 : Int))))
 (
 some ([RLeaf.v (AV.int IntKind.i64 (5 : Int))]))
 (
 loopC N (fun r_1 (x0_1 : Nat) (x1_1 : List AV) (x2_1 : Int) =>
 condO (shut (decide (x2_1 < (↑x0_1 : Int))))
 (
 guardO (shut (decide ((0 : Int) ≤ x2_1 ∧ x2_1 < (↑x0_1 : Int) ∧ 0 < x1_1.length))) <|
 bindO (asFloat Go.FloatKind.f32 (x1_1.getD (x2_1.toNat * 1) AV.top)) fun v4 =>
 condO (!shut (ordO Go.FloatKind.f32 (shut (arithO Go.BinOp.sub Go.FloatKind.f32 v4 v4)) (Option.some 0) == Option.some Ordering.eq))
 (
 some ([RLeaf.v (AV.int IntKind.i64 (1 : Int))]))
 (
 r_1 (x0_1) (x1_1) (shut (IntKind.i64.wrap (x2_1 + (1 : Int))))))
 (
 some ([RLeaf.v (AV.int IntKind.i64 (0 : Int))])))
 (fun _ _ _ => none) (n) (cs) ((0 : Int)))) := by kernel_rfl

theorem run_83 (N : Nat) (n : Nat) (cs : List AV) : (fsM [] waysP N 6).call (List RLeaf) 83 [.ofB (.list n cs)] [] (resK [false]) = (
 condO (shut (decide ((↑n : Int) > (4096 : Int))))
 (
 some ([RLeaf.v (AV.int IntKind.i64 (5 : Int))]))
 (
 loopC N (fun r_1 (x0_1 : Nat) (x1_1 : List AV) (x2_1 : Int) (x3_1 : Int) =>
 condO (shut (decide (x3_1 < x2_1)))
 (
 guardO (shut (decide ((0 : Int) ≤ x3_1 ∧ x3_1 < (↑x0_1 : Int) ∧ 0 < x1_1.length))) <|
 bindO (asFloat Go.FloatKind.f32 (x1_1.getD (x3_1.toNat * 1) AV.top)) fun v4 =>
 condO (!shut (ordO Go.FloatKind.f32 (shut (arithO Go.BinOp.sub Go.FloatKind.f32 v4 v4)) (Option.some 0) == Option.some Ordering.eq))
 (
 condO (shut ((1 : Int) != (0 : Int)))
 (
 some ([RLeaf.v (AV.int IntKind.i64 (1 : Int))]))
 (
 r_1 (x0_1) (x1_1) (x2_1) (shut (IntKind.i64.wrap (x3_1 + (1 : Int))))))
 (
 condO (shut ((0 : Int) != (0 : Int)))
 (
 some ([RLeaf.v (AV.int IntKind.i64 (0 : Int))]))
 (
 r_1 (x0_1) (x1_1) (x2_1) (shut (IntKind.i64.wrap (x3_1 + (1 : Int)))))))
 (
 some ([RLeaf.v (AV.int IntKind.i64 (0 : Int))])))
 (fun _ _ _ _ => none) (n) (cs) ((↑n : Int)) ((0 : Int)))) := by kernel_rfl

theorem run_17 (N : Nat) (n : Nat) (cs : List AV) : (fsM [] waysP N 6).call (List RLeaf) 17 [.ofB (.list n cs)] [] (resK [false]) = (
 bindO (
 condO (shut (decide ((↑n : Int) ≤ (64 : Int))))
 (
 some (true))
 (
 condO (shut (decide ((↑n : Int) > (4096 : Int))))
 (
 some (shut (decide ((↑n : Int) ≤ shut (IntKind.i64.wrap ((4096 : Int) + (2 : Int)))))))
 (
 some (false)))) fun v0 =>
 some ([RLeaf.v (AV.bool v0)])) := by kernel_rfl


end Go.Abs
end

