/- Part 10 of the library that the proof of the statement uses: an abstract run of the program, proved right, and what its functions give. -/
import Derived.Test.YtaejnfdlolfpkaaGreatDoorStm9
set_option linter.unusedVariables false
set_option linter.unusedSimpArgs false

section
/- Functions of the Acquire seat, lifted (printed by the tool gen.py). -/
set_option maxRecDepth 100000
set_option linter.unusedVariables false
namespace Go.Abs
open Go.Proofs Classical

theorem run_10 (N : Nat) (n : Nat) (cs : List AV) (m : Nat) (ds : List AV) (b : Int) : (fsZ tz6 N 8).call (List RLeaf) 10 [.ofB (.list n cs), .ofB (.list m ds), .ofB (.int .i64 b)] [] (resK [false]) = (
 guardO (shut (decide (Segs n cs))) <|
 condO (!shut (shortS n (20 : Int) (segsOf n cs)))
  (
  some [RLeaf.v (AV.bool true)])
  (
  guardO (shut (decide (Segs n cs))) <|
  condO (shut (shut (chkS n (segsOf n cs)) != (0 : Int)))
   (
   some [RLeaf.v (AV.bool true)])
   (
   condO (shut (decide ((↑m : Int) > (20 : Int))))
    (
    some [RLeaf.v (AV.bool true)])
    (
    condO (shut (decide (b < (1 : Int) ∨ b > (20 : Int))))
     (
     some [RLeaf.v (AV.bool true)])
     (
     guardO (shut (decide ((0 : Int) ≤ b))) <|
     guardO (shut (decide (Ints m ds))) <|
     loopC N (fun r_8 (x0_8 : Nat) (x1_8 : List AV) (x2_8 : Nat) (x3_8 : List AV) (x4_8 : Int) (x5_8 : Int) (x6_8 : Nat) (x7_8 : List AV) (x8_8 : Int) (x9_8 : Nat) (x10_8 : List AV) (x11_8 : Int) (x12_8 : Int) =>
       condO (shut (decide (x12_8 < x11_8)))
        (
        guardO (shut (decide ((0 : Int) ≤ x12_8 ∧ x12_8 < (↑x9_8 : Int) ∧ 0 < x10_8.length))) <|
        bindO (asInt IntKind.i64 (x10_8.getD (x12_8.toNat * 1) AV.top)) fun v11 =>
        condO (shut (decide (v11 < (0 : Int))))
         (
         some [RLeaf.v (AV.bool (shut (x8_8 == (3 : Int))))])
         (
         condO (shut (decide (v11 ≥ x5_8)))
          (
          some [RLeaf.v (AV.bool (shut (x8_8 == (3 : Int))))])
          (
          r_8 (x0_8) (x1_8) (x2_8) (x3_8) (x4_8) (x5_8) (x6_8) (x7_8) (x8_8) (x9_8) (x10_8) (x11_8) (shut (IntKind.i64.wrap (x12_8 + (1 : Int)))))))
        (
        condO (shut (x8_8 != (0 : Int)))
         (
         some [RLeaf.v (AV.bool false)])
         (
         condO (shut ((↑x6_8 : Int) != (↑x2_8 : Int)))
          (
          some [RLeaf.v (AV.bool false)])
          (
          loopC N (fun r_12 (x0_12 : Nat) (x1_12 : List AV) (x2_12 : Nat) (x3_12 : List AV) (x4_12 : Int) (x5_12 : Int) (x6_12 : Nat) (x7_12 : List AV) (x8_12 : Nat) (x9_12 : List AV) (x10_12 : Int) (x11_12 : Int) =>
            condO (shut (decide (x11_12 < x10_12)))
             (
             guardO (shut (decide ((0 : Int) ≤ x11_12 ∧ x11_12 < (↑x8_12 : Int) ∧ 0 < x9_12.length))) <|
             bindO (asInt IntKind.i64 (x9_12.getD (x11_12.toNat * 1) AV.top)) fun v15 =>
             condO (shut (decide (v15 < (0 : Int))))
              (
              some [RLeaf.v (AV.bool false)])
              (
              guardO (shut (decide (x5_12 ≠ (0 : Int)))) <|
              guardO (shut (decide ((0 : Int) ≤ x11_12 ∧ x11_12 < (↑x2_12 : Int) ∧ 0 < x3_12.length))) <|
              bindO (asInt IntKind.i64 (x3_12.getD (x11_12.toNat * 1) AV.top)) fun v19 =>
              condO (shut (shut (v15.tmod x5_12) != v19))
               (
               some [RLeaf.v (AV.bool false)])
               (
               condO (shut (x11_12 == (0 : Int)))
                (
                condO (shut (decide (v15 ≥ x5_12)))
                 (
                 some [RLeaf.v (AV.bool false)])
                 (
                 condO (shut (decide (x11_12 > (0 : Int))))
                  (
                  guardO (shut (decide ((0 : Int) ≤ shut (IntKind.i64.wrap (x11_12 - (1 : Int))) ∧ shut (IntKind.i64.wrap (x11_12 - (1 : Int))) < (↑x6_12 : Int) ∧ 0 < x7_12.length))) <|
                  bindO (asInt IntKind.i64 (x7_12.getD ((shut (IntKind.i64.wrap (x11_12 - (1 : Int)))).toNat * 1) AV.top)) fun v25 =>
                  condO (shut (decide (v15 ≤ v25)))
                   (
                   some [RLeaf.v (AV.bool false)])
                   (
                   guardO (shut (decide ((0 : Int) ≤ shut (IntKind.i64.wrap (x11_12 - (1 : Int))) ∧ shut (IntKind.i64.wrap (x11_12 - (1 : Int))) < (↑x6_12 : Int) ∧ 0 < x7_12.length))) <|
                   bindO (asInt IntKind.i64 (x7_12.getD ((shut (IntKind.i64.wrap (x11_12 - (1 : Int)))).toNat * 1) AV.top)) fun v28 =>
                   condO (shut (decide (shut (IntKind.i64.wrap (v15 - v28)) > x5_12)))
                    (
                    some [RLeaf.v (AV.bool false)])
                    (
                    r_12 (x0_12) (x1_12) (x2_12) (x3_12) (x4_12) (x5_12) (x6_12) (x7_12) (x8_12) (x9_12) (x10_12) (shut (IntKind.i64.wrap (x11_12 + (1 : Int)))))))
                  (
                  r_12 (x0_12) (x1_12) (x2_12) (x3_12) (x4_12) (x5_12) (x6_12) (x7_12) (x8_12) (x9_12) (x10_12) (shut (IntKind.i64.wrap (x11_12 + (1 : Int)))))))
                (
                condO (shut (decide (x11_12 > (0 : Int))))
                 (
                 guardO (shut (decide ((0 : Int) ≤ shut (IntKind.i64.wrap (x11_12 - (1 : Int))) ∧ shut (IntKind.i64.wrap (x11_12 - (1 : Int))) < (↑x6_12 : Int) ∧ 0 < x7_12.length))) <|
                 bindO (asInt IntKind.i64 (x7_12.getD ((shut (IntKind.i64.wrap (x11_12 - (1 : Int)))).toNat * 1) AV.top)) fun v24 =>
                 condO (shut (decide (v15 ≤ v24)))
                  (
                  some [RLeaf.v (AV.bool false)])
                  (
                  guardO (shut (decide ((0 : Int) ≤ shut (IntKind.i64.wrap (x11_12 - (1 : Int))) ∧ shut (IntKind.i64.wrap (x11_12 - (1 : Int))) < (↑x6_12 : Int) ∧ 0 < x7_12.length))) <|
                  bindO (asInt IntKind.i64 (x7_12.getD ((shut (IntKind.i64.wrap (x11_12 - (1 : Int)))).toNat * 1) AV.top)) fun v27 =>
                  condO (shut (decide (shut (IntKind.i64.wrap (v15 - v27)) > x5_12)))
                   (
                   some [RLeaf.v (AV.bool false)])
                   (
                   r_12 (x0_12) (x1_12) (x2_12) (x3_12) (x4_12) (x5_12) (x6_12) (x7_12) (x8_12) (x9_12) (x10_12) (shut (IntKind.i64.wrap (x11_12 + (1 : Int)))))))
                 (
                 r_12 (x0_12) (x1_12) (x2_12) (x3_12) (x4_12) (x5_12) (x6_12) (x7_12) (x8_12) (x9_12) (x10_12) (shut (IntKind.i64.wrap (x11_12 + (1 : Int)))))))))
             (
             loopC N (fun r_14 (x0_14 : Nat) (x1_14 : List AV) (x2_14 : Int) (x3_14 : Nat) (x4_14 : List AV) (x5_14 : Nat) (x6_14 : List AV) =>
               condO (shut (decide (x2_14 < (↑x0_14 : Int))))
                (
                guardO (shut (decide ((0 : Int) ≤ x2_14 ∧ x2_14 < (↑x0_14 : Int) ∧ 0 < x1_14.length))) <|
                guardO (shut (decide (x2_14.toNat * 5 + 5 ≤ x1_14.length))) <|
                bindO (asInt IntKind.i64 (x1_14.getD (x2_14.toNat * 5) AV.top)) fun v18 =>
                bindO (asInt IntKind.i64 (x1_14.getD (x2_14.toNat * 5 + 1) AV.top)) fun v19 =>
                bindO (asList (x1_14.getD (x2_14.toNat * 5 + 1 + 1) AV.top)) fun v20 =>
                bindO (asInt IntKind.i64 (x1_14.getD (x2_14.toNat * 5 + 1 + 1 + 1) AV.top)) fun v21 =>
                bindO (asInt IntKind.i64 (x1_14.getD (x2_14.toNat * 5 + 1 + 1 + 1 + 1) AV.top)) fun v22 =>
                guardO (shut (decide ((x5_14 + 1) * 57 ≤ 549755813888))) <|
                r_14 (x0_14) (x1_14) (shut (IntKind.i64.wrap (x2_14 + (1 : Int)))) (x3_14) (x4_14) (x5_14 + 1) (x6_14 ++ putCells (zrow (ofV (Go.Value.agg #[Go.Value.int IntKind.i64 (0 : Int), Go.Value.int IntKind.i64 (0 : Int), Go.Value.slice Option.none 0 0, Go.Value.int IntKind.i64 (0 : Int), Go.Value.int IntKind.i64 (0 : Int)])).cells 5) 0 [AV.int IntKind.i64 v18, AV.int IntKind.i64 v19, AV.list v20.fst v20.snd, AV.int IntKind.i64 v21, AV.int IntKind.i64 v22]))
                (
                guardO (shut (decide (Segs x5_14 x6_14))) <|
                guardO (shut (decide (Ints (shut (stpP x5_14 x4_12 (segsOf x5_14 x6_14)).fst.length) (shut (intsL (stpP x5_14 x4_12 (segsOf x5_14 x6_14)).fst))))) <|
                condO (shut (shut (stpP x5_14 x4_12 (segsOf x5_14 x6_14)).snd != (0 : Int)))
                 (
                 some [RLeaf.v (AV.bool false)])
                 (
                 condO (shut (shut (unwP (shut (stpP x5_14 x4_12 (segsOf x5_14 x6_14)).fst.length) x4_12 (intsOf (shut (intsL (stpP x5_14 x4_12 (segsOf x5_14 x6_14)).fst)))).snd != (0 : Int)))
                  (
                  some [RLeaf.v (AV.bool false)])
                  (
                  loopC N (fun r_20 (x0_20 : Nat) (x1_20 : List AV) (x2_20 : Int) (x3_20 : Nat) (x4_20 : List AV) (x5_20 : Bool) (x6_20 : Nat) (x7_20 : List AV) (x8_20 : Int) (x9_20 : Int) (x10_20 : Nat) (x11_20 : List AV) (x12_20 : Nat) (x13_20 : List AV) =>
                    condO (shut (decide (x9_20 < x8_20)))
                     (
                     guardO (shut (decide ((0 : Int) ≤ x9_20 ∧ x9_20 < (↑x6_20 : Int) ∧ 0 < x7_20.length))) <|
                     guardO (shut (decide (x9_20.toNat * 5 + 5 ≤ x7_20.length))) <|
                     bindO (asInt IntKind.i64 (x7_20.getD (x9_20.toNat * 5) AV.top)) fun v24 =>
                     bindO (asInt IntKind.i64 (x7_20.getD (x9_20.toNat * 5 + 1) AV.top)) fun v25 =>
                     bindO (asList (x7_20.getD (x9_20.toNat * 5 + 1 + 1) AV.top)) fun v26 =>
                     bindO (asInt IntKind.i64 (x7_20.getD (x9_20.toNat * 5 + 1 + 1 + 1) AV.top)) fun v27 =>
                     bindO (asInt IntKind.i64 (x7_20.getD (x9_20.toNat * 5 + 1 + 1 + 1 + 1) AV.top)) fun v28 =>
                     condO (shut (decide (x9_20 > (0 : Int))))
                      (
                      guardO (shut (decide ((0 : Int) ≤ shut (IntKind.i64.wrap (x9_20 - (1 : Int))) ∧ shut (IntKind.i64.wrap (x9_20 - (1 : Int))) < (↑x0_20 : Int) ∧ 0 < x1_20.length))) <|
                      bindO (asInt IntKind.i64 (x1_20.getD ((shut (IntKind.i64.wrap (x9_20 - (1 : Int)))).toNat * 5 + 1) AV.top)) fun v31 =>
                      condO (x5_20)
                       (
                       r_20 (x0_20) (x1_20) (x2_20) (x3_20) (x4_20) (shut (decide (shut (IntKind.i64.wrap (v25 - v31)) ≤ x2_20))) (x6_20) (x7_20) (x8_20) (shut (IntKind.i64.wrap (x9_20 + (1 : Int)))) (x10_20) (x11_20) (x12_20) (x13_20))
                       (
                       r_20 (x0_20) (x1_20) (x2_20) (x3_20) (x4_20) (false) (x6_20) (x7_20) (x8_20) (shut (IntKind.i64.wrap (x9_20 + (1 : Int)))) (x10_20) (x11_20) (x12_20) (x13_20)))
                      (
                      condO (x5_20)
                       (
                       r_20 (x0_20) (x1_20) (x2_20) (x3_20) (x4_20) (shut (decide (shut (IntKind.i64.wrap (v25 - (-1 : Int))) ≤ x2_20))) (x6_20) (x7_20) (x8_20) (shut (IntKind.i64.wrap (x9_20 + (1 : Int)))) (x10_20) (x11_20) (x12_20) (x13_20))
                       (
                       r_20 (x0_20) (x1_20) (x2_20) (x3_20) (x4_20) (false) (x6_20) (x7_20) (x8_20) (shut (IntKind.i64.wrap (x9_20 + (1 : Int)))) (x10_20) (x11_20) (x12_20) (x13_20))))
                     (
                     loopC N (fun r_22 (x0_22 : Nat) (x1_22 : List AV) (x2_22 : Nat) (x3_22 : List AV) (x4_22 : Bool) (x5_22 : Nat) (x6_22 : List AV) (x7_22 : Int) (x8_22 : Int) (x9_22 : Nat) (x10_22 : List AV) (x11_22 : Nat) (x12_22 : List AV) =>
                       condO (shut (decide (x8_22 < x7_22)))
                        (
                        guardO (shut (decide ((0 : Int) ≤ x8_22 ∧ x8_22 < (↑x5_22 : Int) ∧ 0 < x6_22.length))) <|
                        guardO (shut (decide (x8_22.toNat * 5 + 5 ≤ x6_22.length))) <|
                        bindO (asInt IntKind.i64 (x6_22.getD (x8_22.toNat * 5) AV.top)) fun v26 =>
                        bindO (asInt IntKind.i64 (x6_22.getD (x8_22.toNat * 5 + 1) AV.top)) fun v27 =>
                        bindO (asList (x6_22.getD (x8_22.toNat * 5 + 1 + 1) AV.top)) fun v28 =>
                        bindO (asInt IntKind.i64 (x6_22.getD (x8_22.toNat * 5 + 1 + 1 + 1) AV.top)) fun v29 =>
                        bindO (asInt IntKind.i64 (x6_22.getD (x8_22.toNat * 5 + 1 + 1 + 1 + 1) AV.top)) fun v30 =>
                        condO (x4_22)
                         (
                         condO (shut ((↑x2_22 : Int) != (↑x0_22 : Int)))
                          (
                          some [RLeaf.v (AV.bool false)])
                          (
                          guardO (shut (decide ((0 : Int) ≤ x8_22 ∧ x8_22 < (↑x2_22 : Int) ∧ 0 < x3_22.length))) <|
                          bindO (asInt IntKind.i64 (x3_22.getD (x8_22.toNat * 1) AV.top)) fun v34 =>
                          condO (shut (v34 != v27))
                           (
                           some [RLeaf.v (AV.bool false)])
                           (
                           r_22 (x0_22) (x1_22) (x2_22) (x3_22) (x4_22) (x5_22) (x6_22) (x7_22) (shut (IntKind.i64.wrap (x8_22 + (1 : Int)))) (x9_22) (x10_22) (x11_22) (x12_22))))
                         (
                         r_22 (x0_22) (x1_22) (x2_22) (x3_22) (x4_22) (x5_22) (x6_22) (x7_22) (shut (IntKind.i64.wrap (x8_22 + (1 : Int)))) (x9_22) (x10_22) (x11_22) (x12_22)))
                        (
                        some [RLeaf.v (AV.bool true)]))
                       (fun _ _ _ _ _ _ _ _ _ _ _ _ _ => none) (x0_20) (x1_20) (x3_20) (x4_20) (x5_20) (x0_20) (x1_20) ((↑x0_20 : Int)) ((0 : Int)) (x10_20) (x11_20) (x12_20) (x13_20)))
                    (fun _ _ _ _ _ _ _ _ _ _ _ _ _ _ => none) (x0_12) (x1_12) (x5_12) (shut (unwP (shut (stpP x5_14 x4_12 (segsOf x5_14 x6_14)).fst.length) x4_12 (intsOf (shut (intsL (stpP x5_14 x4_12 (segsOf x5_14 x6_14)).fst)))).fst.length) (shut (intsL (unwP (shut (stpP x5_14 x4_12 (segsOf x5_14 x6_14)).fst.length) x4_12 (intsOf (shut (intsL (stpP x5_14 x4_12 (segsOf x5_14 x6_14)).fst)))).fst)) (true) (x0_12) (x1_12) ((↑x0_12 : Int)) ((0 : Int)) (x3_14) (x4_14) (x5_14) (x6_14)))))
               (fun _ _ _ _ _ _ _ => none) (x0_12) (x1_12) ((0 : Int)) (0) ([]) (0) ([])))
            (fun _ _ _ _ _ _ _ _ _ _ _ _ => none) (x0_8) (x1_8) (x2_8) (x3_8) (x4_8) (x5_8) (x6_8) (x7_8) (x6_8) (x7_8) ((↑x6_8 : Int)) ((0 : Int))))))
       (fun _ _ _ _ _ _ _ _ _ _ _ _ _ => none) (n) (cs) (m) (ds) (b) (shut (IntKind.i64.wrap ((1 : Int) * (2 : Int) ^ Min.min b.toNat 64))) (shut (unwP m b (intsOf ds)).fst.length) (shut (intsL (unwP m b (intsOf ds)).fst)) (shut (unwP m b (intsOf ds)).snd) (m) (ds) ((↑m : Int)) ((0 : Int))))))) := by kernel_rfl


end Go.Abs
end

