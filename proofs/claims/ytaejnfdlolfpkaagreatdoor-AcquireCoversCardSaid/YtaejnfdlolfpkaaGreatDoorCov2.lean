/- Part 12 of the library that the proof of the statement uses: an abstract run of the program, proved right, and what its functions give. -/
import Derived.Test.YtaejnfdlolfpkaaGreatDoorCov1
set_option linter.unusedVariables false
set_option linter.unusedSimpArgs false

section
/- Functions of the Acquire seat, lifted (printed by the tool gen.py). -/
set_option maxRecDepth 100000
set_option linter.unusedVariables false
namespace Go.Abs
open Go.Proofs Classical

theorem run_6 (N : Nat) (n : Nat) (cs : List AV) (m : Nat) (ds : List AV) (b : Int) : (fsZ tz6 N 8).call (List RLeaf) 6 [.ofB (.list n cs), .ofB (.list m ds), .ofB (.int .i64 b)] [] (resK [false]) = (
 guardO (shut (decide (Segs n cs))) <|
 condO (!shut (shortS n (20 : Int) (segsOf n cs)))
  (
  some [RLeaf.v (AV.bool true)])
  (
  condO (shut (decide ((↑m : Int) > (20 : Int))))
   (
   condO (shut (decide ((↑m : Int) ≤ (256 : Int))))
    (
    some [RLeaf.v (AV.bool true)])
    (
    condO (shut (decide ((↑m : Int) > (258 : Int))))
     (
     some [RLeaf.v (AV.bool true)])
     (
     loopC N (fun r_5 (x0_5 : Nat) (x1_5 : List AV) (x2_5 : Int) (x3_5 : Nat) (x4_5 : List AV) (x5_5 : Nat) (x6_5 : List AV) =>
       condO (shut (decide (x2_5 < (↑x0_5 : Int))))
        (
        guardO (shut (decide ((0 : Int) ≤ x2_5 ∧ x2_5 < (↑x0_5 : Int) ∧ 0 < x1_5.length))) <|
        guardO (shut (decide (x2_5.toNat * 5 + 5 ≤ x1_5.length))) <|
        bindO (asInt IntKind.i64 (x1_5.getD (x2_5.toNat * 5) AV.top)) fun v9 =>
        bindO (asInt IntKind.i64 (x1_5.getD (x2_5.toNat * 5 + 1) AV.top)) fun v10 =>
        bindO (asList (x1_5.getD (x2_5.toNat * 5 + 1 + 1) AV.top)) fun v11 =>
        bindO (asInt IntKind.i64 (x1_5.getD (x2_5.toNat * 5 + 1 + 1 + 1) AV.top)) fun v12 =>
        bindO (asInt IntKind.i64 (x1_5.getD (x2_5.toNat * 5 + 1 + 1 + 1 + 1) AV.top)) fun v13 =>
        guardO (shut (decide ((x5_5 + 1) * 57 ≤ 549755813888))) <|
        r_5 (x0_5) (x1_5) (shut (IntKind.i64.wrap (x2_5 + (1 : Int)))) (x3_5) (x4_5) (x5_5 + 1) (x6_5 ++ putCells (zrow (ofV (Go.Value.agg #[Go.Value.int IntKind.i64 (0 : Int), Go.Value.int IntKind.i64 (0 : Int), Go.Value.slice Option.none 0 0, Go.Value.int IntKind.i64 (0 : Int), Go.Value.int IntKind.i64 (0 : Int)])).cells 5) 0 [AV.int IntKind.i64 v9, AV.int IntKind.i64 v10, AV.list v11.fst v11.snd, AV.int IntKind.i64 v12, AV.int IntKind.i64 v13]))
        (
        guardO (shut (decide (Segs x5_5 x6_5))) <|
        guardO (shut (decide (Ints m ds))) <|
        guardO (shut (decide (Segs n cs))) <|
        guardO (shut (decide (Ints 2 (putCells (putCells (zrow (ofV (Go.Value.int IntKind.i64 (0 : Int))).cells 2) 0 [AV.int IntKind.i64 (shut (chkS n (segsOf n cs)))]) 1 [AV.int IntKind.i64 (shut (if b < (1 : Int) ∨ b > (30 : Int) then (3 : Int) else (0 : Int)))])))) <|
        condO (shut (shut (if b < (1 : Int) ∨ b > (30 : Int) then (3 : Int) else (0 : Int)) == (0 : Int)))
         (
         guardO (shut (decide (Ints m ds ∧ (1 : Int) ≤ b ∧ b ≤ (30 : Int)))) <|
         condO (shut (shut (firstNZ (intsOf (putCells (putCells (zrow (ofV (Go.Value.int IntKind.i64 (0 : Int))).cells 2) 0 [AV.int IntKind.i64 (shut (chkS n (segsOf n cs)))]) 1 [AV.int IntKind.i64 (shut (if b < (1 : Int) ∨ b > (30 : Int) then (3 : Int) else (0 : Int)))]))) != (0 : Int)))
          (
          condO (shut ((↑(shut (stpP x5_5 b (segsOf x5_5 x6_5)).fst.length) : Int) != (0 : Int)))
           (
           some [RLeaf.v (AV.bool false)])
           (
           condO (shut (shut (stpP x5_5 b (segsOf x5_5 x6_5)).snd != shut (firstNZ (intsOf (putCells (putCells (zrow (ofV (Go.Value.int IntKind.i64 (0 : Int))).cells 2) 0 [AV.int IntKind.i64 (shut (chkS n (segsOf n cs)))]) 1 [AV.int IntKind.i64 (shut (if b < (1 : Int) ∨ b > (30 : Int) then (3 : Int) else (0 : Int)))])))))
            (
            some [RLeaf.v (AV.bool false)])
            (
            condO (shut (shut (firstNZ (intsOf (putCells (putCells (zrow (ofV (Go.Value.int IntKind.i64 (0 : Int))).cells 2) 0 [AV.int IntKind.i64 (shut (chkS n (segsOf n cs)))]) 1 [AV.int IntKind.i64 (shut (if b < (1 : Int) ∨ b > (30 : Int) then (3 : Int) else (0 : Int)))]))) == (0 : Int)))
             (
             condO (shut (shut (stpP x5_5 b (segsOf x5_5 x6_5)).snd != (0 : Int)))
              (
              some [RLeaf.v (AV.bool false)])
              (
              guardO (shut (decide (Segs n cs ∧ (1 : Int) ≤ b ∧ b ≤ (30 : Int) ∧ n ≤ 4096))) <|
              guardO (shut (decide (Ints (shut (stpP x5_5 b (segsOf x5_5 x6_5)).fst.length) (shut (intsL (stpP x5_5 b (segsOf x5_5 x6_5)).fst)) ∧ Ints (shut (stampsL ((2 : Int) ^ b.toNat) (segsOf n cs)).length) (shut (intsL (stampsL ((2 : Int) ^ b.toNat) (segsOf n cs))))))) <|
              condO (!shut (decide (intsOf (shut (intsL (stpP x5_5 b (segsOf x5_5 x6_5)).fst)) = intsOf (shut (intsL (stampsL ((2 : Int) ^ b.toNat) (segsOf n cs)))))))
               (
               some [RLeaf.v (AV.bool false)])
               (
               guardO (shut (decide (Ints (shut (unwP m b (intsOf ds)).fst.length) (shut (intsL (unwP m b (intsOf ds)).fst)) ∧ Ints (shut (unwS m ((2 : Int) ^ b.toNat) (intsOf ds)).fst.length) (shut (intsL (unwS m ((2 : Int) ^ b.toNat) (intsOf ds)).fst))))) <|
               condO (shut (decide (intsOf (shut (intsL (unwP m b (intsOf ds)).fst)) = intsOf (shut (intsL (unwS m ((2 : Int) ^ b.toNat) (intsOf ds)).fst)))))
                (
                some [RLeaf.v (AV.bool (shut (shut (unwP m b (intsOf ds)).snd == shut (unwS m ((2 : Int) ^ b.toNat) (intsOf ds)).snd)))])
                (
                some [RLeaf.v (AV.bool false)]))))
             (
             guardO (shut (decide (Ints (shut (unwP m b (intsOf ds)).fst.length) (shut (intsL (unwP m b (intsOf ds)).fst)) ∧ Ints (shut (unwS m ((2 : Int) ^ b.toNat) (intsOf ds)).fst.length) (shut (intsL (unwS m ((2 : Int) ^ b.toNat) (intsOf ds)).fst))))) <|
             condO (shut (decide (intsOf (shut (intsL (unwP m b (intsOf ds)).fst)) = intsOf (shut (intsL (unwS m ((2 : Int) ^ b.toNat) (intsOf ds)).fst)))))
              (
              some [RLeaf.v (AV.bool (shut (shut (unwP m b (intsOf ds)).snd == shut (unwS m ((2 : Int) ^ b.toNat) (intsOf ds)).snd)))])
              (
              some [RLeaf.v (AV.bool false)])))))
          (
          condO (shut (shut (firstNZ (intsOf (putCells (putCells (zrow (ofV (Go.Value.int IntKind.i64 (0 : Int))).cells 2) 0 [AV.int IntKind.i64 (shut (chkS n (segsOf n cs)))]) 1 [AV.int IntKind.i64 (shut (if b < (1 : Int) ∨ b > (30 : Int) then (3 : Int) else (0 : Int)))]))) == (0 : Int)))
           (
           condO (shut (shut (stpP x5_5 b (segsOf x5_5 x6_5)).snd != (0 : Int)))
            (
            some [RLeaf.v (AV.bool false)])
            (
            guardO (shut (decide (Segs n cs ∧ (1 : Int) ≤ b ∧ b ≤ (30 : Int) ∧ n ≤ 4096))) <|
            guardO (shut (decide (Ints (shut (stpP x5_5 b (segsOf x5_5 x6_5)).fst.length) (shut (intsL (stpP x5_5 b (segsOf x5_5 x6_5)).fst)) ∧ Ints (shut (stampsL ((2 : Int) ^ b.toNat) (segsOf n cs)).length) (shut (intsL (stampsL ((2 : Int) ^ b.toNat) (segsOf n cs))))))) <|
            condO (!shut (decide (intsOf (shut (intsL (stpP x5_5 b (segsOf x5_5 x6_5)).fst)) = intsOf (shut (intsL (stampsL ((2 : Int) ^ b.toNat) (segsOf n cs)))))))
             (
             some [RLeaf.v (AV.bool false)])
             (
             guardO (shut (decide (Ints (shut (unwP m b (intsOf ds)).fst.length) (shut (intsL (unwP m b (intsOf ds)).fst)) ∧ Ints (shut (unwS m ((2 : Int) ^ b.toNat) (intsOf ds)).fst.length) (shut (intsL (unwS m ((2 : Int) ^ b.toNat) (intsOf ds)).fst))))) <|
             condO (shut (decide (intsOf (shut (intsL (unwP m b (intsOf ds)).fst)) = intsOf (shut (intsL (unwS m ((2 : Int) ^ b.toNat) (intsOf ds)).fst)))))
              (
              some [RLeaf.v (AV.bool (shut (shut (unwP m b (intsOf ds)).snd == shut (unwS m ((2 : Int) ^ b.toNat) (intsOf ds)).snd)))])
              (
              some [RLeaf.v (AV.bool false)]))))
           (
           guardO (shut (decide (Ints (shut (unwP m b (intsOf ds)).fst.length) (shut (intsL (unwP m b (intsOf ds)).fst)) ∧ Ints (shut (unwS m ((2 : Int) ^ b.toNat) (intsOf ds)).fst.length) (shut (intsL (unwS m ((2 : Int) ^ b.toNat) (intsOf ds)).fst))))) <|
           condO (shut (decide (intsOf (shut (intsL (unwP m b (intsOf ds)).fst)) = intsOf (shut (intsL (unwS m ((2 : Int) ^ b.toNat) (intsOf ds)).fst)))))
            (
            some [RLeaf.v (AV.bool (shut (shut (unwP m b (intsOf ds)).snd == shut (unwS m ((2 : Int) ^ b.toNat) (intsOf ds)).snd)))])
            (
            some [RLeaf.v (AV.bool false)]))))
         (
         condO (shut (shut (firstNZ (intsOf (putCells (putCells (zrow (ofV (Go.Value.int IntKind.i64 (0 : Int))).cells 2) 0 [AV.int IntKind.i64 (shut (chkS n (segsOf n cs)))]) 1 [AV.int IntKind.i64 (shut (if b < (1 : Int) ∨ b > (30 : Int) then (3 : Int) else (0 : Int)))]))) != (0 : Int)))
          (
          condO (shut ((↑(shut (stpP x5_5 b (segsOf x5_5 x6_5)).fst.length) : Int) != (0 : Int)))
           (
           some [RLeaf.v (AV.bool false)])
           (
           condO (shut (shut (stpP x5_5 b (segsOf x5_5 x6_5)).snd != shut (firstNZ (intsOf (putCells (putCells (zrow (ofV (Go.Value.int IntKind.i64 (0 : Int))).cells 2) 0 [AV.int IntKind.i64 (shut (chkS n (segsOf n cs)))]) 1 [AV.int IntKind.i64 (shut (if b < (1 : Int) ∨ b > (30 : Int) then (3 : Int) else (0 : Int)))])))))
            (
            some [RLeaf.v (AV.bool false)])
            (
            condO (shut (shut (firstNZ (intsOf (putCells (putCells (zrow (ofV (Go.Value.int IntKind.i64 (0 : Int))).cells 2) 0 [AV.int IntKind.i64 (shut (chkS n (segsOf n cs)))]) 1 [AV.int IntKind.i64 (shut (if b < (1 : Int) ∨ b > (30 : Int) then (3 : Int) else (0 : Int)))]))) == (0 : Int)))
             (
             condO (shut (shut (stpP x5_5 b (segsOf x5_5 x6_5)).snd != (0 : Int)))
              (
              some [RLeaf.v (AV.bool false)])
              (
              guardO (shut (decide (Segs n cs ∧ (1 : Int) ≤ b ∧ b ≤ (30 : Int) ∧ n ≤ 4096))) <|
              guardO (shut (decide (Ints (shut (stpP x5_5 b (segsOf x5_5 x6_5)).fst.length) (shut (intsL (stpP x5_5 b (segsOf x5_5 x6_5)).fst)) ∧ Ints (shut (stampsL ((2 : Int) ^ b.toNat) (segsOf n cs)).length) (shut (intsL (stampsL ((2 : Int) ^ b.toNat) (segsOf n cs))))))) <|
              condO (!shut (decide (intsOf (shut (intsL (stpP x5_5 b (segsOf x5_5 x6_5)).fst)) = intsOf (shut (intsL (stampsL ((2 : Int) ^ b.toNat) (segsOf n cs)))))))
               (
               some [RLeaf.v (AV.bool false)])
               (
               guardO (shut (decide (Ints (shut (unwP m b (intsOf ds)).fst.length) (shut (intsL (unwP m b (intsOf ds)).fst)) ∧ Ints 0 []))) <|
               condO (shut (decide (intsOf (shut (intsL (unwP m b (intsOf ds)).fst)) = intsOf [])))
                (
                some [RLeaf.v (AV.bool (shut (shut (unwP m b (intsOf ds)).snd == shut (if b < (1 : Int) ∨ b > (30 : Int) then (3 : Int) else (0 : Int)))))])
                (
                some [RLeaf.v (AV.bool false)]))))
             (
             guardO (shut (decide (Ints (shut (unwP m b (intsOf ds)).fst.length) (shut (intsL (unwP m b (intsOf ds)).fst)) ∧ Ints 0 []))) <|
             condO (shut (decide (intsOf (shut (intsL (unwP m b (intsOf ds)).fst)) = intsOf [])))
              (
              some [RLeaf.v (AV.bool (shut (shut (unwP m b (intsOf ds)).snd == shut (if b < (1 : Int) ∨ b > (30 : Int) then (3 : Int) else (0 : Int)))))])
              (
              some [RLeaf.v (AV.bool false)])))))
          (
          condO (shut (shut (firstNZ (intsOf (putCells (putCells (zrow (ofV (Go.Value.int IntKind.i64 (0 : Int))).cells 2) 0 [AV.int IntKind.i64 (shut (chkS n (segsOf n cs)))]) 1 [AV.int IntKind.i64 (shut (if b < (1 : Int) ∨ b > (30 : Int) then (3 : Int) else (0 : Int)))]))) == (0 : Int)))
           (
           condO (shut (shut (stpP x5_5 b (segsOf x5_5 x6_5)).snd != (0 : Int)))
            (
            some [RLeaf.v (AV.bool false)])
            (
            guardO (shut (decide (Segs n cs ∧ (1 : Int) ≤ b ∧ b ≤ (30 : Int) ∧ n ≤ 4096))) <|
            guardO (shut (decide (Ints (shut (stpP x5_5 b (segsOf x5_5 x6_5)).fst.length) (shut (intsL (stpP x5_5 b (segsOf x5_5 x6_5)).fst)) ∧ Ints (shut (stampsL ((2 : Int) ^ b.toNat) (segsOf n cs)).length) (shut (intsL (stampsL ((2 : Int) ^ b.toNat) (segsOf n cs))))))) <|
            condO (!shut (decide (intsOf (shut (intsL (stpP x5_5 b (segsOf x5_5 x6_5)).fst)) = intsOf (shut (intsL (stampsL ((2 : Int) ^ b.toNat) (segsOf n cs)))))))
             (
             some [RLeaf.v (AV.bool false)])
             (
             guardO (shut (decide (Ints (shut (unwP m b (intsOf ds)).fst.length) (shut (intsL (unwP m b (intsOf ds)).fst)) ∧ Ints 0 []))) <|
             condO (shut (decide (intsOf (shut (intsL (unwP m b (intsOf ds)).fst)) = intsOf [])))
              (
              some [RLeaf.v (AV.bool (shut (shut (unwP m b (intsOf ds)).snd == shut (if b < (1 : Int) ∨ b > (30 : Int) then (3 : Int) else (0 : Int)))))])
              (
              some [RLeaf.v (AV.bool false)]))))
           (
           guardO (shut (decide (Ints (shut (unwP m b (intsOf ds)).fst.length) (shut (intsL (unwP m b (intsOf ds)).fst)) ∧ Ints 0 []))) <|
           condO (shut (decide (intsOf (shut (intsL (unwP m b (intsOf ds)).fst)) = intsOf [])))
            (
            some [RLeaf.v (AV.bool (shut (shut (unwP m b (intsOf ds)).snd == shut (if b < (1 : Int) ∨ b > (30 : Int) then (3 : Int) else (0 : Int)))))])
            (
            some [RLeaf.v (AV.bool false)]))))))
       (fun _ _ _ _ _ _ _ => none) (n) (cs) ((0 : Int)) (0) ([]) (0) ([]))))
   (
   condO (shut (decide ((↑m : Int) > (258 : Int))))
    (
    some [RLeaf.v (AV.bool true)])
    (
    loopC N (fun r_4 (x0_4 : Nat) (x1_4 : List AV) (x2_4 : Int) (x3_4 : Nat) (x4_4 : List AV) (x5_4 : Nat) (x6_4 : List AV) =>
      condO (shut (decide (x2_4 < (↑x0_4 : Int))))
       (
       guardO (shut (decide ((0 : Int) ≤ x2_4 ∧ x2_4 < (↑x0_4 : Int) ∧ 0 < x1_4.length))) <|
       guardO (shut (decide (x2_4.toNat * 5 + 5 ≤ x1_4.length))) <|
       bindO (asInt IntKind.i64 (x1_4.getD (x2_4.toNat * 5) AV.top)) fun v8 =>
       bindO (asInt IntKind.i64 (x1_4.getD (x2_4.toNat * 5 + 1) AV.top)) fun v9 =>
       bindO (asList (x1_4.getD (x2_4.toNat * 5 + 1 + 1) AV.top)) fun v10 =>
       bindO (asInt IntKind.i64 (x1_4.getD (x2_4.toNat * 5 + 1 + 1 + 1) AV.top)) fun v11 =>
       bindO (asInt IntKind.i64 (x1_4.getD (x2_4.toNat * 5 + 1 + 1 + 1 + 1) AV.top)) fun v12 =>
       guardO (shut (decide ((x5_4 + 1) * 57 ≤ 549755813888))) <|
       r_4 (x0_4) (x1_4) (shut (IntKind.i64.wrap (x2_4 + (1 : Int)))) (x3_4) (x4_4) (x5_4 + 1) (x6_4 ++ putCells (zrow (ofV (Go.Value.agg #[Go.Value.int IntKind.i64 (0 : Int), Go.Value.int IntKind.i64 (0 : Int), Go.Value.slice Option.none 0 0, Go.Value.int IntKind.i64 (0 : Int), Go.Value.int IntKind.i64 (0 : Int)])).cells 5) 0 [AV.int IntKind.i64 v8, AV.int IntKind.i64 v9, AV.list v10.fst v10.snd, AV.int IntKind.i64 v11, AV.int IntKind.i64 v12]))
       (
       guardO (shut (decide (Segs x5_4 x6_4))) <|
       guardO (shut (decide (Ints m ds))) <|
       guardO (shut (decide (Segs n cs))) <|
       guardO (shut (decide (Ints 2 (putCells (putCells (zrow (ofV (Go.Value.int IntKind.i64 (0 : Int))).cells 2) 0 [AV.int IntKind.i64 (shut (chkS n (segsOf n cs)))]) 1 [AV.int IntKind.i64 (shut (if b < (1 : Int) ∨ b > (30 : Int) then (3 : Int) else (0 : Int)))])))) <|
       condO (shut (shut (if b < (1 : Int) ∨ b > (30 : Int) then (3 : Int) else (0 : Int)) == (0 : Int)))
        (
        guardO (shut (decide (Ints m ds ∧ (1 : Int) ≤ b ∧ b ≤ (30 : Int)))) <|
        condO (shut (shut (firstNZ (intsOf (putCells (putCells (zrow (ofV (Go.Value.int IntKind.i64 (0 : Int))).cells 2) 0 [AV.int IntKind.i64 (shut (chkS n (segsOf n cs)))]) 1 [AV.int IntKind.i64 (shut (if b < (1 : Int) ∨ b > (30 : Int) then (3 : Int) else (0 : Int)))]))) != (0 : Int)))
         (
         condO (shut ((↑(shut (stpP x5_4 b (segsOf x5_4 x6_4)).fst.length) : Int) != (0 : Int)))
          (
          some [RLeaf.v (AV.bool false)])
          (
          condO (shut (shut (stpP x5_4 b (segsOf x5_4 x6_4)).snd != shut (firstNZ (intsOf (putCells (putCells (zrow (ofV (Go.Value.int IntKind.i64 (0 : Int))).cells 2) 0 [AV.int IntKind.i64 (shut (chkS n (segsOf n cs)))]) 1 [AV.int IntKind.i64 (shut (if b < (1 : Int) ∨ b > (30 : Int) then (3 : Int) else (0 : Int)))])))))
           (
           some [RLeaf.v (AV.bool false)])
           (
           condO (shut (shut (firstNZ (intsOf (putCells (putCells (zrow (ofV (Go.Value.int IntKind.i64 (0 : Int))).cells 2) 0 [AV.int IntKind.i64 (shut (chkS n (segsOf n cs)))]) 1 [AV.int IntKind.i64 (shut (if b < (1 : Int) ∨ b > (30 : Int) then (3 : Int) else (0 : Int)))]))) == (0 : Int)))
            (
            condO (shut (shut (stpP x5_4 b (segsOf x5_4 x6_4)).snd != (0 : Int)))
             (
             some [RLeaf.v (AV.bool false)])
             (
             guardO (shut (decide (Segs n cs ∧ (1 : Int) ≤ b ∧ b ≤ (30 : Int) ∧ n ≤ 4096))) <|
             guardO (shut (decide (Ints (shut (stpP x5_4 b (segsOf x5_4 x6_4)).fst.length) (shut (intsL (stpP x5_4 b (segsOf x5_4 x6_4)).fst)) ∧ Ints (shut (stampsL ((2 : Int) ^ b.toNat) (segsOf n cs)).length) (shut (intsL (stampsL ((2 : Int) ^ b.toNat) (segsOf n cs))))))) <|
             condO (!shut (decide (intsOf (shut (intsL (stpP x5_4 b (segsOf x5_4 x6_4)).fst)) = intsOf (shut (intsL (stampsL ((2 : Int) ^ b.toNat) (segsOf n cs)))))))
              (
              some [RLeaf.v (AV.bool false)])
              (
              guardO (shut (decide (Ints (shut (unwP m b (intsOf ds)).fst.length) (shut (intsL (unwP m b (intsOf ds)).fst)) ∧ Ints (shut (unwS m ((2 : Int) ^ b.toNat) (intsOf ds)).fst.length) (shut (intsL (unwS m ((2 : Int) ^ b.toNat) (intsOf ds)).fst))))) <|
              condO (shut (decide (intsOf (shut (intsL (unwP m b (intsOf ds)).fst)) = intsOf (shut (intsL (unwS m ((2 : Int) ^ b.toNat) (intsOf ds)).fst)))))
               (
               some [RLeaf.v (AV.bool (shut (shut (unwP m b (intsOf ds)).snd == shut (unwS m ((2 : Int) ^ b.toNat) (intsOf ds)).snd)))])
               (
               some [RLeaf.v (AV.bool false)]))))
            (
            guardO (shut (decide (Ints (shut (unwP m b (intsOf ds)).fst.length) (shut (intsL (unwP m b (intsOf ds)).fst)) ∧ Ints (shut (unwS m ((2 : Int) ^ b.toNat) (intsOf ds)).fst.length) (shut (intsL (unwS m ((2 : Int) ^ b.toNat) (intsOf ds)).fst))))) <|
            condO (shut (decide (intsOf (shut (intsL (unwP m b (intsOf ds)).fst)) = intsOf (shut (intsL (unwS m ((2 : Int) ^ b.toNat) (intsOf ds)).fst)))))
             (
             some [RLeaf.v (AV.bool (shut (shut (unwP m b (intsOf ds)).snd == shut (unwS m ((2 : Int) ^ b.toNat) (intsOf ds)).snd)))])
             (
             some [RLeaf.v (AV.bool false)])))))
         (
         condO (shut (shut (firstNZ (intsOf (putCells (putCells (zrow (ofV (Go.Value.int IntKind.i64 (0 : Int))).cells 2) 0 [AV.int IntKind.i64 (shut (chkS n (segsOf n cs)))]) 1 [AV.int IntKind.i64 (shut (if b < (1 : Int) ∨ b > (30 : Int) then (3 : Int) else (0 : Int)))]))) == (0 : Int)))
          (
          condO (shut (shut (stpP x5_4 b (segsOf x5_4 x6_4)).snd != (0 : Int)))
           (
           some [RLeaf.v (AV.bool false)])
           (
           guardO (shut (decide (Segs n cs ∧ (1 : Int) ≤ b ∧ b ≤ (30 : Int) ∧ n ≤ 4096))) <|
           guardO (shut (decide (Ints (shut (stpP x5_4 b (segsOf x5_4 x6_4)).fst.length) (shut (intsL (stpP x5_4 b (segsOf x5_4 x6_4)).fst)) ∧ Ints (shut (stampsL ((2 : Int) ^ b.toNat) (segsOf n cs)).length) (shut (intsL (stampsL ((2 : Int) ^ b.toNat) (segsOf n cs))))))) <|
           condO (!shut (decide (intsOf (shut (intsL (stpP x5_4 b (segsOf x5_4 x6_4)).fst)) = intsOf (shut (intsL (stampsL ((2 : Int) ^ b.toNat) (segsOf n cs)))))))
            (
            some [RLeaf.v (AV.bool false)])
            (
            guardO (shut (decide (Ints (shut (unwP m b (intsOf ds)).fst.length) (shut (intsL (unwP m b (intsOf ds)).fst)) ∧ Ints (shut (unwS m ((2 : Int) ^ b.toNat) (intsOf ds)).fst.length) (shut (intsL (unwS m ((2 : Int) ^ b.toNat) (intsOf ds)).fst))))) <|
            condO (shut (decide (intsOf (shut (intsL (unwP m b (intsOf ds)).fst)) = intsOf (shut (intsL (unwS m ((2 : Int) ^ b.toNat) (intsOf ds)).fst)))))
             (
             some [RLeaf.v (AV.bool (shut (shut (unwP m b (intsOf ds)).snd == shut (unwS m ((2 : Int) ^ b.toNat) (intsOf ds)).snd)))])
             (
             some [RLeaf.v (AV.bool false)]))))
          (
          guardO (shut (decide (Ints (shut (unwP m b (intsOf ds)).fst.length) (shut (intsL (unwP m b (intsOf ds)).fst)) ∧ Ints (shut (unwS m ((2 : Int) ^ b.toNat) (intsOf ds)).fst.length) (shut (intsL (unwS m ((2 : Int) ^ b.toNat) (intsOf ds)).fst))))) <|
          condO (shut (decide (intsOf (shut (intsL (unwP m b (intsOf ds)).fst)) = intsOf (shut (intsL (unwS m ((2 : Int) ^ b.toNat) (intsOf ds)).fst)))))
           (
           some [RLeaf.v (AV.bool (shut (shut (unwP m b (intsOf ds)).snd == shut (unwS m ((2 : Int) ^ b.toNat) (intsOf ds)).snd)))])
           (
           some [RLeaf.v (AV.bool false)]))))
        (
        condO (shut (shut (firstNZ (intsOf (putCells (putCells (zrow (ofV (Go.Value.int IntKind.i64 (0 : Int))).cells 2) 0 [AV.int IntKind.i64 (shut (chkS n (segsOf n cs)))]) 1 [AV.int IntKind.i64 (shut (if b < (1 : Int) ∨ b > (30 : Int) then (3 : Int) else (0 : Int)))]))) != (0 : Int)))
         (
         condO (shut ((↑(shut (stpP x5_4 b (segsOf x5_4 x6_4)).fst.length) : Int) != (0 : Int)))
          (
          some [RLeaf.v (AV.bool false)])
          (
          condO (shut (shut (stpP x5_4 b (segsOf x5_4 x6_4)).snd != shut (firstNZ (intsOf (putCells (putCells (zrow (ofV (Go.Value.int IntKind.i64 (0 : Int))).cells 2) 0 [AV.int IntKind.i64 (shut (chkS n (segsOf n cs)))]) 1 [AV.int IntKind.i64 (shut (if b < (1 : Int) ∨ b > (30 : Int) then (3 : Int) else (0 : Int)))])))))
           (
           some [RLeaf.v (AV.bool false)])
           (
           condO (shut (shut (firstNZ (intsOf (putCells (putCells (zrow (ofV (Go.Value.int IntKind.i64 (0 : Int))).cells 2) 0 [AV.int IntKind.i64 (shut (chkS n (segsOf n cs)))]) 1 [AV.int IntKind.i64 (shut (if b < (1 : Int) ∨ b > (30 : Int) then (3 : Int) else (0 : Int)))]))) == (0 : Int)))
            (
            condO (shut (shut (stpP x5_4 b (segsOf x5_4 x6_4)).snd != (0 : Int)))
             (
             some [RLeaf.v (AV.bool false)])
             (
             guardO (shut (decide (Segs n cs ∧ (1 : Int) ≤ b ∧ b ≤ (30 : Int) ∧ n ≤ 4096))) <|
             guardO (shut (decide (Ints (shut (stpP x5_4 b (segsOf x5_4 x6_4)).fst.length) (shut (intsL (stpP x5_4 b (segsOf x5_4 x6_4)).fst)) ∧ Ints (shut (stampsL ((2 : Int) ^ b.toNat) (segsOf n cs)).length) (shut (intsL (stampsL ((2 : Int) ^ b.toNat) (segsOf n cs))))))) <|
             condO (!shut (decide (intsOf (shut (intsL (stpP x5_4 b (segsOf x5_4 x6_4)).fst)) = intsOf (shut (intsL (stampsL ((2 : Int) ^ b.toNat) (segsOf n cs)))))))
              (
              some [RLeaf.v (AV.bool false)])
              (
              guardO (shut (decide (Ints (shut (unwP m b (intsOf ds)).fst.length) (shut (intsL (unwP m b (intsOf ds)).fst)) ∧ Ints 0 []))) <|
              condO (shut (decide (intsOf (shut (intsL (unwP m b (intsOf ds)).fst)) = intsOf [])))
               (
               some [RLeaf.v (AV.bool (shut (shut (unwP m b (intsOf ds)).snd == shut (if b < (1 : Int) ∨ b > (30 : Int) then (3 : Int) else (0 : Int)))))])
               (
               some [RLeaf.v (AV.bool false)]))))
            (
            guardO (shut (decide (Ints (shut (unwP m b (intsOf ds)).fst.length) (shut (intsL (unwP m b (intsOf ds)).fst)) ∧ Ints 0 []))) <|
            condO (shut (decide (intsOf (shut (intsL (unwP m b (intsOf ds)).fst)) = intsOf [])))
             (
             some [RLeaf.v (AV.bool (shut (shut (unwP m b (intsOf ds)).snd == shut (if b < (1 : Int) ∨ b > (30 : Int) then (3 : Int) else (0 : Int)))))])
             (
             some [RLeaf.v (AV.bool false)])))))
         (
         condO (shut (shut (firstNZ (intsOf (putCells (putCells (zrow (ofV (Go.Value.int IntKind.i64 (0 : Int))).cells 2) 0 [AV.int IntKind.i64 (shut (chkS n (segsOf n cs)))]) 1 [AV.int IntKind.i64 (shut (if b < (1 : Int) ∨ b > (30 : Int) then (3 : Int) else (0 : Int)))]))) == (0 : Int)))
          (
          condO (shut (shut (stpP x5_4 b (segsOf x5_4 x6_4)).snd != (0 : Int)))
           (
           some [RLeaf.v (AV.bool false)])
           (
           guardO (shut (decide (Segs n cs ∧ (1 : Int) ≤ b ∧ b ≤ (30 : Int) ∧ n ≤ 4096))) <|
           guardO (shut (decide (Ints (shut (stpP x5_4 b (segsOf x5_4 x6_4)).fst.length) (shut (intsL (stpP x5_4 b (segsOf x5_4 x6_4)).fst)) ∧ Ints (shut (stampsL ((2 : Int) ^ b.toNat) (segsOf n cs)).length) (shut (intsL (stampsL ((2 : Int) ^ b.toNat) (segsOf n cs))))))) <|
           condO (!shut (decide (intsOf (shut (intsL (stpP x5_4 b (segsOf x5_4 x6_4)).fst)) = intsOf (shut (intsL (stampsL ((2 : Int) ^ b.toNat) (segsOf n cs)))))))
            (
            some [RLeaf.v (AV.bool false)])
            (
            guardO (shut (decide (Ints (shut (unwP m b (intsOf ds)).fst.length) (shut (intsL (unwP m b (intsOf ds)).fst)) ∧ Ints 0 []))) <|
            condO (shut (decide (intsOf (shut (intsL (unwP m b (intsOf ds)).fst)) = intsOf [])))
             (
             some [RLeaf.v (AV.bool (shut (shut (unwP m b (intsOf ds)).snd == shut (if b < (1 : Int) ∨ b > (30 : Int) then (3 : Int) else (0 : Int)))))])
             (
             some [RLeaf.v (AV.bool false)]))))
          (
          guardO (shut (decide (Ints (shut (unwP m b (intsOf ds)).fst.length) (shut (intsL (unwP m b (intsOf ds)).fst)) ∧ Ints 0 []))) <|
          condO (shut (decide (intsOf (shut (intsL (unwP m b (intsOf ds)).fst)) = intsOf [])))
           (
           some [RLeaf.v (AV.bool (shut (shut (unwP m b (intsOf ds)).snd == shut (if b < (1 : Int) ∨ b > (30 : Int) then (3 : Int) else (0 : Int)))))])
           (
           some [RLeaf.v (AV.bool false)]))))))
      (fun _ _ _ _ _ _ _ => none) (n) (cs) ((0 : Int)) (0) ([]) (0) ([]))))) := by kernel_rfl


end Go.Abs
end

