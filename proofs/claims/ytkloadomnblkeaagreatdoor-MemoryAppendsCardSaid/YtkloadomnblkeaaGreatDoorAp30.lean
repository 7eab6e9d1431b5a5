/- Part 30 of the library of the proof: an abstract run of the program. -/
import Derived.Test.YtkloadomnblkeaaGreatDoorAp22
import Derived.Test.YtkloadomnblkeaaGreatDoorAp29
set_option linter.unusedVariables false
set_option linter.unusedSimpArgs false

set_option maxRecDepth 100000
noncomputable section
namespace Go.Abs
open Go.Proofs Classical
theorem run_29 (N n:Nat) (cs:List AV) (b:Int) (m:Nat) (ls:List AV):(fsM mzM waysQ N 12).call (List RLeaf) 29 [.ofB (.list n cs),.s (.agg [.b (.int .i64 b),.b (.list m ls)])] [] (resK [false])=(
 gO (S_ (decide (Flos n cs)))<|
 cO (S_ (S_ (sampErr n (fO cs))==(0:Int)))
 (
 cO (S_ (S_ (if b<(1:Int)\/b>(256:Int) then (3:Int) else (0:Int)) != (0:Int)))
 (
 some ([RLeaf.v (AV.int .i64 (S_ (if b<(1:Int)\/b>(256:Int) then (3:Int) else (0:Int))))]))
 (
 gO (S_ (decide (Flos n cs/\n<=5000/\(1:Int)<=b/\b<=(10000:Int))))<|
 cO (S_ ((↑(S_ (refLv (fO cs) b.toNat).length):Int) != (↑m:Int)))
 (
 some ([RLeaf.v (AV.int .i64 (2:Int))]))
 (
 loopC N (fun r_5 (a0 a1:Int) (a2:Nat) (a3:List AV) (a4:Nat) (a5:List AV) (a6:Int) (a7:Nat) (a8:List AV)=>
 cO (S_ (decide (a0<(↑a7:Int))))
 (
 gO (S_ (decide ((0:Int)<=a0/\a0<(↑a7:Int)/\0<a8.length)))<|
 bO (asList (a8.getD (a0.toNat*1) AV.top)) fun v8=>
 gO (S_ (decide ((0:Int)<=a0/\a0<(↑a2:Int)/\0<a3.length)))<|
 bO (asList (a3.getD (a0.toNat*1) AV.top)) fun v10=>
 cO (S_ ((↑v8.fst:Int) != (↑v10.fst:Int)))
 (
 some ([RLeaf.v (AV.int .i64 (2:Int))]))
 (
 r_5 (S_ (IntKind.i64.wrap (a0+(1:Int)))) a1 a2 a3 a4 a5 a6 a7 a8))
 (
 loopC N (fun r_7 (b0 b1:Int) (b2:Nat) (b3:List AV) (b4:Nat) (b5:List AV) (b6:Int) (b7:Nat) (b8:List AV)=>
 cO (S_ (decide (b0<(↑b2:Int))))
 (
 loopC N (fun r_9 (c0 c1 c2:Int) (c3:Nat) (c4:List AV) (c5:Nat) (c6:List AV) (c7:Int) (c8:Nat) (c9:List AV)=>
 gO (S_ (decide ((0:Int)<=c0/\c0<(↑c3:Int)/\0<c4.length)))<|
 bO (asList (c4.getD (c0.toNat*1) AV.top)) fun v11=>
 cO (S_ (decide (c1<(↑v11.fst:Int))))
 (
 joinC N (
 (fun (y0_13 y1_13:Int) (y2_13:Bool) (y3_13:Int) (y4_13:Nat) (y5_13:List AV) (y6_13:Nat) (y7_13:List AV) (y8_13:Int) (y9_13:Nat) (y10_13:List AV)=>
 cO y2_13
 (
 some ([RLeaf.v (AV.int .i64 (1:Int))]))
 (
 r_9 y0_13 (S_ (IntKind.i64.wrap (y1_13+(1:Int)))) y3_13 y4_13 y5_13 y6_13 y7_13 y8_13 y9_13 y10_13)),PUnit.unit) fun k_13=>
 gO (S_ (decide ((0:Int)<=c0/\c0<(↑c3:Int)/\0<c4.length)))<|
 bO (asList (c4.getD (c0.toNat*1) AV.top)) fun v15=>
 gO (S_ (decide ((0:Int)<=c1/\c1<(↑v15.fst:Int)/\0<v15.snd.length)))<|
 bO (asFloat .f32 (v15.snd.getD (c1.toNat*2+0) AV.top)) fun v17=>
 bO (
 cO (!S_ (finB v17))
 (
 some true)
 (
 gO (S_ (decide ((0:Int)<=c0/\c0<(↑c3:Int)/\0<c4.length)))<|
 bO (asList (c4.getD (c0.toNat*1) AV.top)) fun v21=>
 gO (S_ (decide ((0:Int)<=c1/\c1<(↑v21.fst:Int)/\0<v21.snd.length)))<|
 bO (asFloat .f32 (v21.snd.getD (c1.toNat*2+1) AV.top)) fun v23=>
 some (!S_ (finB v23)))) fun v18=>
 k_13.1 c0 c1 v18 c2 c3 c4 c5 c6 c7 c8 c9)
 (
 r_7 (S_ (IntKind.i64.wrap (c0+(1:Int)))) c2 c3 c4 c5 c6 c7 c8 c9))
 (fun _ _ _ _ _ _ _ _ _ _=>none) b0 ((0:Int)) b1 b2 b3 b4 b5 b6 b7 b8)
 (
 gO (S_ (decide (Lvs b7 b8/\Lvs b2 b3)))<|
 cO (!S_ (decide (b6=b1)&&decide (b7=b2)&&sameT b7 b8 b3))
 (
 some ([RLeaf.v (AV.int .i64 (21:Int))]))
 (
 some ([RLeaf.v (AV.int .i64 (0:Int))]))))
 (fun _ _ _ _ _ _ _ _ _=>none) ((0:Int)) a1 a2 a3 a4 a5 a6 a7 a8))
 (fun _ _ _ _ _ _ _ _ _=>none) ((0:Int)) b m ls 0 ([]) (S_ b) (S_ (refLv (fO cs) b.toNat).length) (S_ (lvCells (refLv (fO cs) b.toNat))))))
 (
 cO (S_ (S_ (sampErr n (fO cs)) != (0:Int)))
 (
 some ([RLeaf.v (AV.int .i64 (S_ (sampErr n (fO cs))))]))
 (
 gO (S_ (decide (Flos n cs/\n<=5000/\(1:Int)<=b/\b<=(10000:Int))))<|
 cO (S_ ((↑(S_ (refLv (fO cs) b.toNat).length):Int) != (↑m:Int)))
 (
 some ([RLeaf.v (AV.int .i64 (2:Int))]))
 (
 loopC N (fun r_5 (a0 a1:Int) (a2:Nat) (a3:List AV) (a4:Nat) (a5:List AV) (a6:Int) (a7:Nat) (a8:List AV)=>
 cO (S_ (decide (a0<(↑a7:Int))))
 (
 gO (S_ (decide ((0:Int)<=a0/\a0<(↑a7:Int)/\0<a8.length)))<|
 bO (asList (a8.getD (a0.toNat*1) AV.top)) fun v8=>
 gO (S_ (decide ((0:Int)<=a0/\a0<(↑a2:Int)/\0<a3.length)))<|
 bO (asList (a3.getD (a0.toNat*1) AV.top)) fun v10=>
 cO (S_ ((↑v8.fst:Int) != (↑v10.fst:Int)))
 (
 some ([RLeaf.v (AV.int .i64 (2:Int))]))
 (
 r_5 (S_ (IntKind.i64.wrap (a0+(1:Int)))) a1 a2 a3 a4 a5 a6 a7 a8))
 (
 loopC N (fun r_7 (b0 b1:Int) (b2:Nat) (b3:List AV) (b4:Nat) (b5:List AV) (b6:Int) (b7:Nat) (b8:List AV)=>
 cO (S_ (decide (b0<(↑b2:Int))))
 (
 loopC N (fun r_9 (c0 c1 c2:Int) (c3:Nat) (c4:List AV) (c5:Nat) (c6:List AV) (c7:Int) (c8:Nat) (c9:List AV)=>
 gO (S_ (decide ((0:Int)<=c0/\c0<(↑c3:Int)/\0<c4.length)))<|
 bO (asList (c4.getD (c0.toNat*1) AV.top)) fun v11=>
 cO (S_ (decide (c1<(↑v11.fst:Int))))
 (
 joinC N (
 (fun (y0_13 y1_13:Int) (y2_13:Bool) (y3_13:Int) (y4_13:Nat) (y5_13:List AV) (y6_13:Nat) (y7_13:List AV) (y8_13:Int) (y9_13:Nat) (y10_13:List AV)=>
 cO y2_13
 (
 some ([RLeaf.v (AV.int .i64 (1:Int))]))
 (
 r_9 y0_13 (S_ (IntKind.i64.wrap (y1_13+(1:Int)))) y3_13 y4_13 y5_13 y6_13 y7_13 y8_13 y9_13 y10_13)),PUnit.unit) fun k_13=>
 gO (S_ (decide ((0:Int)<=c0/\c0<(↑c3:Int)/\0<c4.length)))<|
 bO (asList (c4.getD (c0.toNat*1) AV.top)) fun v15=>
 gO (S_ (decide ((0:Int)<=c1/\c1<(↑v15.fst:Int)/\0<v15.snd.length)))<|
 bO (asFloat .f32 (v15.snd.getD (c1.toNat*2+0) AV.top)) fun v17=>
 bO (
 cO (!S_ (finB v17))
 (
 some true)
 (
 gO (S_ (decide ((0:Int)<=c0/\c0<(↑c3:Int)/\0<c4.length)))<|
 bO (asList (c4.getD (c0.toNat*1) AV.top)) fun v21=>
 gO (S_ (decide ((0:Int)<=c1/\c1<(↑v21.fst:Int)/\0<v21.snd.length)))<|
 bO (asFloat .f32 (v21.snd.getD (c1.toNat*2+1) AV.top)) fun v23=>
 some (!S_ (finB v23)))) fun v18=>
 k_13.1 c0 c1 v18 c2 c3 c4 c5 c6 c7 c8 c9)
 (
 r_7 (S_ (IntKind.i64.wrap (c0+(1:Int)))) c2 c3 c4 c5 c6 c7 c8 c9))
 (fun _ _ _ _ _ _ _ _ _ _=>none) b0 ((0:Int)) b1 b2 b3 b4 b5 b6 b7 b8)
 (
 gO (S_ (decide (Lvs b7 b8/\Lvs b2 b3)))<|
 cO (!S_ (decide (b6=b1)&&decide (b7=b2)&&sameT b7 b8 b3))
 (
 some ([RLeaf.v (AV.int .i64 (21:Int))]))
 (
 some ([RLeaf.v (AV.int .i64 (0:Int))]))))
 (fun _ _ _ _ _ _ _ _ _=>none) ((0:Int)) a1 a2 a3 a4 a5 a6 a7 a8))
 (fun _ _ _ _ _ _ _ _ _=>none) ((0:Int)) b m ls 0 ([]) (S_ b) (S_ (refLv (fO cs) b.toNat).length) (S_ (lvCells (refLv (fO cs) b.toNat))))))):=by kernel_rfl
end Go.Abs
end
