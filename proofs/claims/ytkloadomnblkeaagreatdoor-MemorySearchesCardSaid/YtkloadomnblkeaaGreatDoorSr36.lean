/- Part 36 of the library that the proof of the statement uses: an abstract run of the program, proved right, and what its functions give. -/
import Derived.Test.YtkloadomnblkeaaGreatDoorSr33
import Derived.Test.YtkloadomnblkeaaGreatDoorSr35
set_option linter.unusedVariables false
set_option linter.unusedSimpArgs false

set_option maxRecDepth 100000
noncomputable section
namespace Go.Abs
open Go.Proofs Classical
theorem run_45 (N n:Nat) (cs:List AV) (b:Int) (m:Nat) (ls:List AV) (f:Int) (o:Option Nat):(fsM mzO waysR N 12).call (List RLeaf) 45 [.ofB (.list n cs),.s (.agg [.b (.int .i64 b),.b (.list m ls)]),.ofB (.int .i64 f),.ofB (.flo .f32 o)] [] (resK [false,false])=(
 gO (S_ (decide (Flos n cs/\Lvs m ls)))<|
 gO (S_ (decide (Ints 3 (putCells (putCells (putCells (zrow (ofV (Go.Value.int IntKind.i64 (0:Int))).cells 3) 0 [AV.int .i64 (S_ (chkT n (fO cs) b m ls))]) 1 [AV.int .i64 (S_ (if f<(0:Int)\/f>(↑n:Int) then (3:Int) else (0:Int)))]) 2 [AV.int .i64 (S_ (if (!S_ (finB o))=true then (1:Int) else (0:Int)))]))))<|
 cO (S_ (S_ (firstNZ (intsOf (putCells (putCells (putCells (zrow (ofV (Go.Value.int IntKind.i64 (0:Int))).cells 3) 0 [AV.int .i64 (S_ (chkT n (fO cs) b m ls))]) 1 [AV.int .i64 (S_ (if f<(0:Int)\/f>(↑n:Int) then (3:Int) else (0:Int)))]) 2 [AV.int .i64 (S_ (if (!S_ (finB o))=true then (1:Int) else (0:Int)))]))) != (0:Int)))
 (
 some ([RLeaf.v (AV.int .i64 (0:Int)),RLeaf.v (AV.int .i64 (S_ (firstNZ (intsOf (putCells (putCells (putCells (zrow (ofV (Go.Value.int IntKind.i64 (0:Int))).cells 3) 0 [AV.int .i64 (S_ (chkT n (fO cs) b m ls))]) 1 [AV.int .i64 (S_ (if f<(0:Int)\/f>(↑n:Int) then (3:Int) else (0:Int)))]) 2 [AV.int .i64 (S_ (if (!S_ (finB o))=true then (1:Int) else (0:Int)))])))))]))
 (
 loopC N (fun r_3 (a0:Nat) (a1:List AV) (a2 a3:Int) (a4:Nat) (a5:List AV) (a6:Int) (a7:Nat) (a8:List AV) (a9:Option Nat) (a10:Int) (a11:Nat) (a12:List AV) (a13:Nat) (a14:List AV) (a15:Int) (a16:Nat) (a17:List AV) (a18:Nat) (a19:List AV) (a20:Int) (a21:List (AV × AV × Nat)) (a22 a23:Nat) (a24:List AV) (a25:Nat) (a26:List AV) (a27:Int)=>
 cO (S_ (decide (a3<a2)))
 (
 gO (S_ (decide ((0:Int)<=a3/\a3<(↑a0:Int)/\0<a1.length)))<|
 bO (asList (a1.getD (a3.toNat*1) AV.top)) fun v6=>
 loopC N (fun r_7 (b0:Int) (b1:Nat) (b2:List AV) (b3 b4:Int) (b5:Nat) (b6:List AV) (b7 b8:Int) (b9:Nat) (b10:List AV) (b11:Int) (b12:Nat) (b13:List AV) (b14:Option Nat) (b15:Int) (b16:Nat) (b17:List AV) (b18:Nat) (b19:List AV) (b20:Int) (b21:Nat) (b22:List AV) (b23:Nat) (b24:List AV) (b25:Int) (b26:List (AV × AV × Nat)) (b27 b28:Nat) (b29:List AV) (b30:Nat) (b31:List AV) (b32:Int)=>
 cO (S_ (decide (b8<b7)))
 (
 gO (S_ (decide ((0:Int)<=b8/\b8<(↑b5:Int)/\0<b6.length)))<|
 gO (S_ (decide (b8.toNat*2+2<=b6.length)))<|
 bO (asFloat .f32 (b6.getD (b8.toNat*2) AV.top)) fun v11=>
 bO (asFloat .f32 (b6.getD (b8.toNat*2+1) AV.top)) fun v12=>
 gO (S_ (decide (finB (S_ (clean1 v11))=true/\finB (S_ (clean1 v11))=true/\finB (S_ (clean1 v12))=true/\finB (S_ (clean1 v12))=true)))<|
 bO (mput Tryz.prog 130 (AV.agg [AV.int .i64 b0,AV.int .i64 b8]) (AV.agg [AV.flo .f32 (S_ (minO (S_ (clean1 v11)) (S_ (clean1 v12)))),AV.flo .f32 (S_ (maxO (S_ (clean1 v11)) (S_ (clean1 v12))))]) b26 b27) fun v14=>
 r_7 b0 b1 b2 b3 b4 b5 b6 b7 (S_ (IntKind.i64.wrap (b8+(1:Int)))) b9 b10 b11 b12 b13 b14 b15 b16 b17 b18 b19 b20 b21 b22 b23 b24 b25 (v14.fst) (v14.snd) b28 b29 b30 b31 b32)
 (
 r_3 b1 b2 b3 (S_ (IntKind.i64.wrap (b4+(1:Int)))) b9 b10 b11 b12 b13 b14 b15 b16 b17 b18 b19 b20 b21 b22 b23 b24 b25 b26 b27 b28 b29 b30 b31 b32))
 (fun _ _ _ _ _ _ _ _ _ _ _ _ _ _ _ _ _ _ _ _ _ _ _ _ _ _ _ _ _ _ _ _ _=>none) a3 a0 a1 a2 a3 (v6.fst) (v6.snd) ((↑v6.fst:Int)) ((0:Int)) a4 a5 a6 a7 a8 a9 a10 a11 a12 a13 a14 a15 a16 a17 a18 a19 a20 a21 a22 a23 a24 a25 a26 a27)
 (
 loopC N (fun r_5 (c0:Int) (c1:Nat) (c2:List AV) (c3:Int) (c4:Nat) (c5:List AV) (c6:Option Nat) (c7:Int) (c8:Nat) (c9:List AV) (c10:Nat) (c11:List AV) (c12:Int) (c13:Nat) (c14:List AV) (c15:Nat) (c16:List AV) (c17:Nat) (c18:List AV) (c19:Int) (c20:List (AV × AV × Nat)) (c21 c22:Nat) (c23:List AV) (c24:Nat) (c25:List AV) (c26:Int) (c27:Nat) (c28:List AV) (c29 c30 c31 c32 c33 c34:Int)=>
 cO (S_ (decide (c0<c34)))
 (
 loopC N (fun r_7 (b0 b1 b2 b3:Int) (b4:Nat) (b5:List AV) (b6:Int) (b7:Nat) (b8:List AV) (b9:Option Nat) (b10:Int) (b11:Nat) (b12:List AV) (b13:Nat) (b14:List AV) (b15:Int) (b16:Nat) (b17:List AV) (b18:Nat) (b19:List AV) (b20:Nat) (b21:List AV) (b22:Int) (b23:List (AV × AV × Nat)) (b24 b25:Nat) (b26:List AV) (b27:Nat) (b28:List AV) (b29:Int) (b30:Nat) (b31:List AV) (b32 b33 b34 b35 b36 b37 b38 b39:Int)=>
 gO (S_ (decide (b3≠(0:Int))))<|
 bO (
 cO (S_ (S_ (b0.tmod b3)==(0:Int)))
 (
 some (S_ (decide (S_ (if S_ (IntKind.i64.wrap (b0+b3))<b35 then S_ (IntKind.i64.wrap (b0+b3)) else b35)<=b37))))
 (
 some false)) fun v9=>
 cO v9
 (
 gO (S_ (decide (b3≠(0:Int))))<|
 cO (S_ (decide (b3>=b35)))
 (
 joinC N (
 (fun (y0_13:Int) (y1_13:Bool) (y2_13:Nat) (y3_13:List AV) (y4_13:Int) (y5_13:Nat) (y6_13:List AV) (y7_13:Option Nat) (y8_13:Int) (y9_13:Nat) (y10_13:List AV) (y11_13:Nat) (y12_13:List AV) (y13_13:Int) (y14_13:Nat) (y15_13:List AV) (y16_13:Nat) (y17_13:List AV) (y18_13:Nat) (y19_13:List AV) (y20_13:Int) (y21_13:List (AV × AV × Nat)) (y22_13 y23_13:Nat) (y24_13:List AV) (y25_13:Nat) (y26_13:List AV) (y27_13:Int) (y28_13:Nat) (y29_13:List AV) (y30_13 y31_13 y32_13 y33_13 y34_13 y35_13 y36_13 y37_13 y38_13 y39_13:Int)=>
 cO y1_13
 (
 r_5 (S_ (if S_ (IntKind.i64.wrap (b0+b3))<b35 then S_ (IntKind.i64.wrap (b0+b3)) else b35)) y2_13 y3_13 y4_13 y5_13 y6_13 y7_13 y8_13 y9_13 y10_13 y11_13 y12_13 y13_13 y14_13 y15_13 y16_13 y17_13 y18_13 y19_13 y20_13 y21_13 y22_13 y23_13 y24_13 y25_13 y26_13 y27_13 y28_13 y29_13 y30_13 y31_13 y32_13 y33_13 y34_13 y35_13)
 (
 joinC N (
 (fun (y0_15 y1_15:Int) (y2_15:Nat) (y3_15:List AV) (y4_15:Int) (y5_15:Nat) (y6_15:List AV) (y7_15:Option Nat) (y8_15:Int) (y9_15:Nat) (y10_15:List AV) (y11_15:Nat) (y12_15:List AV) (y13_15:Int) (y14_15:Nat) (y15_15:List AV) (y16_15:Nat) (y17_15:List AV) (y18_15:Nat) (y19_15:List AV) (y20_15:Int) (y21_15:List (AV × AV × Nat)) (y22_15 y23_15:Nat) (y24_15:List AV) (y25_15:Nat) (y26_15:List AV) (y27_15:Int) (y28_15:Nat) (y29_15:List AV) (y30_15 y31_15 y32_15 y33_15 y34_15 y35_15 y36_15 y37_15 y38_15 y39_15:Int)=>
 loopC N (fun r_16 (d0 d1:Int) (d2:Nat) (d3:List AV) (d4:Int) (d5:Nat) (d6:List AV) (d7:Option Nat) (d8:Int) (d9:Nat) (d10:List AV) (d11:Nat) (d12:List AV) (d13:Int) (d14:Nat) (d15:List AV) (d16:Nat) (d17:List AV) (d18:Nat) (d19:List AV) (d20:Int) (d21:List (AV × AV × Nat)) (d22 d23:Nat) (d24:List AV) (d25:Nat) (d26:List AV) (d27:Int) (d28:Nat) (d29:List AV) (d30 d31 d32 d33 d34 d35 d36 d37 d38 d39:Int)=>
 cO (S_ (decide (d1<d0)))
 (
 gO (S_ (decide ((0:Int)<=d1/\d1<(↑d2:Int)/\0<d3.length)))<|
 bO (asFloat .f32 (d3.getD (d1.toNat*1) AV.top)) fun v19=>
 cO (S_ (ordO .f32 v19 d7==some .gt||ordO .f32 v19 d7==some .eq))
 (
 some ([RLeaf.v (AV.int .i64 (S_ (if d1<(0:Int) then (0:Int) else d1))),RLeaf.v (AV.int .i64 (S_ (if d1<(0:Int) then (7:Int) else (0:Int))))]))
 (
 r_16 d0 (S_ (IntKind.i64.wrap (d1+(1:Int)))) d2 d3 d4 d5 d6 d7 d8 d9 d10 d11 d12 d13 d14 d15 d16 d17 d18 d19 d20 d21 d22 d23 d24 d25 d26 d27 d28 d29 d30 d31 d32 d33 d34 d35 d36 d37 d38 d39))
 (
 r_5 (S_ (if S_ (IntKind.i64.wrap (b0+b3))<b35 then S_ (IntKind.i64.wrap (b0+b3)) else b35)) d2 d3 d4 d5 d6 d7 d8 d9 d10 d11 d12 d13 d14 d15 d16 d17 d18 d19 d20 d21 d22 d23 d24 d25 d26 d27 d28 d29 d30 d31 d32 d33 d34 d35))
 (fun _ _ _ _ _ _ _ _ _ _ _ _ _ _ _ _ _ _ _ _ _ _ _ _ _ _ _ _ _ _ _ _ _ _ _ _ _ _ _ _=>none) y0_15 y1_15 y2_15 y3_15 y4_15 y5_15 y6_15 y7_15 y8_15 y9_15 y10_15 y11_15 y12_15 y13_15 y14_15 y15_15 y16_15 y17_15 y18_15 y19_15 y20_15 y21_15 y22_15 y23_15 y24_15 y25_15 y26_15 y27_15 y28_15 y29_15 y30_15 y31_15 y32_15 y33_15 y34_15 y35_15 y36_15 y37_15 y38_15 y39_15),PUnit.unit) fun k_15=>
 cO (S_ (decide (y38_13>=(0:Int))))
 (
 gO (S_ (decide ((0:Int)<=y38_13)))<|
 k_15.1 y0_13 (S_ (IntKind.i64.wrap (S_ (IntKind.i64.wrap (y39_13*y30_13))*(2:Int) ^ Min.min y38_13.toNat 64))) y2_13 y3_13 y4_13 y5_13 y6_13 y7_13 y8_13 y9_13 y10_13 y11_13 y12_13 y13_13 y14_13 y15_13 y16_13 y17_13 y18_13 y19_13 y20_13 y21_13 y22_13 y23_13 y24_13 y25_13 y26_13 y27_13 y28_13 y29_13 y30_13 y31_13 y32_13 y33_13 y34_13 y35_13 y36_13 y37_13 y38_13 y39_13)
 (
 k_15.1 y0_13 y39_13 y2_13 y3_13 y4_13 y5_13 y6_13 y7_13 y8_13 y9_13 y10_13 y11_13 y12_13 y13_13 y14_13 y15_13 y16_13 y17_13 y18_13 y19_13 y20_13 y21_13 y22_13 y23_13 y24_13 y25_13 y26_13 y27_13 y28_13 y29_13 y30_13 y31_13 y32_13 y33_13 y34_13 y35_13 y36_13 y37_13 y38_13 y39_13))),PUnit.unit) fun k_13=>
 cO (S_ (decide (b2<(0:Int))))
 (
 gO (S_ (decide ((0:Int)<=S_ (IntKind.i64.wrap (b0.tdiv b3))/\S_ (IntKind.i64.wrap (b0.tdiv b3))<(↑b30:Int)/\0<b31.length)))<|
 bO (asFloat .f32 (b31.getD ((S_ (IntKind.i64.wrap (b0.tdiv b3))).toNat*1) AV.top)) fun v16=>
 gO (S_ (decide (b2=b2)))<|
 gO (S_ (decide (S_ (IntKind.i64.wrap (b0.tdiv b3))=S_ (IntKind.i64.wrap (b0.tdiv b3)))))<|
 gO (S_ (decide (b30=b30/\b31=b31)))<|
 gO (S_ (decide (b32=b32)))<|
 k_13.1 (S_ (if S_ (IntKind.i64.wrap (b0+b3))<b35 then S_ (IntKind.i64.wrap (b0+b3)) else b35)) (!S_ (ordO .f32 (S_ (clean1 v16)) b9==some .gt||ordO .f32 (S_ (clean1 v16)) b9==some .eq)) b4 b5 b6 b7 b8 b9 b10 b11 b12 b13 b14 b15 b16 b17 b18 b19 b20 b21 b22 b23 b24 b25 b26 b27 b28 b29 b30 b31 b32 b33 b34 b35 b36 b37 b2 (S_ (IntKind.i64.wrap (b0.tdiv b3))) b2 (S_ (IntKind.i64.wrap (b0.tdiv b3))))
 (
 bO (mlook Tryz.prog 130 62 (AV.agg [AV.int .i64 b2,AV.int .i64 (S_ (IntKind.i64.wrap (b0.tdiv b3)))]) b23) fun v15=>
 bO (asAgg v15.snd) fun v16=>
 gO (S_ (decide (v16.length=2)))<|
 bO (asFloat .f32 (v16.getD 0 AV.top)) fun v18=>
 bO (asFloat .f32 (v16.tail.getD 0 AV.top)) fun v19=>
 gO (S_ (decide (b2=b2)))<|
 gO (S_ (decide (S_ (IntKind.i64.wrap (b0.tdiv b3))=S_ (IntKind.i64.wrap (b0.tdiv b3)))))<|
 gO (S_ (decide (b30=b30/\b31=b31)))<|
 gO (S_ (decide (b32=b32)))<|
 k_13.1 (S_ (if S_ (IntKind.i64.wrap (b0+b3))<b35 then S_ (IntKind.i64.wrap (b0+b3)) else b35)) (!S_ (ordO .f32 v19 b9==some .gt||ordO .f32 v19 b9==some .eq)) b4 b5 b6 b7 b8 b9 b10 b11 b12 b13 b14 b15 b16 b17 b18 b19 b20 b21 b22 b23 b24 b25 b26 b27 b28 b29 b30 b31 b32 b33 b34 b35 b36 b37 b2 (S_ (IntKind.i64.wrap (b0.tdiv b3))) b2 (S_ (IntKind.i64.wrap (b0.tdiv b3)))))
 (
 r_7 b0 (S_ (if S_ (IntKind.i64.wrap (b0+b3))<b35 then S_ (IntKind.i64.wrap (b0+b3)) else b35)) (S_ (IntKind.i64.wrap (b2+(1:Int)))) (S_ (IntKind.i64.wrap ((2:Int)*b3))) b4 b5 b6 b7 b8 b9 b10 b11 b12 b13 b14 b15 b16 b17 b18 b19 b20 b21 b22 b23 b24 b25 b26 b27 b28 b29 b30 b31 b32 b33 b34 b35 b36 b37 b2 (S_ (IntKind.i64.wrap (b0.tdiv b3)))))
 (
 joinC N (
 (fun (y0_11:Int) (y1_11:Bool) (y2_11:Nat) (y3_11:List AV) (y4_11:Int) (y5_11:Nat) (y6_11:List AV) (y7_11:Option Nat) (y8_11:Int) (y9_11:Nat) (y10_11:List AV) (y11_11:Nat) (y12_11:List AV) (y13_11:Int) (y14_11:Nat) (y15_11:List AV) (y16_11:Nat) (y17_11:List AV) (y18_11:Nat) (y19_11:List AV) (y20_11:Int) (y21_11:List (AV × AV × Nat)) (y22_11 y23_11:Nat) (y24_11:List AV) (y25_11:Nat) (y26_11:List AV) (y27_11:Int) (y28_11:Nat) (y29_11:List AV) (y30_11 y31_11 y32_11 y33_11 y34_11 y35_11 y36_11 y37_11 y38_11 y39_11:Int)=>
 cO y1_11
 (
 r_5 b1 y2_11 y3_11 y4_11 y5_11 y6_11 y7_11 y8_11 y9_11 y10_11 y11_11 y12_11 y13_11 y14_11 y15_11 y16_11 y17_11 y18_11 y19_11 y20_11 y21_11 y22_11 y23_11 y24_11 y25_11 y26_11 y27_11 y28_11 y29_11 y30_11 y31_11 y32_11 y33_11 y34_11 y35_11)
 (
 joinC N (
 (fun (y0_13 y1_13:Int) (y2_13:Nat) (y3_13:List AV) (y4_13:Int) (y5_13:Nat) (y6_13:List AV) (y7_13:Option Nat) (y8_13:Int) (y9_13:Nat) (y10_13:List AV) (y11_13:Nat) (y12_13:List AV) (y13_13:Int) (y14_13:Nat) (y15_13:List AV) (y16_13:Nat) (y17_13:List AV) (y18_13:Nat) (y19_13:List AV) (y20_13:Int) (y21_13:List (AV × AV × Nat)) (y22_13 y23_13:Nat) (y24_13:List AV) (y25_13:Nat) (y26_13:List AV) (y27_13:Int) (y28_13:Nat) (y29_13:List AV) (y30_13 y31_13 y32_13 y33_13 y34_13 y35_13 y36_13 y37_13 y38_13 y39_13:Int)=>
 loopC N (fun r_14 (e0 e1:Int) (e2:Nat) (e3:List AV) (e4:Int) (e5:Nat) (e6:List AV) (e7:Option Nat) (e8:Int) (e9:Nat) (e10:List AV) (e11:Nat) (e12:List AV) (e13:Int) (e14:Nat) (e15:List AV) (e16:Nat) (e17:List AV) (e18:Nat) (e19:List AV) (e20:Int) (e21:List (AV × AV × Nat)) (e22 e23:Nat) (e24:List AV) (e25:Nat) (e26:List AV) (e27:Int) (e28:Nat) (e29:List AV) (e30 e31 e32 e33 e34 e35 e36 e37 e38 e39:Int)=>
 cO (S_ (decide (e1<e0)))
 (
 gO (S_ (decide ((0:Int)<=e1/\e1<(↑e2:Int)/\0<e3.length)))<|
 bO (asFloat .f32 (e3.getD (e1.toNat*1) AV.top)) fun v17=>
 cO (S_ (ordO .f32 v17 e7==some .gt||ordO .f32 v17 e7==some .eq))
 (
 some ([RLeaf.v (AV.int .i64 (S_ (if e1<(0:Int) then (0:Int) else e1))),RLeaf.v (AV.int .i64 (S_ (if e1<(0:Int) then (7:Int) else (0:Int))))]))
 (
 r_14 e0 (S_ (IntKind.i64.wrap (e1+(1:Int)))) e2 e3 e4 e5 e6 e7 e8 e9 e10 e11 e12 e13 e14 e15 e16 e17 e18 e19 e20 e21 e22 e23 e24 e25 e26 e27 e28 e29 e30 e31 e32 e33 e34 e35 e36 e37 e38 e39))
 (
 r_5 b1 e2 e3 e4 e5 e6 e7 e8 e9 e10 e11 e12 e13 e14 e15 e16 e17 e18 e19 e20 e21 e22 e23 e24 e25 e26 e27 e28 e29 e30 e31 e32 e33 e34 e35))
 (fun _ _ _ _ _ _ _ _ _ _ _ _ _ _ _ _ _ _ _ _ _ _ _ _ _ _ _ _ _ _ _ _ _ _ _ _ _ _ _ _=>none) y0_13 y1_13 y2_13 y3_13 y4_13 y5_13 y6_13 y7_13 y8_13 y9_13 y10_13 y11_13 y12_13 y13_13 y14_13 y15_13 y16_13 y17_13 y18_13 y19_13 y20_13 y21_13 y22_13 y23_13 y24_13 y25_13 y26_13 y27_13 y28_13 y29_13 y30_13 y31_13 y32_13 y33_13 y34_13 y35_13 y36_13 y37_13 y38_13 y39_13),PUnit.unit) fun k_13=>
 cO (S_ (decide (y38_11>=(0:Int))))
 (
 gO (S_ (decide ((0:Int)<=y38_11)))<|
 k_13.1 y0_11 (S_ (IntKind.i64.wrap (S_ (IntKind.i64.wrap (y39_11*y30_11))*(2:Int) ^ Min.min y38_11.toNat 64))) y2_11 y3_11 y4_11 y5_11 y6_11 y7_11 y8_11 y9_11 y10_11 y11_11 y12_11 y13_11 y14_11 y15_11 y16_11 y17_11 y18_11 y19_11 y20_11 y21_11 y22_11 y23_11 y24_11 y25_11 y26_11 y27_11 y28_11 y29_11 y30_11 y31_11 y32_11 y33_11 y34_11 y35_11 y36_11 y37_11 y38_11 y39_11)
 (
 k_13.1 y0_11 y39_11 y2_11 y3_11 y4_11 y5_11 y6_11 y7_11 y8_11 y9_11 y10_11 y11_11 y12_11 y13_11 y14_11 y15_11 y16_11 y17_11 y18_11 y19_11 y20_11 y21_11 y22_11 y23_11 y24_11 y25_11 y26_11 y27_11 y28_11 y29_11 y30_11 y31_11 y32_11 y33_11 y34_11 y35_11 y36_11 y37_11 y38_11 y39_11))),PUnit.unit) fun k_11=>
 cO (S_ (decide (b38<(0:Int))))
 (
 gO (S_ (decide ((0:Int)<=b39/\b39<(↑b30:Int)/\0<b31.length)))<|
 bO (asFloat .f32 (b31.getD (b39.toNat*1) AV.top)) fun v14=>
 gO (S_ (decide (b38=b38)))<|
 gO (S_ (decide (b39=b39)))<|
 gO (S_ (decide (b30=b30/\b31=b31)))<|
 gO (S_ (decide (b32=b32)))<|
 k_11.1 b1 (!S_ (ordO .f32 (S_ (clean1 v14)) b9==some .gt||ordO .f32 (S_ (clean1 v14)) b9==some .eq)) b4 b5 b6 b7 b8 b9 b10 b11 b12 b13 b14 b15 b16 b17 b18 b19 b20 b21 b22 b23 b24 b25 b26 b27 b28 b29 b30 b31 b32 b33 b34 b35 b36 b37 b38 b39 b38 b39)
 (
 bO (mlook Tryz.prog 130 62 (AV.agg [AV.int .i64 b38,AV.int .i64 b39]) b23) fun v13=>
 bO (asAgg v13.snd) fun v14=>
 gO (S_ (decide (v14.length=2)))<|
 bO (asFloat .f32 (v14.getD 0 AV.top)) fun v16=>
 bO (asFloat .f32 (v14.tail.getD 0 AV.top)) fun v17=>
 gO (S_ (decide (b38=b38)))<|
 gO (S_ (decide (b39=b39)))<|
 gO (S_ (decide (b30=b30/\b31=b31)))<|
 gO (S_ (decide (b32=b32)))<|
 k_11.1 b1 (!S_ (ordO .f32 v17 b9==some .gt||ordO .f32 v17 b9==some .eq)) b4 b5 b6 b7 b8 b9 b10 b11 b12 b13 b14 b15 b16 b17 b18 b19 b20 b21 b22 b23 b24 b25 b26 b27 b28 b29 b30 b31 b32 b33 b34 b35 b36 b37 b38 b39 b38 b39)))
 (fun _ _ _ _ _ _ _ _ _ _ _ _ _ _ _ _ _ _ _ _ _ _ _ _ _ _ _ _ _ _ _ _ _ _ _ _ _ _ _ _=>none) c0 (S_ (IntKind.i64.wrap (c0+(1:Int)))) ((0:Int)) c31 c1 c2 c3 c4 c5 c6 c7 c8 c9 c10 c11 c12 c13 c14 c15 c16 c17 c18 c19 c20 c21 c22 c23 c24 c25 c26 c27 c28 c29 c30 c31 c32 c33 c34 ((-1:Int)) c0)
 (
 some ([RLeaf.v (AV.int .i64 (S_ (if c30<(0:Int) then (0:Int) else c30))),RLeaf.v (AV.int .i64 (S_ (if c30<(0:Int) then (7:Int) else (0:Int))))])))
 (fun _ _ _ _ _ _ _ _ _ _ _ _ _ _ _ _ _ _ _ _ _ _ _ _ _ _ _ _ _ _ _ _ _ _ _=>none) f a4 a5 a6 a7 a8 a9 a10 a11 a12 a13 a14 a15 a16 a17 a18 a19 a25 a26 a27 a21 a22 a23 a24 a25 a26 a27 a25 a26 a27 ((-1:Int)) a27 ((↑a25:Int)) f ((↑a25:Int))))
 (fun _ _ _ _ _ _ _ _ _ _ _ _ _ _ _ _ _ _ _ _ _ _ _ _ _ _ _ _=>none) m ls ((↑m:Int)) ((0:Int)) n cs b m ls o b m ls 3 (putCells (putCells (putCells (zrow (ofV (Go.Value.int IntKind.i64 (0:Int))).cells 3) 0 [AV.int .i64 (S_ (chkT n (fO cs) b m ls))]) 1 [AV.int .i64 (S_ (if f<(0:Int)\/f>(↑n:Int) then (3:Int) else (0:Int)))]) 2 [AV.int .i64 (S_ (if (!S_ (finB o))=true then (1:Int) else (0:Int)))]) b m ls 0 ([]) ((0:Int)) ([]) 0 0 ([]) n cs b)):=by kernel_rfl
theorem run_46 (N n:Nat) (cs:List AV) (b:Int) (m:Nat) (ls:List AV) (f:Int) (o:Option Nat):(fsM mzO waysR N 12).call (List RLeaf) 46 [.ofB (.list n cs),.s (.agg [.b (.int .i64 b),.b (.list m ls)]),.ofB (.int .i64 f),.ofB (.flo .f32 o)] [] (resK [false,false])=(
 gO (S_ (decide (Flos n cs/\Lvs m ls)))<|
 gO (S_ (decide (Ints 3 (putCells (putCells (putCells (zrow (ofV (Go.Value.int IntKind.i64 (0:Int))).cells 3) 0 [AV.int .i64 (S_ (chkT n (fO cs) b m ls))]) 1 [AV.int .i64 (S_ (if f<(0:Int)\/f>(↑n:Int) then (3:Int) else (0:Int)))]) 2 [AV.int .i64 (S_ (if (!S_ (finB o))=true then (1:Int) else (0:Int)))]))))<|
 cO (S_ (S_ (firstNZ (intsOf (putCells (putCells (putCells (zrow (ofV (Go.Value.int IntKind.i64 (0:Int))).cells 3) 0 [AV.int .i64 (S_ (chkT n (fO cs) b m ls))]) 1 [AV.int .i64 (S_ (if f<(0:Int)\/f>(↑n:Int) then (3:Int) else (0:Int)))]) 2 [AV.int .i64 (S_ (if (!S_ (finB o))=true then (1:Int) else (0:Int)))]))) != (0:Int)))
 (
 some ([RLeaf.v (AV.int .i64 (0:Int)),RLeaf.v (AV.int .i64 (S_ (firstNZ (intsOf (putCells (putCells (putCells (zrow (ofV (Go.Value.int IntKind.i64 (0:Int))).cells 3) 0 [AV.int .i64 (S_ (chkT n (fO cs) b m ls))]) 1 [AV.int .i64 (S_ (if f<(0:Int)\/f>(↑n:Int) then (3:Int) else (0:Int)))]) 2 [AV.int .i64 (S_ (if (!S_ (finB o))=true then (1:Int) else (0:Int)))])))))]))
 (
 loopC N (fun r_3 (a0:Nat) (a1:List AV) (a2 a3:Int) (a4:Nat) (a5:List AV) (a6:Int) (a7:Nat) (a8:List AV) (a9:Option Nat) (a10:Int) (a11:Nat) (a12:List AV) (a13:Nat) (a14:List AV) (a15:Int) (a16:Nat) (a17:List AV) (a18:Nat) (a19:List AV) (a20:Int) (a21:List (AV × AV × Nat)) (a22 a23:Nat) (a24:List AV) (a25:Nat) (a26:List AV) (a27:Int)=>
 cO (S_ (decide (a3<a2)))
 (
 gO (S_ (decide ((0:Int)<=a3/\a3<(↑a0:Int)/\0<a1.length)))<|
 bO (asList (a1.getD (a3.toNat*1) AV.top)) fun v6=>
 loopC N (fun r_7 (b0:Int) (b1:Nat) (b2:List AV) (b3 b4:Int) (b5:Nat) (b6:List AV) (b7 b8:Int) (b9:Nat) (b10:List AV) (b11:Int) (b12:Nat) (b13:List AV) (b14:Option Nat) (b15:Int) (b16:Nat) (b17:List AV) (b18:Nat) (b19:List AV) (b20:Int) (b21:Nat) (b22:List AV) (b23:Nat) (b24:List AV) (b25:Int) (b26:List (AV × AV × Nat)) (b27 b28:Nat) (b29:List AV) (b30:Nat) (b31:List AV) (b32:Int)=>
 cO (S_ (decide (b8<b7)))
 (
 gO (S_ (decide ((0:Int)<=b8/\b8<(↑b5:Int)/\0<b6.length)))<|
 gO (S_ (decide (b8.toNat*2+2<=b6.length)))<|
 bO (asFloat .f32 (b6.getD (b8.toNat*2) AV.top)) fun v11=>
 bO (asFloat .f32 (b6.getD (b8.toNat*2+1) AV.top)) fun v12=>
 gO (S_ (decide (finB (S_ (clean1 v11))=true/\finB (S_ (clean1 v11))=true/\finB (S_ (clean1 v12))=true/\finB (S_ (clean1 v12))=true)))<|
 bO (mput Tryz.prog 130 (AV.agg [AV.int .i64 b0,AV.int .i64 b8]) (AV.agg [AV.flo .f32 (S_ (minO (S_ (clean1 v11)) (S_ (clean1 v12)))),AV.flo .f32 (S_ (maxO (S_ (clean1 v11)) (S_ (clean1 v12))))]) b26 b27) fun v14=>
 r_7 b0 b1 b2 b3 b4 b5 b6 b7 (S_ (IntKind.i64.wrap (b8+(1:Int)))) b9 b10 b11 b12 b13 b14 b15 b16 b17 b18 b19 b20 b21 b22 b23 b24 b25 (v14.fst) (v14.snd) b28 b29 b30 b31 b32)
 (
 r_3 b1 b2 b3 (S_ (IntKind.i64.wrap (b4+(1:Int)))) b9 b10 b11 b12 b13 b14 b15 b16 b17 b18 b19 b20 b21 b22 b23 b24 b25 b26 b27 b28 b29 b30 b31 b32))
 (fun _ _ _ _ _ _ _ _ _ _ _ _ _ _ _ _ _ _ _ _ _ _ _ _ _ _ _ _ _ _ _ _ _=>none) a3 a0 a1 a2 a3 (v6.fst) (v6.snd) ((↑v6.fst:Int)) ((0:Int)) a4 a5 a6 a7 a8 a9 a10 a11 a12 a13 a14 a15 a16 a17 a18 a19 a20 a21 a22 a23 a24 a25 a26 a27)
 (
 loopC N (fun r_5 (c0:Int) (c1:Nat) (c2:List AV) (c3:Int) (c4:Nat) (c5:List AV) (c6:Option Nat) (c7:Int) (c8:Nat) (c9:List AV) (c10:Nat) (c11:List AV) (c12:Int) (c13:Nat) (c14:List AV) (c15:Nat) (c16:List AV) (c17:Nat) (c18:List AV) (c19:Int) (c20:List (AV × AV × Nat)) (c21 c22:Nat) (c23:List AV) (c24:Nat) (c25:List AV) (c26:Int) (c27:Nat) (c28:List AV) (c29 c30 c31 c32 c33 c34:Int)=>
 cO (S_ (decide (c0<c34)))
 (
 loopC N (fun r_7 (b0 b1 b2 b3:Int) (b4:Nat) (b5:List AV) (b6:Int) (b7:Nat) (b8:List AV) (b9:Option Nat) (b10:Int) (b11:Nat) (b12:List AV) (b13:Nat) (b14:List AV) (b15:Int) (b16:Nat) (b17:List AV) (b18:Nat) (b19:List AV) (b20:Nat) (b21:List AV) (b22:Int) (b23:List (AV × AV × Nat)) (b24 b25:Nat) (b26:List AV) (b27:Nat) (b28:List AV) (b29:Int) (b30:Nat) (b31:List AV) (b32 b33 b34 b35 b36 b37 b38 b39:Int)=>
 gO (S_ (decide (b3≠(0:Int))))<|
 bO (
 cO (S_ (S_ (b0.tmod b3)==(0:Int)))
 (
 some (S_ (decide (S_ (if S_ (IntKind.i64.wrap (b0+b3))<b35 then S_ (IntKind.i64.wrap (b0+b3)) else b35)<=b37))))
 (
 some false)) fun v9=>
 cO v9
 (
 gO (S_ (decide (b3≠(0:Int))))<|
 cO (S_ (decide (b3>=b35)))
 (
 joinC N (
 (fun (y0_13:Int) (y1_13:Bool) (y2_13:Nat) (y3_13:List AV) (y4_13:Int) (y5_13:Nat) (y6_13:List AV) (y7_13:Option Nat) (y8_13:Int) (y9_13:Nat) (y10_13:List AV) (y11_13:Nat) (y12_13:List AV) (y13_13:Int) (y14_13:Nat) (y15_13:List AV) (y16_13:Nat) (y17_13:List AV) (y18_13:Nat) (y19_13:List AV) (y20_13:Int) (y21_13:List (AV × AV × Nat)) (y22_13 y23_13:Nat) (y24_13:List AV) (y25_13:Nat) (y26_13:List AV) (y27_13:Int) (y28_13:Nat) (y29_13:List AV) (y30_13 y31_13 y32_13 y33_13 y34_13 y35_13 y36_13 y37_13 y38_13 y39_13:Int)=>
 cO y1_13
 (
 r_5 (S_ (if S_ (IntKind.i64.wrap (b0+b3))<b35 then S_ (IntKind.i64.wrap (b0+b3)) else b35)) y2_13 y3_13 y4_13 y5_13 y6_13 y7_13 y8_13 y9_13 y10_13 y11_13 y12_13 y13_13 y14_13 y15_13 y16_13 y17_13 y18_13 y19_13 y20_13 y21_13 y22_13 y23_13 y24_13 y25_13 y26_13 y27_13 y28_13 y29_13 y30_13 y31_13 y32_13 y33_13 y34_13 y35_13)
 (
 joinC N (
 (fun (y0_15 y1_15:Int) (y2_15:Nat) (y3_15:List AV) (y4_15:Int) (y5_15:Nat) (y6_15:List AV) (y7_15:Option Nat) (y8_15:Int) (y9_15:Nat) (y10_15:List AV) (y11_15:Nat) (y12_15:List AV) (y13_15:Int) (y14_15:Nat) (y15_15:List AV) (y16_15:Nat) (y17_15:List AV) (y18_15:Nat) (y19_15:List AV) (y20_15:Int) (y21_15:List (AV × AV × Nat)) (y22_15 y23_15:Nat) (y24_15:List AV) (y25_15:Nat) (y26_15:List AV) (y27_15:Int) (y28_15:Nat) (y29_15:List AV) (y30_15 y31_15 y32_15 y33_15 y34_15 y35_15 y36_15 y37_15 y38_15 y39_15:Int)=>
 loopC N (fun r_16 (d0 d1:Int) (d2:Nat) (d3:List AV) (d4:Int) (d5:Nat) (d6:List AV) (d7:Option Nat) (d8:Int) (d9:Nat) (d10:List AV) (d11:Nat) (d12:List AV) (d13:Int) (d14:Nat) (d15:List AV) (d16:Nat) (d17:List AV) (d18:Nat) (d19:List AV) (d20:Int) (d21:List (AV × AV × Nat)) (d22 d23:Nat) (d24:List AV) (d25:Nat) (d26:List AV) (d27:Int) (d28:Nat) (d29:List AV) (d30 d31 d32 d33 d34 d35 d36 d37 d38 d39:Int)=>
 cO (S_ (decide (d1<d0)))
 (
 cO (S_ (decide (d1>(0:Int))))
 (
 gO (S_ (decide ((0:Int)<=S_ (IntKind.i64.wrap (d1-(1:Int)))/\S_ (IntKind.i64.wrap (d1-(1:Int)))<(↑d2:Int)/\0<d3.length)))<|
 bO (asFloat .f32 (d3.getD ((S_ (IntKind.i64.wrap (d1-(1:Int)))).toNat*1) AV.top)) fun v20=>
 cO (S_ (ordO .f32 v20 d7==some .lt))
 (
 gO (S_ (decide ((0:Int)<=d1/\d1<(↑d2:Int)/\0<d3.length)))<|
 bO (asFloat .f32 (d3.getD (d1.toNat*1) AV.top)) fun v23=>
 cO (S_ (ordO .f32 v23 d7==some .gt||ordO .f32 v23 d7==some .eq))
 (
 some ([RLeaf.v (AV.int .i64 (S_ (if d1<(0:Int) then (0:Int) else d1))),RLeaf.v (AV.int .i64 (S_ (if d1<(0:Int) then (7:Int) else (0:Int))))]))
 (
 r_16 d0 (S_ (IntKind.i64.wrap (d1+(1:Int)))) d2 d3 d4 d5 d6 d7 d8 d9 d10 d11 d12 d13 d14 d15 d16 d17 d18 d19 d20 d21 d22 d23 d24 d25 d26 d27 d28 d29 d30 d31 d32 d33 d34 d35 d36 d37 d38 d39))
 (
 r_16 d0 (S_ (IntKind.i64.wrap (d1+(1:Int)))) d2 d3 d4 d5 d6 d7 d8 d9 d10 d11 d12 d13 d14 d15 d16 d17 d18 d19 d20 d21 d22 d23 d24 d25 d26 d27 d28 d29 d30 d31 d32 d33 d34 d35 d36 d37 d38 d39))
 (
 r_16 d0 (S_ (IntKind.i64.wrap (d1+(1:Int)))) d2 d3 d4 d5 d6 d7 d8 d9 d10 d11 d12 d13 d14 d15 d16 d17 d18 d19 d20 d21 d22 d23 d24 d25 d26 d27 d28 d29 d30 d31 d32 d33 d34 d35 d36 d37 d38 d39))
 (
 r_5 (S_ (if S_ (IntKind.i64.wrap (b0+b3))<b35 then S_ (IntKind.i64.wrap (b0+b3)) else b35)) d2 d3 d4 d5 d6 d7 d8 d9 d10 d11 d12 d13 d14 d15 d16 d17 d18 d19 d20 d21 d22 d23 d24 d25 d26 d27 d28 d29 d30 d31 d32 d33 d34 d35))
 (fun _ _ _ _ _ _ _ _ _ _ _ _ _ _ _ _ _ _ _ _ _ _ _ _ _ _ _ _ _ _ _ _ _ _ _ _ _ _ _ _=>none) y0_15 y1_15 y2_15 y3_15 y4_15 y5_15 y6_15 y7_15 y8_15 y9_15 y10_15 y11_15 y12_15 y13_15 y14_15 y15_15 y16_15 y17_15 y18_15 y19_15 y20_15 y21_15 y22_15 y23_15 y24_15 y25_15 y26_15 y27_15 y28_15 y29_15 y30_15 y31_15 y32_15 y33_15 y34_15 y35_15 y36_15 y37_15 y38_15 y39_15),PUnit.unit) fun k_15=>
 cO (S_ (decide (y38_13>=(0:Int))))
 (
 gO (S_ (decide ((0:Int)<=y38_13)))<|
 k_15.1 y0_13 (S_ (IntKind.i64.wrap (S_ (IntKind.i64.wrap (y39_13*y30_13))*(2:Int) ^ Min.min y38_13.toNat 64))) y2_13 y3_13 y4_13 y5_13 y6_13 y7_13 y8_13 y9_13 y10_13 y11_13 y12_13 y13_13 y14_13 y15_13 y16_13 y17_13 y18_13 y19_13 y20_13 y21_13 y22_13 y23_13 y24_13 y25_13 y26_13 y27_13 y28_13 y29_13 y30_13 y31_13 y32_13 y33_13 y34_13 y35_13 y36_13 y37_13 y38_13 y39_13)
 (
 k_15.1 y0_13 y39_13 y2_13 y3_13 y4_13 y5_13 y6_13 y7_13 y8_13 y9_13 y10_13 y11_13 y12_13 y13_13 y14_13 y15_13 y16_13 y17_13 y18_13 y19_13 y20_13 y21_13 y22_13 y23_13 y24_13 y25_13 y26_13 y27_13 y28_13 y29_13 y30_13 y31_13 y32_13 y33_13 y34_13 y35_13 y36_13 y37_13 y38_13 y39_13))),PUnit.unit) fun k_13=>
 cO (S_ (decide (b2<(0:Int))))
 (
 gO (S_ (decide ((0:Int)<=S_ (IntKind.i64.wrap (b0.tdiv b3))/\S_ (IntKind.i64.wrap (b0.tdiv b3))<(↑b30:Int)/\0<b31.length)))<|
 bO (asFloat .f32 (b31.getD ((S_ (IntKind.i64.wrap (b0.tdiv b3))).toNat*1) AV.top)) fun v16=>
 gO (S_ (decide (b2=b2)))<|
 gO (S_ (decide (S_ (IntKind.i64.wrap (b0.tdiv b3))=S_ (IntKind.i64.wrap (b0.tdiv b3)))))<|
 gO (S_ (decide (b30=b30/\b31=b31)))<|
 gO (S_ (decide (b32=b32)))<|
 k_13.1 (S_ (if S_ (IntKind.i64.wrap (b0+b3))<b35 then S_ (IntKind.i64.wrap (b0+b3)) else b35)) (!S_ (ordO .f32 (S_ (clean1 v16)) b9==some .gt||ordO .f32 (S_ (clean1 v16)) b9==some .eq)) b4 b5 b6 b7 b8 b9 b10 b11 b12 b13 b14 b15 b16 b17 b18 b19 b20 b21 b22 b23 b24 b25 b26 b27 b28 b29 b30 b31 b32 b33 b34 b35 b36 b37 b2 (S_ (IntKind.i64.wrap (b0.tdiv b3))) b2 (S_ (IntKind.i64.wrap (b0.tdiv b3))))
 (
 bO (mlook Tryz.prog 130 62 (AV.agg [AV.int .i64 b2,AV.int .i64 (S_ (IntKind.i64.wrap (b0.tdiv b3)))]) b23) fun v15=>
 bO (asAgg v15.snd) fun v16=>
 gO (S_ (decide (v16.length=2)))<|
 bO (asFloat .f32 (v16.getD 0 AV.top)) fun v18=>
 bO (asFloat .f32 (v16.tail.getD 0 AV.top)) fun v19=>
 gO (S_ (decide (b2=b2)))<|
 gO (S_ (decide (S_ (IntKind.i64.wrap (b0.tdiv b3))=S_ (IntKind.i64.wrap (b0.tdiv b3)))))<|
 gO (S_ (decide (b30=b30/\b31=b31)))<|
 gO (S_ (decide (b32=b32)))<|
 k_13.1 (S_ (if S_ (IntKind.i64.wrap (b0+b3))<b35 then S_ (IntKind.i64.wrap (b0+b3)) else b35)) (!S_ (ordO .f32 v19 b9==some .gt||ordO .f32 v19 b9==some .eq)) b4 b5 b6 b7 b8 b9 b10 b11 b12 b13 b14 b15 b16 b17 b18 b19 b20 b21 b22 b23 b24 b25 b26 b27 b28 b29 b30 b31 b32 b33 b34 b35 b36 b37 b2 (S_ (IntKind.i64.wrap (b0.tdiv b3))) b2 (S_ (IntKind.i64.wrap (b0.tdiv b3)))))
 (
 r_7 b0 (S_ (if S_ (IntKind.i64.wrap (b0+b3))<b35 then S_ (IntKind.i64.wrap (b0+b3)) else b35)) (S_ (IntKind.i64.wrap (b2+(1:Int)))) (S_ (IntKind.i64.wrap ((2:Int)*b3))) b4 b5 b6 b7 b8 b9 b10 b11 b12 b13 b14 b15 b16 b17 b18 b19 b20 b21 b22 b23 b24 b25 b26 b27 b28 b29 b30 b31 b32 b33 b34 b35 b36 b37 b2 (S_ (IntKind.i64.wrap (b0.tdiv b3)))))
 (
 joinC N (
 (fun (y0_11:Int) (y1_11:Bool) (y2_11:Nat) (y3_11:List AV) (y4_11:Int) (y5_11:Nat) (y6_11:List AV) (y7_11:Option Nat) (y8_11:Int) (y9_11:Nat) (y10_11:List AV) (y11_11:Nat) (y12_11:List AV) (y13_11:Int) (y14_11:Nat) (y15_11:List AV) (y16_11:Nat) (y17_11:List AV) (y18_11:Nat) (y19_11:List AV) (y20_11:Int) (y21_11:List (AV × AV × Nat)) (y22_11 y23_11:Nat) (y24_11:List AV) (y25_11:Nat) (y26_11:List AV) (y27_11:Int) (y28_11:Nat) (y29_11:List AV) (y30_11 y31_11 y32_11 y33_11 y34_11 y35_11 y36_11 y37_11 y38_11 y39_11:Int)=>
 cO y1_11
 (
 r_5 b1 y2_11 y3_11 y4_11 y5_11 y6_11 y7_11 y8_11 y9_11 y10_11 y11_11 y12_11 y13_11 y14_11 y15_11 y16_11 y17_11 y18_11 y19_11 y20_11 y21_11 y22_11 y23_11 y24_11 y25_11 y26_11 y27_11 y28_11 y29_11 y30_11 y31_11 y32_11 y33_11 y34_11 y35_11)
 (
 joinC N (
 (fun (y0_13 y1_13:Int) (y2_13:Nat) (y3_13:List AV) (y4_13:Int) (y5_13:Nat) (y6_13:List AV) (y7_13:Option Nat) (y8_13:Int) (y9_13:Nat) (y10_13:List AV) (y11_13:Nat) (y12_13:List AV) (y13_13:Int) (y14_13:Nat) (y15_13:List AV) (y16_13:Nat) (y17_13:List AV) (y18_13:Nat) (y19_13:List AV) (y20_13:Int) (y21_13:List (AV × AV × Nat)) (y22_13 y23_13:Nat) (y24_13:List AV) (y25_13:Nat) (y26_13:List AV) (y27_13:Int) (y28_13:Nat) (y29_13:List AV) (y30_13 y31_13 y32_13 y33_13 y34_13 y35_13 y36_13 y37_13 y38_13 y39_13:Int)=>
 loopC N (fun r_14 (e0 e1:Int) (e2:Nat) (e3:List AV) (e4:Int) (e5:Nat) (e6:List AV) (e7:Option Nat) (e8:Int) (e9:Nat) (e10:List AV) (e11:Nat) (e12:List AV) (e13:Int) (e14:Nat) (e15:List AV) (e16:Nat) (e17:List AV) (e18:Nat) (e19:List AV) (e20:Int) (e21:List (AV × AV × Nat)) (e22 e23:Nat) (e24:List AV) (e25:Nat) (e26:List AV) (e27:Int) (e28:Nat) (e29:List AV) (e30 e31 e32 e33 e34 e35 e36 e37 e38 e39:Int)=>
 cO (S_ (decide (e1<e0)))
 (
 cO (S_ (decide (e1>(0:Int))))
 (
 gO (S_ (decide ((0:Int)<=S_ (IntKind.i64.wrap (e1-(1:Int)))/\S_ (IntKind.i64.wrap (e1-(1:Int)))<(↑e2:Int)/\0<e3.length)))<|
 bO (asFloat .f32 (e3.getD ((S_ (IntKind.i64.wrap (e1-(1:Int)))).toNat*1) AV.top)) fun v18=>
 cO (S_ (ordO .f32 v18 e7==some .lt))
 (
 gO (S_ (decide ((0:Int)<=e1/\e1<(↑e2:Int)/\0<e3.length)))<|
 bO (asFloat .f32 (e3.getD (e1.toNat*1) AV.top)) fun v21=>
 cO (S_ (ordO .f32 v21 e7==some .gt||ordO .f32 v21 e7==some .eq))
 (
 some ([RLeaf.v (AV.int .i64 (S_ (if e1<(0:Int) then (0:Int) else e1))),RLeaf.v (AV.int .i64 (S_ (if e1<(0:Int) then (7:Int) else (0:Int))))]))
 (
 r_14 e0 (S_ (IntKind.i64.wrap (e1+(1:Int)))) e2 e3 e4 e5 e6 e7 e8 e9 e10 e11 e12 e13 e14 e15 e16 e17 e18 e19 e20 e21 e22 e23 e24 e25 e26 e27 e28 e29 e30 e31 e32 e33 e34 e35 e36 e37 e38 e39))
 (
 r_14 e0 (S_ (IntKind.i64.wrap (e1+(1:Int)))) e2 e3 e4 e5 e6 e7 e8 e9 e10 e11 e12 e13 e14 e15 e16 e17 e18 e19 e20 e21 e22 e23 e24 e25 e26 e27 e28 e29 e30 e31 e32 e33 e34 e35 e36 e37 e38 e39))
 (
 r_14 e0 (S_ (IntKind.i64.wrap (e1+(1:Int)))) e2 e3 e4 e5 e6 e7 e8 e9 e10 e11 e12 e13 e14 e15 e16 e17 e18 e19 e20 e21 e22 e23 e24 e25 e26 e27 e28 e29 e30 e31 e32 e33 e34 e35 e36 e37 e38 e39))
 (
 r_5 b1 e2 e3 e4 e5 e6 e7 e8 e9 e10 e11 e12 e13 e14 e15 e16 e17 e18 e19 e20 e21 e22 e23 e24 e25 e26 e27 e28 e29 e30 e31 e32 e33 e34 e35))
 (fun _ _ _ _ _ _ _ _ _ _ _ _ _ _ _ _ _ _ _ _ _ _ _ _ _ _ _ _ _ _ _ _ _ _ _ _ _ _ _ _=>none) y0_13 y1_13 y2_13 y3_13 y4_13 y5_13 y6_13 y7_13 y8_13 y9_13 y10_13 y11_13 y12_13 y13_13 y14_13 y15_13 y16_13 y17_13 y18_13 y19_13 y20_13 y21_13 y22_13 y23_13 y24_13 y25_13 y26_13 y27_13 y28_13 y29_13 y30_13 y31_13 y32_13 y33_13 y34_13 y35_13 y36_13 y37_13 y38_13 y39_13),PUnit.unit) fun k_13=>
 cO (S_ (decide (y38_11>=(0:Int))))
 (
 gO (S_ (decide ((0:Int)<=y38_11)))<|
 k_13.1 y0_11 (S_ (IntKind.i64.wrap (S_ (IntKind.i64.wrap (y39_11*y30_11))*(2:Int) ^ Min.min y38_11.toNat 64))) y2_11 y3_11 y4_11 y5_11 y6_11 y7_11 y8_11 y9_11 y10_11 y11_11 y12_11 y13_11 y14_11 y15_11 y16_11 y17_11 y18_11 y19_11 y20_11 y21_11 y22_11 y23_11 y24_11 y25_11 y26_11 y27_11 y28_11 y29_11 y30_11 y31_11 y32_11 y33_11 y34_11 y35_11 y36_11 y37_11 y38_11 y39_11)
 (
 k_13.1 y0_11 y39_11 y2_11 y3_11 y4_11 y5_11 y6_11 y7_11 y8_11 y9_11 y10_11 y11_11 y12_11 y13_11 y14_11 y15_11 y16_11 y17_11 y18_11 y19_11 y20_11 y21_11 y22_11 y23_11 y24_11 y25_11 y26_11 y27_11 y28_11 y29_11 y30_11 y31_11 y32_11 y33_11 y34_11 y35_11 y36_11 y37_11 y38_11 y39_11))),PUnit.unit) fun k_11=>
 cO (S_ (decide (b38<(0:Int))))
 (
 gO (S_ (decide ((0:Int)<=b39/\b39<(↑b30:Int)/\0<b31.length)))<|
 bO (asFloat .f32 (b31.getD (b39.toNat*1) AV.top)) fun v14=>
 gO (S_ (decide (b38=b38)))<|
 gO (S_ (decide (b39=b39)))<|
 gO (S_ (decide (b30=b30/\b31=b31)))<|
 gO (S_ (decide (b32=b32)))<|
 k_11.1 b1 (!S_ (ordO .f32 (S_ (clean1 v14)) b9==some .gt||ordO .f32 (S_ (clean1 v14)) b9==some .eq)) b4 b5 b6 b7 b8 b9 b10 b11 b12 b13 b14 b15 b16 b17 b18 b19 b20 b21 b22 b23 b24 b25 b26 b27 b28 b29 b30 b31 b32 b33 b34 b35 b36 b37 b38 b39 b38 b39)
 (
 bO (mlook Tryz.prog 130 62 (AV.agg [AV.int .i64 b38,AV.int .i64 b39]) b23) fun v13=>
 bO (asAgg v13.snd) fun v14=>
 gO (S_ (decide (v14.length=2)))<|
 bO (asFloat .f32 (v14.getD 0 AV.top)) fun v16=>
 bO (asFloat .f32 (v14.tail.getD 0 AV.top)) fun v17=>
 gO (S_ (decide (b38=b38)))<|
 gO (S_ (decide (b39=b39)))<|
 gO (S_ (decide (b30=b30/\b31=b31)))<|
 gO (S_ (decide (b32=b32)))<|
 k_11.1 b1 (!S_ (ordO .f32 v17 b9==some .gt||ordO .f32 v17 b9==some .eq)) b4 b5 b6 b7 b8 b9 b10 b11 b12 b13 b14 b15 b16 b17 b18 b19 b20 b21 b22 b23 b24 b25 b26 b27 b28 b29 b30 b31 b32 b33 b34 b35 b36 b37 b38 b39 b38 b39)))
 (fun _ _ _ _ _ _ _ _ _ _ _ _ _ _ _ _ _ _ _ _ _ _ _ _ _ _ _ _ _ _ _ _ _ _ _ _ _ _ _ _=>none) c0 (S_ (IntKind.i64.wrap (c0+(1:Int)))) ((0:Int)) c31 c1 c2 c3 c4 c5 c6 c7 c8 c9 c10 c11 c12 c13 c14 c15 c16 c17 c18 c19 c20 c21 c22 c23 c24 c25 c26 c27 c28 c29 c30 c31 c32 c33 c34 ((-1:Int)) c0)
 (
 some ([RLeaf.v (AV.int .i64 (S_ (if c30<(0:Int) then (0:Int) else c30))),RLeaf.v (AV.int .i64 (S_ (if c30<(0:Int) then (7:Int) else (0:Int))))])))
 (fun _ _ _ _ _ _ _ _ _ _ _ _ _ _ _ _ _ _ _ _ _ _ _ _ _ _ _ _ _ _ _ _ _ _ _=>none) f a4 a5 a6 a7 a8 a9 a10 a11 a12 a13 a14 a15 a16 a17 a18 a19 a25 a26 a27 a21 a22 a23 a24 a25 a26 a27 a25 a26 a27 ((-1:Int)) a27 ((↑a25:Int)) f ((↑a25:Int))))
 (fun _ _ _ _ _ _ _ _ _ _ _ _ _ _ _ _ _ _ _ _ _ _ _ _ _ _ _ _=>none) m ls ((↑m:Int)) ((0:Int)) n cs b m ls o b m ls 3 (putCells (putCells (putCells (zrow (ofV (Go.Value.int IntKind.i64 (0:Int))).cells 3) 0 [AV.int .i64 (S_ (chkT n (fO cs) b m ls))]) 1 [AV.int .i64 (S_ (if f<(0:Int)\/f>(↑n:Int) then (3:Int) else (0:Int)))]) 2 [AV.int .i64 (S_ (if (!S_ (finB o))=true then (1:Int) else (0:Int)))]) b m ls 0 ([]) ((0:Int)) ([]) 0 0 ([]) n cs b)):=by kernel_rfl
end Go.Abs
end
