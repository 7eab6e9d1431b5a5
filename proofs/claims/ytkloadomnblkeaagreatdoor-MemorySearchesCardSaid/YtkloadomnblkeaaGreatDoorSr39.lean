/- Part 39 of the library that the proof of the statement uses: an abstract run of the program, proved right, and what its functions give. -/
import Derived.Test.YtkloadomnblkeaaGreatDoorSr33
import Derived.Test.YtkloadomnblkeaaGreatDoorSr35
set_option linter.unusedVariables false
set_option linter.unusedSimpArgs false

set_option maxRecDepth 100000
noncomputable section
namespace Go.Abs
open Go.Proofs Classical
theorem run_47 (N n:Nat) (cs:List AV) (b:Int) (m:Nat) (ls:List AV):(fsM mzO waysR N 12).call (List RLeaf) 47 [.ofB (.list n cs),.s (.agg [.b (.int .i64 b),.b (.list m ls)])] [] (resK [false,false])=(
 gO (S_ (decide (Flos n cs/\Lvs m ls)))<|
 gO (S_ (decide (Ints 2 (putCells (putCells (zrow (ofV (Go.Value.int IntKind.i64 (0:Int))).cells 2) 0 [AV.int .i64 (S_ (chkT n (fO cs) b m ls))]) 1 [AV.int .i64 (S_ (if S_ ((↑n:Int)==(0:Int))=true then (12:Int) else (0:Int)))]))))<|
 cO (S_ (S_ (firstNZ (intsOf (putCells (putCells (zrow (ofV (Go.Value.int IntKind.i64 (0:Int))).cells 2) 0 [AV.int .i64 (S_ (chkT n (fO cs) b m ls))]) 1 [AV.int .i64 (S_ (if S_ ((↑n:Int)==(0:Int))=true then (12:Int) else (0:Int)))]))) != (0:Int)))
 (
 some ([RLeaf.v (AV.int .i64 (0:Int)),RLeaf.v (AV.int .i64 (S_ (firstNZ (intsOf (putCells (putCells (zrow (ofV (Go.Value.int IntKind.i64 (0:Int))).cells 2) 0 [AV.int .i64 (S_ (chkT n (fO cs) b m ls))]) 1 [AV.int .i64 (S_ (if S_ ((↑n:Int)==(0:Int))=true then (12:Int) else (0:Int)))])))))]))
 (
 loopC N (fun r_3 (a0:Nat) (a1:List AV) (a2 a3:Int) (a4:Nat) (a5:List AV) (a6:Int) (a7:Nat) (a8:List AV) (a9:Nat) (a10:List AV) (a11:Int) (a12:Nat) (a13:List AV) (a14:Nat) (a15:List AV) (a16:Int) (a17:List (AV × AV × Nat)) (a18 a19:Nat) (a20:List AV) (a21:Nat) (a22:List AV) (a23:Int)=>
 cO (S_ (decide (a3<a2)))
 (
 gO (S_ (decide ((0:Int)<=a3/\a3<(↑a0:Int)/\0<a1.length)))<|
 bO (asList (a1.getD (a3.toNat*1) AV.top)) fun v6=>
 loopC N (fun r_7 (b0:Int) (b1:Nat) (b2:List AV) (b3 b4:Int) (b5:Nat) (b6:List AV) (b7 b8:Int) (b9:Nat) (b10:List AV) (b11:Int) (b12:Nat) (b13:List AV) (b14:Nat) (b15:List AV) (b16:Int) (b17:Nat) (b18:List AV) (b19:Nat) (b20:List AV) (b21:Int) (b22:List (AV × AV × Nat)) (b23 b24:Nat) (b25:List AV) (b26:Nat) (b27:List AV) (b28:Int)=>
 cO (S_ (decide (b8<b7)))
 (
 gO (S_ (decide ((0:Int)<=b8/\b8<(↑b5:Int)/\0<b6.length)))<|
 gO (S_ (decide (b8.toNat*2+2<=b6.length)))<|
 bO (asFloat .f32 (b6.getD (b8.toNat*2) AV.top)) fun v11=>
 bO (asFloat .f32 (b6.getD (b8.toNat*2+1) AV.top)) fun v12=>
 gO (S_ (decide (finB (S_ (clean1 v11))=true/\finB (S_ (clean1 v11))=true/\finB (S_ (clean1 v12))=true/\finB (S_ (clean1 v12))=true)))<|
 bO (mput Tryz.prog 130 (AV.agg [AV.int .i64 b0,AV.int .i64 b8]) (AV.agg [AV.flo .f32 (S_ (minO (S_ (clean1 v11)) (S_ (clean1 v12)))),AV.flo .f32 (S_ (maxO (S_ (clean1 v11)) (S_ (clean1 v12))))]) b22 b23) fun v14=>
 r_7 b0 b1 b2 b3 b4 b5 b6 b7 (S_ (IntKind.i64.wrap (b8+(1:Int)))) b9 b10 b11 b12 b13 b14 b15 b16 b17 b18 b19 b20 b21 (v14.fst) (v14.snd) b24 b25 b26 b27 b28)
 (
 r_3 b1 b2 b3 (S_ (IntKind.i64.wrap (b4+(1:Int)))) b9 b10 b11 b12 b13 b14 b15 b16 b17 b18 b19 b20 b21 b22 b23 b24 b25 b26 b27 b28))
 (fun _ _ _ _ _ _ _ _ _ _ _ _ _ _ _ _ _ _ _ _ _ _ _ _ _ _ _ _ _=>none) a3 a0 a1 a2 a3 (v6.fst) (v6.snd) ((↑v6.fst:Int)) ((0:Int)) a4 a5 a6 a7 a8 a9 a10 a11 a12 a13 a14 a15 a16 a17 a18 a19 a20 a21 a22 a23)
 (
 gO (S_ (decide ((0:Int)<=(0:Int)/\(0:Int)<(↑a21:Int)/\0<a22.length)))<|
 bO (asFloat .f32 (a22.getD 0 AV.top)) fun v6=>
 loopC N (fun r_7 (b0:Int) (b1:Nat) (b2:List AV) (b3:Int) (b4:Nat) (b5:List AV) (b6:Nat) (b7:List AV) (b8:Int) (b9:Nat) (b10:List AV) (b11:Nat) (b12:List AV) (b13:Nat) (b14:List AV) (b15:Int) (b16:List (AV × AV × Nat)) (b17 b18:Nat) (b19:List AV) (b20:Nat) (b21:List AV) (b22:Int) (b23:Nat) (b24:List AV) (b25:Nat) (b26:List AV) (b27:Int) (b28:Nat) (b29:List AV) (b30:Int) (b31 b32 b33 b34:Option Nat) (b35 b36 b37 b38:Int)=>
 cO (S_ (decide (b0<b38)))
 (
 loopC N (fun r_9 (c0 c1 c2 c3:Int) (c4:Nat) (c5:List AV) (c6:Int) (c7:Nat) (c8:List AV) (c9:Nat) (c10:List AV) (c11:Int) (c12:Nat) (c13:List AV) (c14:Nat) (c15:List AV) (c16:Nat) (c17:List AV) (c18:Int) (c19:List (AV × AV × Nat)) (c20 c21:Nat) (c22:List AV) (c23:Nat) (c24:List AV) (c25:Int) (c26:Nat) (c27:List AV) (c28:Nat) (c29:List AV) (c30:Int) (c31:Nat) (c32:List AV) (c33:Int) (c34 c35 c36 c37:Option Nat) (c38 c39 c40 c41 c42 c43:Int)=>
 gO (S_ (decide (c3≠(0:Int))))<|
 bO (
 cO (S_ (S_ (c0.tmod c3)==(0:Int)))
 (
 some (S_ (decide (S_ (if S_ (IntKind.i64.wrap (c0+c3))<c39 then S_ (IntKind.i64.wrap (c0+c3)) else c39)<=c41))))
 (
 some false)) fun v11=>
 cO v11
 (
 gO (S_ (decide (c3≠(0:Int))))<|
 cO (S_ (decide (c3>=c39)))
 (
 cO (S_ (decide (c2<(0:Int))))
 (
 gO (S_ (decide ((0:Int)<=S_ (IntKind.i64.wrap (c0.tdiv c3))/\S_ (IntKind.i64.wrap (c0.tdiv c3))<(↑c31:Int)/\0<c32.length)))<|
 bO (asFloat .f32 (c32.getD ((S_ (IntKind.i64.wrap (c0.tdiv c3))).toNat*1) AV.top)) fun v17=>
 gO (S_ (decide (c2=c2)))<|
 gO (S_ (decide (S_ (IntKind.i64.wrap (c0.tdiv c3))=S_ (IntKind.i64.wrap (c0.tdiv c3)))))<|
 gO (S_ (decide (c31=c31/\c32=c32)))<|
 gO (S_ (decide (c33=c33)))<|
 gO (S_ (decide (c36=c36)))<|
 gO (S_ (decide (c37=c37)))<|
 gO (S_ (decide (finB c36=true/\finB c37=true/\finB (S_ (clean1 v17))=true/\finB (S_ (clean1 v17))=true)))<|
 r_7 (S_ (if S_ (IntKind.i64.wrap (c0+c3))<c39 then S_ (IntKind.i64.wrap (c0+c3)) else c39)) c4 c5 c6 c7 c8 c9 c10 c11 c12 c13 c14 c15 c16 c17 c18 c19 c20 c21 c22 c23 c24 c25 c26 c27 c28 c29 c30 c31 c32 c33 c34 c35 (S_ (minO c36 (S_ (clean1 v17)))) (S_ (maxO c37 (S_ (clean1 v17)))) c38 c39 c40 c41)
 (
 bO (mlook Tryz.prog 130 62 (AV.agg [AV.int .i64 c2,AV.int .i64 (S_ (IntKind.i64.wrap (c0.tdiv c3)))]) c19) fun v16=>
 bO (asAgg v16.snd) fun v17=>
 gO (S_ (decide (v17.length=2)))<|
 bO (asFloat .f32 (v17.getD 0 AV.top)) fun v19=>
 bO (asFloat .f32 (v17.tail.getD 0 AV.top)) fun v20=>
 gO (S_ (decide (c2=c2)))<|
 gO (S_ (decide (S_ (IntKind.i64.wrap (c0.tdiv c3))=S_ (IntKind.i64.wrap (c0.tdiv c3)))))<|
 gO (S_ (decide (c31=c31/\c32=c32)))<|
 gO (S_ (decide (c33=c33)))<|
 gO (S_ (decide (c36=c36)))<|
 gO (S_ (decide (c37=c37)))<|
 gO (S_ (decide (finB c36=true/\finB c37=true/\finB v19=true/\finB v20=true)))<|
 r_7 (S_ (if S_ (IntKind.i64.wrap (c0+c3))<c39 then S_ (IntKind.i64.wrap (c0+c3)) else c39)) c4 c5 c6 c7 c8 c9 c10 c11 c12 c13 c14 c15 c16 c17 c18 c19 c20 c21 c22 c23 c24 c25 c26 c27 c28 c29 c30 c31 c32 c33 c34 c35 (S_ (minO c36 v19)) (S_ (maxO c37 v20)) c38 c39 c40 c41))
 (
 r_9 c0 (S_ (if S_ (IntKind.i64.wrap (c0+c3))<c39 then S_ (IntKind.i64.wrap (c0+c3)) else c39)) (S_ (IntKind.i64.wrap (c2+(1:Int)))) (S_ (IntKind.i64.wrap ((2:Int)*c3))) c4 c5 c6 c7 c8 c9 c10 c11 c12 c13 c14 c15 c16 c17 c18 c19 c20 c21 c22 c23 c24 c25 c26 c27 c28 c29 c30 c31 c32 c33 c34 c35 c36 c37 c38 c39 c40 c41 c2 (S_ (IntKind.i64.wrap (c0.tdiv c3)))))
 (
 cO (S_ (decide (c42<(0:Int))))
 (
 gO (S_ (decide ((0:Int)<=c43/\c43<(↑c31:Int)/\0<c32.length)))<|
 bO (asFloat .f32 (c32.getD (c43.toNat*1) AV.top)) fun v15=>
 gO (S_ (decide (c42=c42)))<|
 gO (S_ (decide (c43=c43)))<|
 gO (S_ (decide (c31=c31/\c32=c32)))<|
 gO (S_ (decide (c33=c33)))<|
 gO (S_ (decide (c36=c36)))<|
 gO (S_ (decide (c37=c37)))<|
 gO (S_ (decide (finB c36=true/\finB c37=true/\finB (S_ (clean1 v15))=true/\finB (S_ (clean1 v15))=true)))<|
 r_7 c1 c4 c5 c6 c7 c8 c9 c10 c11 c12 c13 c14 c15 c16 c17 c18 c19 c20 c21 c22 c23 c24 c25 c26 c27 c28 c29 c30 c31 c32 c33 c34 c35 (S_ (minO c36 (S_ (clean1 v15)))) (S_ (maxO c37 (S_ (clean1 v15)))) c38 c39 c40 c41)
 (
 bO (mlook Tryz.prog 130 62 (AV.agg [AV.int .i64 c42,AV.int .i64 c43]) c19) fun v14=>
 bO (asAgg v14.snd) fun v15=>
 gO (S_ (decide (v15.length=2)))<|
 bO (asFloat .f32 (v15.getD 0 AV.top)) fun v17=>
 bO (asFloat .f32 (v15.tail.getD 0 AV.top)) fun v18=>
 gO (S_ (decide (c42=c42)))<|
 gO (S_ (decide (c43=c43)))<|
 gO (S_ (decide (c31=c31/\c32=c32)))<|
 gO (S_ (decide (c33=c33)))<|
 gO (S_ (decide (c36=c36)))<|
 gO (S_ (decide (c37=c37)))<|
 gO (S_ (decide (finB c36=true/\finB c37=true/\finB v17=true/\finB v18=true)))<|
 r_7 c1 c4 c5 c6 c7 c8 c9 c10 c11 c12 c13 c14 c15 c16 c17 c18 c19 c20 c21 c22 c23 c24 c25 c26 c27 c28 c29 c30 c31 c32 c33 c34 c35 (S_ (minO c36 v17)) (S_ (maxO c37 v18)) c38 c39 c40 c41)))
 (fun _ _ _ _ _ _ _ _ _ _ _ _ _ _ _ _ _ _ _ _ _ _ _ _ _ _ _ _ _ _ _ _ _ _ _ _ _ _ _ _ _ _ _ _=>none) b0 (S_ (IntKind.i64.wrap (b0+(1:Int)))) ((0:Int)) b35 b1 b2 b3 b4 b5 b6 b7 b8 b9 b10 b11 b12 b13 b14 b15 b16 b17 b18 b19 b20 b21 b22 b23 b24 b25 b26 b27 b28 b29 b30 b31 b32 b33 b34 b35 b36 b37 b38 ((-1:Int)) b0)
 (
 loopC N (fun r_9 (c0:Int) (c1:Nat) (c2:List AV) (c3:Int) (c4:Nat) (c5:List AV) (c6:Nat) (c7:List AV) (c8:Int) (c9:Nat) (c10:List AV) (c11:Nat) (c12:List AV) (c13:Nat) (c14:List AV) (c15:Int) (c16:List (AV × AV × Nat)) (c17 c18:Nat) (c19:List AV) (c20:Nat) (c21:List AV) (c22:Int) (c23:Nat) (c24:List AV) (c25:Nat) (c26:List AV) (c27:Int) (c28:Nat) (c29:List AV) (c30:Int) (c31 c32 c33 c34:Option Nat) (c35 c36 c37 c38:Int) (c39:Option Nat) (c40:Nat) (c41:List AV) (c42 c43 c44 c45 c46 c47:Int)=>
 cO (S_ (decide (c0<c47)))
 (
 loopC N (fun r_11 (d0 d1 d2 d3:Int) (d4:Nat) (d5:List AV) (d6:Int) (d7:Nat) (d8:List AV) (d9:Nat) (d10:List AV) (d11:Int) (d12:Nat) (d13:List AV) (d14:Nat) (d15:List AV) (d16:Nat) (d17:List AV) (d18:Int) (d19:List (AV × AV × Nat)) (d20 d21:Nat) (d22:List AV) (d23:Nat) (d24:List AV) (d25:Int) (d26:Nat) (d27:List AV) (d28:Nat) (d29:List AV) (d30:Int) (d31:Nat) (d32:List AV) (d33:Int) (d34 d35 d36 d37:Option Nat) (d38 d39 d40 d41:Int) (d42:Option Nat) (d43:Nat) (d44:List AV) (d45 d46 d47 d48 d49 d50 d51 d52:Int)=>
 gO (S_ (decide (d3≠(0:Int))))<|
 bO (
 cO (S_ (S_ (d0.tmod d3)==(0:Int)))
 (
 some (S_ (decide (S_ (if S_ (IntKind.i64.wrap (d0+d3))<d48 then S_ (IntKind.i64.wrap (d0+d3)) else d48)<=d50))))
 (
 some false)) fun v13=>
 cO v13
 (
 gO (S_ (decide (d3≠(0:Int))))<|
 cO (S_ (decide (d3>=d48)))
 (
 joinC N (
 (fun (y0_17:Int) (y1_17:Bool) (y2_17:Nat) (y3_17:List AV) (y4_17:Int) (y5_17:Nat) (y6_17:List AV) (y7_17:Nat) (y8_17:List AV) (y9_17:Int) (y10_17:Nat) (y11_17:List AV) (y12_17:Nat) (y13_17:List AV) (y14_17:Nat) (y15_17:List AV) (y16_17:Int) (y17_17:List (AV × AV × Nat)) (y18_17 y19_17:Nat) (y20_17:List AV) (y21_17:Nat) (y22_17:List AV) (y23_17:Int) (y24_17:Nat) (y25_17:List AV) (y26_17:Nat) (y27_17:List AV) (y28_17:Int) (y29_17:Nat) (y30_17:List AV) (y31_17:Int) (y32_17 y33_17 y34_17 y35_17:Option Nat) (y36_17 y37_17 y38_17 y39_17:Int) (y40_17:Option Nat) (y41_17:Nat) (y42_17:List AV) (y43_17 y44_17 y45_17 y46_17 y47_17 y48_17 y49_17 y50_17 y51_17 y52_17:Int)=>
 cO y1_17
 (
 r_9 (S_ (if S_ (IntKind.i64.wrap (d0+d3))<d48 then S_ (IntKind.i64.wrap (d0+d3)) else d48)) y2_17 y3_17 y4_17 y5_17 y6_17 y7_17 y8_17 y9_17 y10_17 y11_17 y12_17 y13_17 y14_17 y15_17 y16_17 y17_17 y18_17 y19_17 y20_17 y21_17 y22_17 y23_17 y24_17 y25_17 y26_17 y27_17 y28_17 y29_17 y30_17 y31_17 y32_17 y33_17 y34_17 y35_17 y36_17 y37_17 y38_17 y39_17 y40_17 y41_17 y42_17 y43_17 y44_17 y45_17 y46_17 y47_17 y48_17)
 (
 joinC N (
 (fun (y0_19 y1_19:Int) (y2_19:Nat) (y3_19:List AV) (y4_19:Int) (y5_19:Nat) (y6_19:List AV) (y7_19:Nat) (y8_19:List AV) (y9_19:Int) (y10_19:Nat) (y11_19:List AV) (y12_19:Nat) (y13_19:List AV) (y14_19:Nat) (y15_19:List AV) (y16_19:Int) (y17_19:List (AV × AV × Nat)) (y18_19 y19_19:Nat) (y20_19:List AV) (y21_19:Nat) (y22_19:List AV) (y23_19:Int) (y24_19:Nat) (y25_19:List AV) (y26_19:Nat) (y27_19:List AV) (y28_19:Int) (y29_19:Nat) (y30_19:List AV) (y31_19:Int) (y32_19 y33_19 y34_19 y35_19:Option Nat) (y36_19 y37_19 y38_19 y39_19:Int) (y40_19:Option Nat) (y41_19:Nat) (y42_19:List AV) (y43_19 y44_19 y45_19 y46_19 y47_19 y48_19 y49_19 y50_19 y51_19 y52_19:Int)=>
 loopC N (fun r_20 (e0 e1:Int) (e2:Nat) (e3:List AV) (e4:Int) (e5:Nat) (e6:List AV) (e7:Nat) (e8:List AV) (e9:Int) (e10:Nat) (e11:List AV) (e12:Nat) (e13:List AV) (e14:Nat) (e15:List AV) (e16:Int) (e17:List (AV × AV × Nat)) (e18 e19:Nat) (e20:List AV) (e21:Nat) (e22:List AV) (e23:Int) (e24:Nat) (e25:List AV) (e26:Nat) (e27:List AV) (e28:Int) (e29:Nat) (e30:List AV) (e31:Int) (e32 e33 e34 e35:Option Nat) (e36 e37 e38 e39:Int) (e40:Option Nat) (e41:Nat) (e42:List AV) (e43 e44 e45 e46 e47 e48 e49 e50 e51 e52:Int)=>
 cO (S_ (decide (e1<e0)))
 (
 gO (S_ (decide ((0:Int)<=e1/\e1<(↑e2:Int)/\0<e3.length)))<|
 bO (asFloat .f32 (e3.getD (e1.toNat*1) AV.top)) fun v23=>
 cO (S_ (ordO .f32 v23 e40==some .eq))
 (
 some ([RLeaf.v (AV.int .i64 (S_ (if e1<(0:Int) then (0:Int) else e1))),RLeaf.v (AV.int .i64 (S_ (if e1<(0:Int) then (7:Int) else (0:Int))))]))
 (
 r_20 e0 (S_ (IntKind.i64.wrap (e1+(1:Int)))) e2 e3 e4 e5 e6 e7 e8 e9 e10 e11 e12 e13 e14 e15 e16 e17 e18 e19 e20 e21 e22 e23 e24 e25 e26 e27 e28 e29 e30 e31 e32 e33 e34 e35 e36 e37 e38 e39 e40 e41 e42 e43 e44 e45 e46 e47 e48 e49 e50 e51 e52))
 (
 r_9 (S_ (if S_ (IntKind.i64.wrap (d0+d3))<d48 then S_ (IntKind.i64.wrap (d0+d3)) else d48)) e2 e3 e4 e5 e6 e7 e8 e9 e10 e11 e12 e13 e14 e15 e16 e17 e18 e19 e20 e21 e22 e23 e24 e25 e26 e27 e28 e29 e30 e31 e32 e33 e34 e35 e36 e37 e38 e39 e40 e41 e42 e43 e44 e45 e46 e47 e48))
 (fun _ _ _ _ _ _ _ _ _ _ _ _ _ _ _ _ _ _ _ _ _ _ _ _ _ _ _ _ _ _ _ _ _ _ _ _ _ _ _ _ _ _ _ _ _ _ _ _ _ _ _ _ _=>none) y0_19 y1_19 y2_19 y3_19 y4_19 y5_19 y6_19 y7_19 y8_19 y9_19 y10_19 y11_19 y12_19 y13_19 y14_19 y15_19 y16_19 y17_19 y18_19 y19_19 y20_19 y21_19 y22_19 y23_19 y24_19 y25_19 y26_19 y27_19 y28_19 y29_19 y30_19 y31_19 y32_19 y33_19 y34_19 y35_19 y36_19 y37_19 y38_19 y39_19 y40_19 y41_19 y42_19 y43_19 y44_19 y45_19 y46_19 y47_19 y48_19 y49_19 y50_19 y51_19 y52_19),PUnit.unit) fun k_19=>
 cO (S_ (decide (y51_17>=(0:Int))))
 (
 gO (S_ (decide ((0:Int)<=y51_17)))<|
 k_19.1 y0_17 (S_ (IntKind.i64.wrap (S_ (IntKind.i64.wrap (y52_17*y43_17))*(2:Int) ^ Min.min y51_17.toNat 64))) y2_17 y3_17 y4_17 y5_17 y6_17 y7_17 y8_17 y9_17 y10_17 y11_17 y12_17 y13_17 y14_17 y15_17 y16_17 y17_17 y18_17 y19_17 y20_17 y21_17 y22_17 y23_17 y24_17 y25_17 y26_17 y27_17 y28_17 y29_17 y30_17 y31_17 y32_17 y33_17 y34_17 y35_17 y36_17 y37_17 y38_17 y39_17 y40_17 y41_17 y42_17 y43_17 y44_17 y45_17 y46_17 y47_17 y48_17 y49_17 y50_17 y51_17 y52_17)
 (
 k_19.1 y0_17 y52_17 y2_17 y3_17 y4_17 y5_17 y6_17 y7_17 y8_17 y9_17 y10_17 y11_17 y12_17 y13_17 y14_17 y15_17 y16_17 y17_17 y18_17 y19_17 y20_17 y21_17 y22_17 y23_17 y24_17 y25_17 y26_17 y27_17 y28_17 y29_17 y30_17 y31_17 y32_17 y33_17 y34_17 y35_17 y36_17 y37_17 y38_17 y39_17 y40_17 y41_17 y42_17 y43_17 y44_17 y45_17 y46_17 y47_17 y48_17 y49_17 y50_17 y51_17 y52_17))),PUnit.unit) fun k_17=>
 cO (S_ (decide (d2<(0:Int))))
 (
 gO (S_ (decide ((0:Int)<=S_ (IntKind.i64.wrap (d0.tdiv d3))/\S_ (IntKind.i64.wrap (d0.tdiv d3))<(↑d43:Int)/\0<d44.length)))<|
 bO (asFloat .f32 (d44.getD ((S_ (IntKind.i64.wrap (d0.tdiv d3))).toNat*1) AV.top)) fun v20=>
 gO (S_ (decide (d2=d2)))<|
 gO (S_ (decide (S_ (IntKind.i64.wrap (d0.tdiv d3))=S_ (IntKind.i64.wrap (d0.tdiv d3)))))<|
 gO (S_ (decide (d43=d43/\d44=d44)))<|
 gO (S_ (decide (d45=d45)))<|
 k_17.1 (S_ (if S_ (IntKind.i64.wrap (d0+d3))<d48 then S_ (IntKind.i64.wrap (d0+d3)) else d48)) (!S_ (ordO .f32 (S_ (clean1 v20)) d42==some .eq)) d4 d5 d6 d7 d8 d9 d10 d11 d12 d13 d14 d15 d16 d17 d18 d19 d20 d21 d22 d23 d24 d25 d26 d27 d28 d29 d30 d31 d32 d33 d34 d35 d36 d37 d38 d39 d40 d41 d42 d43 d44 d45 d46 d47 d48 d49 d50 d2 (S_ (IntKind.i64.wrap (d0.tdiv d3))) d2 (S_ (IntKind.i64.wrap (d0.tdiv d3))))
 (
 bO (mlook Tryz.prog 130 62 (AV.agg [AV.int .i64 d2,AV.int .i64 (S_ (IntKind.i64.wrap (d0.tdiv d3)))]) d19) fun v19=>
 bO (asAgg v19.snd) fun v20=>
 gO (S_ (decide (v20.length=2)))<|
 bO (asFloat .f32 (v20.getD 0 AV.top)) fun v22=>
 bO (asFloat .f32 (v20.tail.getD 0 AV.top)) fun v23=>
 gO (S_ (decide (d2=d2)))<|
 gO (S_ (decide (S_ (IntKind.i64.wrap (d0.tdiv d3))=S_ (IntKind.i64.wrap (d0.tdiv d3)))))<|
 gO (S_ (decide (d43=d43/\d44=d44)))<|
 gO (S_ (decide (d45=d45)))<|
 k_17.1 (S_ (if S_ (IntKind.i64.wrap (d0+d3))<d48 then S_ (IntKind.i64.wrap (d0+d3)) else d48)) (!S_ (ordO .f32 v23 d42==some .eq)) d4 d5 d6 d7 d8 d9 d10 d11 d12 d13 d14 d15 d16 d17 d18 d19 d20 d21 d22 d23 d24 d25 d26 d27 d28 d29 d30 d31 d32 d33 d34 d35 d36 d37 d38 d39 d40 d41 d42 d43 d44 d45 d46 d47 d48 d49 d50 d2 (S_ (IntKind.i64.wrap (d0.tdiv d3))) d2 (S_ (IntKind.i64.wrap (d0.tdiv d3)))))
 (
 r_11 d0 (S_ (if S_ (IntKind.i64.wrap (d0+d3))<d48 then S_ (IntKind.i64.wrap (d0+d3)) else d48)) (S_ (IntKind.i64.wrap (d2+(1:Int)))) (S_ (IntKind.i64.wrap ((2:Int)*d3))) d4 d5 d6 d7 d8 d9 d10 d11 d12 d13 d14 d15 d16 d17 d18 d19 d20 d21 d22 d23 d24 d25 d26 d27 d28 d29 d30 d31 d32 d33 d34 d35 d36 d37 d38 d39 d40 d41 d42 d43 d44 d45 d46 d47 d48 d49 d50 d2 (S_ (IntKind.i64.wrap (d0.tdiv d3)))))
 (
 joinC N (
 (fun (y0_15:Int) (y1_15:Bool) (y2_15:Nat) (y3_15:List AV) (y4_15:Int) (y5_15:Nat) (y6_15:List AV) (y7_15:Nat) (y8_15:List AV) (y9_15:Int) (y10_15:Nat) (y11_15:List AV) (y12_15:Nat) (y13_15:List AV) (y14_15:Nat) (y15_15:List AV) (y16_15:Int) (y17_15:List (AV × AV × Nat)) (y18_15 y19_15:Nat) (y20_15:List AV) (y21_15:Nat) (y22_15:List AV) (y23_15:Int) (y24_15:Nat) (y25_15:List AV) (y26_15:Nat) (y27_15:List AV) (y28_15:Int) (y29_15:Nat) (y30_15:List AV) (y31_15:Int) (y32_15 y33_15 y34_15 y35_15:Option Nat) (y36_15 y37_15 y38_15 y39_15:Int) (y40_15:Option Nat) (y41_15:Nat) (y42_15:List AV) (y43_15 y44_15 y45_15 y46_15 y47_15 y48_15 y49_15 y50_15 y51_15 y52_15:Int)=>
 cO y1_15
 (
 r_9 d1 y2_15 y3_15 y4_15 y5_15 y6_15 y7_15 y8_15 y9_15 y10_15 y11_15 y12_15 y13_15 y14_15 y15_15 y16_15 y17_15 y18_15 y19_15 y20_15 y21_15 y22_15 y23_15 y24_15 y25_15 y26_15 y27_15 y28_15 y29_15 y30_15 y31_15 y32_15 y33_15 y34_15 y35_15 y36_15 y37_15 y38_15 y39_15 y40_15 y41_15 y42_15 y43_15 y44_15 y45_15 y46_15 y47_15 y48_15)
 (
 joinC N (
 (fun (y0_17 y1_17:Int) (y2_17:Nat) (y3_17:List AV) (y4_17:Int) (y5_17:Nat) (y6_17:List AV) (y7_17:Nat) (y8_17:List AV) (y9_17:Int) (y10_17:Nat) (y11_17:List AV) (y12_17:Nat) (y13_17:List AV) (y14_17:Nat) (y15_17:List AV) (y16_17:Int) (y17_17:List (AV × AV × Nat)) (y18_17 y19_17:Nat) (y20_17:List AV) (y21_17:Nat) (y22_17:List AV) (y23_17:Int) (y24_17:Nat) (y25_17:List AV) (y26_17:Nat) (y27_17:List AV) (y28_17:Int) (y29_17:Nat) (y30_17:List AV) (y31_17:Int) (y32_17 y33_17 y34_17 y35_17:Option Nat) (y36_17 y37_17 y38_17 y39_17:Int) (y40_17:Option Nat) (y41_17:Nat) (y42_17:List AV) (y43_17 y44_17 y45_17 y46_17 y47_17 y48_17 y49_17 y50_17 y51_17 y52_17:Int)=>
 loopC N (fun r_18 (f0 f1:Int) (f2:Nat) (f3:List AV) (f4:Int) (f5:Nat) (f6:List AV) (f7:Nat) (f8:List AV) (f9:Int) (f10:Nat) (f11:List AV) (f12:Nat) (f13:List AV) (f14:Nat) (f15:List AV) (f16:Int) (f17:List (AV × AV × Nat)) (f18 f19:Nat) (f20:List AV) (f21:Nat) (f22:List AV) (f23:Int) (f24:Nat) (f25:List AV) (f26:Nat) (f27:List AV) (f28:Int) (f29:Nat) (f30:List AV) (f31:Int) (f32 f33 f34 f35:Option Nat) (f36 f37 f38 f39:Int) (f40:Option Nat) (f41:Nat) (f42:List AV) (f43 f44 f45 f46 f47 f48 f49 f50 f51 f52:Int)=>
 cO (S_ (decide (f1<f0)))
 (
 gO (S_ (decide ((0:Int)<=f1/\f1<(↑f2:Int)/\0<f3.length)))<|
 bO (asFloat .f32 (f3.getD (f1.toNat*1) AV.top)) fun v21=>
 cO (S_ (ordO .f32 v21 f40==some .eq))
 (
 some ([RLeaf.v (AV.int .i64 (S_ (if f1<(0:Int) then (0:Int) else f1))),RLeaf.v (AV.int .i64 (S_ (if f1<(0:Int) then (7:Int) else (0:Int))))]))
 (
 r_18 f0 (S_ (IntKind.i64.wrap (f1+(1:Int)))) f2 f3 f4 f5 f6 f7 f8 f9 f10 f11 f12 f13 f14 f15 f16 f17 f18 f19 f20 f21 f22 f23 f24 f25 f26 f27 f28 f29 f30 f31 f32 f33 f34 f35 f36 f37 f38 f39 f40 f41 f42 f43 f44 f45 f46 f47 f48 f49 f50 f51 f52))
 (
 r_9 d1 f2 f3 f4 f5 f6 f7 f8 f9 f10 f11 f12 f13 f14 f15 f16 f17 f18 f19 f20 f21 f22 f23 f24 f25 f26 f27 f28 f29 f30 f31 f32 f33 f34 f35 f36 f37 f38 f39 f40 f41 f42 f43 f44 f45 f46 f47 f48))
 (fun _ _ _ _ _ _ _ _ _ _ _ _ _ _ _ _ _ _ _ _ _ _ _ _ _ _ _ _ _ _ _ _ _ _ _ _ _ _ _ _ _ _ _ _ _ _ _ _ _ _ _ _ _=>none) y0_17 y1_17 y2_17 y3_17 y4_17 y5_17 y6_17 y7_17 y8_17 y9_17 y10_17 y11_17 y12_17 y13_17 y14_17 y15_17 y16_17 y17_17 y18_17 y19_17 y20_17 y21_17 y22_17 y23_17 y24_17 y25_17 y26_17 y27_17 y28_17 y29_17 y30_17 y31_17 y32_17 y33_17 y34_17 y35_17 y36_17 y37_17 y38_17 y39_17 y40_17 y41_17 y42_17 y43_17 y44_17 y45_17 y46_17 y47_17 y48_17 y49_17 y50_17 y51_17 y52_17),PUnit.unit) fun k_17=>
 cO (S_ (decide (y51_15>=(0:Int))))
 (
 gO (S_ (decide ((0:Int)<=y51_15)))<|
 k_17.1 y0_15 (S_ (IntKind.i64.wrap (S_ (IntKind.i64.wrap (y52_15*y43_15))*(2:Int) ^ Min.min y51_15.toNat 64))) y2_15 y3_15 y4_15 y5_15 y6_15 y7_15 y8_15 y9_15 y10_15 y11_15 y12_15 y13_15 y14_15 y15_15 y16_15 y17_15 y18_15 y19_15 y20_15 y21_15 y22_15 y23_15 y24_15 y25_15 y26_15 y27_15 y28_15 y29_15 y30_15 y31_15 y32_15 y33_15 y34_15 y35_15 y36_15 y37_15 y38_15 y39_15 y40_15 y41_15 y42_15 y43_15 y44_15 y45_15 y46_15 y47_15 y48_15 y49_15 y50_15 y51_15 y52_15)
 (
 k_17.1 y0_15 y52_15 y2_15 y3_15 y4_15 y5_15 y6_15 y7_15 y8_15 y9_15 y10_15 y11_15 y12_15 y13_15 y14_15 y15_15 y16_15 y17_15 y18_15 y19_15 y20_15 y21_15 y22_15 y23_15 y24_15 y25_15 y26_15 y27_15 y28_15 y29_15 y30_15 y31_15 y32_15 y33_15 y34_15 y35_15 y36_15 y37_15 y38_15 y39_15 y40_15 y41_15 y42_15 y43_15 y44_15 y45_15 y46_15 y47_15 y48_15 y49_15 y50_15 y51_15 y52_15))),PUnit.unit) fun k_15=>
 cO (S_ (decide (d51<(0:Int))))
 (
 gO (S_ (decide ((0:Int)<=d52/\d52<(↑d43:Int)/\0<d44.length)))<|
 bO (asFloat .f32 (d44.getD (d52.toNat*1) AV.top)) fun v18=>
 gO (S_ (decide (d51=d51)))<|
 gO (S_ (decide (d52=d52)))<|
 gO (S_ (decide (d43=d43/\d44=d44)))<|
 gO (S_ (decide (d45=d45)))<|
 k_15.1 d1 (!S_ (ordO .f32 (S_ (clean1 v18)) d42==some .eq)) d4 d5 d6 d7 d8 d9 d10 d11 d12 d13 d14 d15 d16 d17 d18 d19 d20 d21 d22 d23 d24 d25 d26 d27 d28 d29 d30 d31 d32 d33 d34 d35 d36 d37 d38 d39 d40 d41 d42 d43 d44 d45 d46 d47 d48 d49 d50 d51 d52 d51 d52)
 (
 bO (mlook Tryz.prog 130 62 (AV.agg [AV.int .i64 d51,AV.int .i64 d52]) d19) fun v17=>
 bO (asAgg v17.snd) fun v18=>
 gO (S_ (decide (v18.length=2)))<|
 bO (asFloat .f32 (v18.getD 0 AV.top)) fun v20=>
 bO (asFloat .f32 (v18.tail.getD 0 AV.top)) fun v21=>
 gO (S_ (decide (d51=d51)))<|
 gO (S_ (decide (d52=d52)))<|
 gO (S_ (decide (d43=d43/\d44=d44)))<|
 gO (S_ (decide (d45=d45)))<|
 k_15.1 d1 (!S_ (ordO .f32 v21 d42==some .eq)) d4 d5 d6 d7 d8 d9 d10 d11 d12 d13 d14 d15 d16 d17 d18 d19 d20 d21 d22 d23 d24 d25 d26 d27 d28 d29 d30 d31 d32 d33 d34 d35 d36 d37 d38 d39 d40 d41 d42 d43 d44 d45 d46 d47 d48 d49 d50 d51 d52 d51 d52)))
 (fun _ _ _ _ _ _ _ _ _ _ _ _ _ _ _ _ _ _ _ _ _ _ _ _ _ _ _ _ _ _ _ _ _ _ _ _ _ _ _ _ _ _ _ _ _ _ _ _ _ _ _ _ _=>none) c0 (S_ (IntKind.i64.wrap (c0+(1:Int)))) ((0:Int)) c44 c1 c2 c3 c4 c5 c6 c7 c8 c9 c10 c11 c12 c13 c14 c15 c16 c17 c18 c19 c20 c21 c22 c23 c24 c25 c26 c27 c28 c29 c30 c31 c32 c33 c34 c35 c36 c37 c38 c39 c40 c41 c42 c43 c44 c45 c46 c47 ((-1:Int)) c0)
 (
 some ([RLeaf.v (AV.int .i64 (S_ (if c43<(0:Int) then (0:Int) else c43))),RLeaf.v (AV.int .i64 (S_ (if c43<(0:Int) then (7:Int) else (0:Int))))])))
 (fun _ _ _ _ _ _ _ _ _ _ _ _ _ _ _ _ _ _ _ _ _ _ _ _ _ _ _ _ _ _ _ _ _ _ _ _ _ _ _ _ _ _ _ _ _ _ _ _=>none) ((0:Int)) b1 b2 b3 b4 b5 b6 b7 b8 b9 b10 b11 b12 b13 b14 b15 b16 b17 b18 b19 b20 b21 b22 b23 b24 b25 b26 b27 b28 b29 b30 b33 b34 b33 b34 b35 b36 b37 b38 b34 b25 b26 b27 ((-1:Int)) b27 ((↑b25:Int)) ((0:Int)) ((↑b25:Int))))
 (fun _ _ _ _ _ _ _ _ _ _ _ _ _ _ _ _ _ _ _ _ _ _ _ _ _ _ _ _ _ _ _ _ _ _ _ _ _ _ _=>none) ((0:Int)) a4 a5 a6 a7 a8 a9 a10 a11 a12 a13 a14 a15 a21 a22 a23 a17 a18 a19 a20 a21 a22 a23 0 ([]) a21 a22 a23 a21 a22 a23 (some 0) (some 0) (S_ (clean1 v6)) (S_ (clean1 v6)) a23 ((↑a21:Int)) ((0:Int)) ((↑a4:Int))))
 (fun _ _ _ _ _ _ _ _ _ _ _ _ _ _ _ _ _ _ _ _ _ _ _ _=>none) m ls ((↑m:Int)) ((0:Int)) n cs b m ls 2 (putCells (putCells (zrow (ofV (Go.Value.int IntKind.i64 (0:Int))).cells 2) 0 [AV.int .i64 (S_ (chkT n (fO cs) b m ls))]) 1 [AV.int .i64 (S_ (if S_ ((↑n:Int)==(0:Int))=true then (12:Int) else (0:Int)))]) b m ls 0 ([]) ((0:Int)) ([]) 0 0 ([]) n cs b)):=by kernel_rfl
end Go.Abs
end
