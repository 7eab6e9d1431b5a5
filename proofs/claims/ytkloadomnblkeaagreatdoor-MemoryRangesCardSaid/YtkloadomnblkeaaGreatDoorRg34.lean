/- Part 34 of the library that the proof of the statement uses: an abstract run of the program, proved right, and what its functions give. -/
import Derived.Test.YtkloadomnblkeaaGreatDoorRg20
import Derived.Test.YtkloadomnblkeaaGreatDoorRg33
set_option linter.unusedVariables false
set_option linter.unusedSimpArgs false

set_option maxRecDepth 100000
noncomputable section
namespace Go.Abs
open Go.Proofs Classical
theorem run_35 (N n:Nat) (cs:List AV) (b:Int) (m:Nat) (ls:List AV) (f t:Int):(fsM mzO waysQ N 12).call (List RLeaf) 35 [.ofB (.list n cs),.s (.agg [.b (.int .i64 b),.b (.list m ls)]),.ofB (.int .i64 f),.ofB (.int .i64 t)] [] (resK [false,false])=(
 gO (S_ (decide (Flos n cs/\Lvs m ls)))<|
 gO (S_ (decide (Ints 3 (putCells (putCells (putCells (zrow (ofV (Go.Value.int IntKind.i64 (0:Int))).cells 3) 0 [AV.int .i64 (S_ (chkT n (fO cs) b m ls))]) 1 [AV.int .i64 (S_ (if f<(0:Int)\/f>(↑n:Int) then (3:Int) else if t<(0:Int)\/t>(↑n:Int) then (3:Int) else if t<f then (11:Int) else (0:Int)))]) 2 [AV.int .i64 (S_ (if S_ (f==t)=true then (12:Int) else (0:Int)))]))))<|
 cO (S_ (S_ (firstNZ (intsOf (putCells (putCells (putCells (zrow (ofV (Go.Value.int IntKind.i64 (0:Int))).cells 3) 0 [AV.int .i64 (S_ (chkT n (fO cs) b m ls))]) 1 [AV.int .i64 (S_ (if f<(0:Int)\/f>(↑n:Int) then (3:Int) else if t<(0:Int)\/t>(↑n:Int) then (3:Int) else if t<f then (11:Int) else (0:Int)))]) 2 [AV.int .i64 (S_ (if S_ (f==t)=true then (12:Int) else (0:Int)))]))) != (0:Int)))
 (
 some ([RLeaf.v (AV.agg [AV.flo .f32 (some 0),AV.flo .f32 (some 0)]),RLeaf.v (AV.int .i64 (S_ (firstNZ (intsOf (putCells (putCells (putCells (zrow (ofV (Go.Value.int IntKind.i64 (0:Int))).cells 3) 0 [AV.int .i64 (S_ (chkT n (fO cs) b m ls))]) 1 [AV.int .i64 (S_ (if f<(0:Int)\/f>(↑n:Int) then (3:Int) else if t<(0:Int)\/t>(↑n:Int) then (3:Int) else if t<f then (11:Int) else (0:Int)))]) 2 [AV.int .i64 (S_ (if S_ (f==t)=true then (12:Int) else (0:Int)))])))))]))
 (
 loopC N (fun r_3 (a0:Nat) (a1:List AV) (a2 a3 a4:Int) (a5:Nat) (a6:List AV) (a7 a8:Option Nat) (a9:Nat) (a10:List AV) (a11:Int) (a12:Nat) (a13:List AV) (a14:Nat) (a15:List AV) (a16:Int) (a17:List (AV × AV × Nat)) (a18 a19:Nat) (a20:List AV) (a21:Nat) (a22:List AV) (a23:Int)=>
 cO (S_ (decide (a3<a2)))
 (
 gO (S_ (decide ((0:Int)<=a3/\a3<(↑a0:Int)/\0<a1.length)))<|
 bO (asList (a1.getD (a3.toNat*1) AV.top)) fun v6=>
 loopC N (fun r_7 (b0:Int) (b1:Nat) (b2:List AV) (b3 b4:Int) (b5:Nat) (b6:List AV) (b7 b8 b9:Int) (b10:Nat) (b11:List AV) (b12 b13:Option Nat) (b14:Nat) (b15:List AV) (b16:Int) (b17:Nat) (b18:List AV) (b19:Nat) (b20:List AV) (b21:Int) (b22:List (AV × AV × Nat)) (b23 b24:Nat) (b25:List AV) (b26:Nat) (b27:List AV) (b28:Int)=>
 cO (S_ (decide (b8<b7)))
 (
 gO (S_ (decide ((0:Int)<=b8/\b8<(↑b5:Int)/\0<b6.length)))<|
 gO (S_ (decide (b8.toNat*2+2<=b6.length)))<|
 bO (asFloat .f32 (b6.getD (b8.toNat*2) AV.top)) fun v11=>
 bO (asFloat .f32 (b6.getD (b8.toNat*2+1) AV.top)) fun v12=>
 gO (S_ (decide (finB (S_ (clean1 v11))=true/\finB (S_ (clean1 v11))=true/\finB (S_ (clean1 v12))=true/\finB (S_ (clean1 v12))=true)))<|
 bO (mput Tryz.prog 130 (AV.agg [AV.int .i64 b0,AV.int .i64 b8]) (AV.agg [AV.flo .f32 (S_ (minO (S_ (clean1 v11)) (S_ (clean1 v12)))),AV.flo .f32 (S_ (maxO (S_ (clean1 v11)) (S_ (clean1 v12))))]) b22 b23) fun v14=>
 r_7 b0 b1 b2 b3 b4 b5 b6 b7 (S_ (IntKind.i64.wrap (b8+(1:Int)))) b9 b10 b11 b12 b13 b14 b15 b16 b17 b18 b19 b20 b21 (v14.fst) (v14.snd) b24 b25 b26 b27 b28)
 (
 r_3 b1 b2 b3 (S_ (IntKind.i64.wrap (b4+(1:Int)))) b9 b10 b11 b12 b13 b14 b15 b16 b17 b18 b19 b20 b21 b22 b23 b24 b25 b26 b27 b28))
 (fun _ _ _ _ _ _ _ _ _ _ _ _ _ _ _ _ _ _ _ _ _ _ _ _ _ _ _ _ _=>none) a3 a0 a1 a2 a3 (v6.fst) (v6.snd) ((↑v6.fst:Int)) ((0:Int)) a4 a5 a6 a7 a8 a9 a10 a11 a12 a13 a14 a15 a16 a17 a18 a19 a20 a21 a22 a23)
 (
 gO (S_ (decide ((0:Int)<=f/\f<(↑a21:Int)/\0<a22.length)))<|
 bO (asFloat .f32 (a22.getD (f.toNat*1) AV.top)) fun v6=>
 loopC N (fun r_7 (b0 b1:Int) (b2:Nat) (b3:List AV) (b4 b5:Option Nat) (b6:Nat) (b7:List AV) (b8:Int) (b9:Nat) (b10:List AV) (b11:Nat) (b12:List AV) (b13:Nat) (b14:List AV) (b15:Int) (b16:List (AV × AV × Nat)) (b17 b18:Nat) (b19:List AV) (b20:Nat) (b21:List AV) (b22:Int) (b23:Nat) (b24:List AV) (b25:Int) (b26 b27 b28 b29:Option Nat) (b30 b31 b32 b33:Int)=>
 cO (S_ (decide (b0<b33)))
 (
 loopC N (fun r_9 (c0 c1 c2 c3 c4:Int) (c5:Nat) (c6:List AV) (c7 c8:Option Nat) (c9:Nat) (c10:List AV) (c11:Int) (c12:Nat) (c13:List AV) (c14:Nat) (c15:List AV) (c16:Nat) (c17:List AV) (c18:Int) (c19:List (AV × AV × Nat)) (c20 c21:Nat) (c22:List AV) (c23:Nat) (c24:List AV) (c25:Int) (c26:Nat) (c27:List AV) (c28:Int) (c29 c30 c31 c32:Option Nat) (c33 c34 c35 c36 c37 c38:Int)=>
 gO (S_ (decide (c3≠(0:Int))))<|
 bO (
 cO (S_ (S_ (c0.tmod c3)==(0:Int)))
 (
 some (S_ (decide (S_ (if S_ (IntKind.i64.wrap (c0+c3))<c34 then S_ (IntKind.i64.wrap (c0+c3)) else c34)<=c36))))
 (
 some false)) fun v11=>
 cO v11
 (
 gO (S_ (decide (c3≠(0:Int))))<|
 cO (S_ (decide (c3>=c34)))
 (
 cO (S_ (decide (c2<(0:Int))))
 (
 gO (S_ (decide ((0:Int)<=S_ (IntKind.i64.wrap (c0.tdiv c3))/\S_ (IntKind.i64.wrap (c0.tdiv c3))<(↑c26:Int)/\0<c27.length)))<|
 bO (asFloat .f32 (c27.getD ((S_ (IntKind.i64.wrap (c0.tdiv c3))).toNat*1) AV.top)) fun v17=>
 gO (S_ (decide (c2=c2)))<|
 gO (S_ (decide (S_ (IntKind.i64.wrap (c0.tdiv c3))=S_ (IntKind.i64.wrap (c0.tdiv c3)))))<|
 gO (S_ (decide (c26=c26/\c27=c27)))<|
 gO (S_ (decide (c28=c28)))<|
 gO (S_ (decide (c31=c31)))<|
 gO (S_ (decide (c32=c32)))<|
 gO (S_ (decide (finB c31=true/\finB c32=true/\finB (S_ (clean1 v17))=true/\finB (S_ (clean1 v17))=true)))<|
 r_7 (S_ (if S_ (IntKind.i64.wrap (c0+c3))<c34 then S_ (IntKind.i64.wrap (c0+c3)) else c34)) c4 c5 c6 c7 c8 c9 c10 c11 c12 c13 c14 c15 c16 c17 c18 c19 c20 c21 c22 c23 c24 c25 c26 c27 c28 c29 c30 (S_ (minO c31 (S_ (clean1 v17)))) (S_ (maxO c32 (S_ (clean1 v17)))) c33 c34 c35 c36)
 (
 bO (mlook Tryz.prog 130 62 (AV.agg [AV.int .i64 c2,AV.int .i64 (S_ (IntKind.i64.wrap (c0.tdiv c3)))]) c19) fun v16=>
 bO (asAgg v16.snd) fun v17=>
 gO (S_ (decide (v17.length=2)))<|
 bO (asFloat .f32 (v17.getD 0 AV.top)) fun v19=>
 bO (asFloat .f32 (v17.tail.getD 0 AV.top)) fun v20=>
 gO (S_ (decide (c2=c2)))<|
 gO (S_ (decide (S_ (IntKind.i64.wrap (c0.tdiv c3))=S_ (IntKind.i64.wrap (c0.tdiv c3)))))<|
 gO (S_ (decide (c26=c26/\c27=c27)))<|
 gO (S_ (decide (c28=c28)))<|
 gO (S_ (decide (c31=c31)))<|
 gO (S_ (decide (c32=c32)))<|
 gO (S_ (decide (finB c31=true/\finB c32=true/\finB v19=true/\finB v20=true)))<|
 r_7 (S_ (if S_ (IntKind.i64.wrap (c0+c3))<c34 then S_ (IntKind.i64.wrap (c0+c3)) else c34)) c4 c5 c6 c7 c8 c9 c10 c11 c12 c13 c14 c15 c16 c17 c18 c19 c20 c21 c22 c23 c24 c25 c26 c27 c28 c29 c30 (S_ (minO c31 v19)) (S_ (maxO c32 v20)) c33 c34 c35 c36))
 (
 r_9 c0 (S_ (if S_ (IntKind.i64.wrap (c0+c3))<c34 then S_ (IntKind.i64.wrap (c0+c3)) else c34)) (S_ (IntKind.i64.wrap (c2+(1:Int)))) (S_ (IntKind.i64.wrap ((2:Int)*c3))) c4 c5 c6 c7 c8 c9 c10 c11 c12 c13 c14 c15 c16 c17 c18 c19 c20 c21 c22 c23 c24 c25 c26 c27 c28 c29 c30 c31 c32 c33 c34 c35 c36 c2 (S_ (IntKind.i64.wrap (c0.tdiv c3)))))
 (
 cO (S_ (decide (c37<(0:Int))))
 (
 gO (S_ (decide ((0:Int)<=c38/\c38<(↑c26:Int)/\0<c27.length)))<|
 bO (asFloat .f32 (c27.getD (c38.toNat*1) AV.top)) fun v15=>
 gO (S_ (decide (c37=c37)))<|
 gO (S_ (decide (c38=c38)))<|
 gO (S_ (decide (c26=c26/\c27=c27)))<|
 gO (S_ (decide (c28=c28)))<|
 gO (S_ (decide (c31=c31)))<|
 gO (S_ (decide (c32=c32)))<|
 gO (S_ (decide (finB c31=true/\finB c32=true/\finB (S_ (clean1 v15))=true/\finB (S_ (clean1 v15))=true)))<|
 r_7 c1 c4 c5 c6 c7 c8 c9 c10 c11 c12 c13 c14 c15 c16 c17 c18 c19 c20 c21 c22 c23 c24 c25 c26 c27 c28 c29 c30 (S_ (minO c31 (S_ (clean1 v15)))) (S_ (maxO c32 (S_ (clean1 v15)))) c33 c34 c35 c36)
 (
 bO (mlook Tryz.prog 130 62 (AV.agg [AV.int .i64 c37,AV.int .i64 c38]) c19) fun v14=>
 bO (asAgg v14.snd) fun v15=>
 gO (S_ (decide (v15.length=2)))<|
 bO (asFloat .f32 (v15.getD 0 AV.top)) fun v17=>
 bO (asFloat .f32 (v15.tail.getD 0 AV.top)) fun v18=>
 gO (S_ (decide (c37=c37)))<|
 gO (S_ (decide (c38=c38)))<|
 gO (S_ (decide (c26=c26/\c27=c27)))<|
 gO (S_ (decide (c28=c28)))<|
 gO (S_ (decide (c31=c31)))<|
 gO (S_ (decide (c32=c32)))<|
 gO (S_ (decide (finB c31=true/\finB c32=true/\finB v17=true/\finB v18=true)))<|
 r_7 c1 c4 c5 c6 c7 c8 c9 c10 c11 c12 c13 c14 c15 c16 c17 c18 c19 c20 c21 c22 c23 c24 c25 c26 c27 c28 c29 c30 (S_ (minO c31 v17)) (S_ (maxO c32 v18)) c33 c34 c35 c36)))
 (fun _ _ _ _ _ _ _ _ _ _ _ _ _ _ _ _ _ _ _ _ _ _ _ _ _ _ _ _ _ _ _ _ _ _ _ _ _ _ _=>none) b0 (S_ (IntKind.i64.wrap (b0+(1:Int)))) ((0:Int)) b30 b1 b2 b3 b4 b5 b6 b7 b8 b9 b10 b11 b12 b13 b14 b15 b16 b17 b18 b19 b20 b21 b22 b23 b24 b25 b26 b27 b28 b29 b30 b31 b32 b33 ((-1:Int)) b0)
 (
 some ([RLeaf.v (AV.agg [AV.flo .f32 b28,AV.flo .f32 b29]),RLeaf.v (AV.int .i64 (0:Int))])))
 (fun _ _ _ _ _ _ _ _ _ _ _ _ _ _ _ _ _ _ _ _ _ _ _ _ _ _ _ _ _ _ _ _ _ _=>none) f a4 a5 a6 a7 a8 a9 a10 a11 a12 a13 a14 a15 a21 a22 a23 a17 a18 a19 a20 a21 a22 a23 a21 a22 a23 (some 0) (some 0) (S_ (clean1 v6)) (S_ (clean1 v6)) a23 ((↑a21:Int)) f t))
 (fun _ _ _ _ _ _ _ _ _ _ _ _ _ _ _ _ _ _ _ _ _ _ _ _=>none) m ls ((↑m:Int)) ((0:Int)) b m ls (some 0) (some 0) 3 (putCells (putCells (putCells (zrow (ofV (Go.Value.int IntKind.i64 (0:Int))).cells 3) 0 [AV.int .i64 (S_ (chkT n (fO cs) b m ls))]) 1 [AV.int .i64 (S_ (if f<(0:Int)\/f>(↑n:Int) then (3:Int) else if t<(0:Int)\/t>(↑n:Int) then (3:Int) else if t<f then (11:Int) else (0:Int)))]) 2 [AV.int .i64 (S_ (if S_ (f==t)=true then (12:Int) else (0:Int)))]) b m ls 0 ([]) ((0:Int)) ([]) 0 0 ([]) n cs b)):=by kernel_rfl
theorem run_36 (N n:Nat) (cs:List AV) (b:Int) (m:Nat) (ls:List AV) (f t c:Int):(fsM mzO waysQ N 12).call (List RLeaf) 36 [.ofB (.list n cs),.s (.agg [.b (.int .i64 b),.b (.list m ls)]),.ofB (.int .i64 f),.ofB (.int .i64 t),.ofB (.int .i64 c)] [] (resK [true,false])=(
 gO (S_ (decide (Flos n cs/\Lvs m ls)))<|
 gO (S_ (decide (Ints 4 (putCells (putCells (putCells (putCells (zrow (ofV (Go.Value.int IntKind.i64 (0:Int))).cells 4) 0 [AV.int .i64 (S_ (chkT n (fO cs) b m ls))]) 1 [AV.int .i64 (S_ (if f<(0:Int)\/f>(↑n:Int) then (3:Int) else if t<(0:Int)\/t>(↑n:Int) then (3:Int) else if t<f then (11:Int) else (0:Int)))]) 2 [AV.int .i64 (S_ (if c<(1:Int)\/c>(2048:Int) then (3:Int) else (0:Int)))]) 3 [AV.int .i64 (S_ (if S_ (decide (S_ (IntKind.i64.wrap (t-f))<c))=true then (16:Int) else (0:Int)))]))))<|
 cO (S_ (S_ (firstNZ (intsOf (putCells (putCells (putCells (putCells (zrow (ofV (Go.Value.int IntKind.i64 (0:Int))).cells 4) 0 [AV.int .i64 (S_ (chkT n (fO cs) b m ls))]) 1 [AV.int .i64 (S_ (if f<(0:Int)\/f>(↑n:Int) then (3:Int) else if t<(0:Int)\/t>(↑n:Int) then (3:Int) else if t<f then (11:Int) else (0:Int)))]) 2 [AV.int .i64 (S_ (if c<(1:Int)\/c>(2048:Int) then (3:Int) else (0:Int)))]) 3 [AV.int .i64 (S_ (if S_ (decide (S_ (IntKind.i64.wrap (t-f))<c))=true then (16:Int) else (0:Int)))]))) != (0:Int)))
 (
 some ([RLeaf.fz 0 [],RLeaf.v (AV.int .i64 (S_ (firstNZ (intsOf (putCells (putCells (putCells (putCells (zrow (ofV (Go.Value.int IntKind.i64 (0:Int))).cells 4) 0 [AV.int .i64 (S_ (chkT n (fO cs) b m ls))]) 1 [AV.int .i64 (S_ (if f<(0:Int)\/f>(↑n:Int) then (3:Int) else if t<(0:Int)\/t>(↑n:Int) then (3:Int) else if t<f then (11:Int) else (0:Int)))]) 2 [AV.int .i64 (S_ (if c<(1:Int)\/c>(2048:Int) then (3:Int) else (0:Int)))]) 3 [AV.int .i64 (S_ (if S_ (decide (S_ (IntKind.i64.wrap (t-f))<c))=true then (16:Int) else (0:Int)))])))))]))
 (
 loopC N (fun r_3 (a0:Nat) (a1:List AV) (a2 a3 a4:Int) (a5:Nat) (a6:List AV) (a7:Nat) (a8:List AV) (a9:Nat) (a10:List AV) (a11:Int) (a12:Nat) (a13:List AV) (a14:Nat) (a15:List AV) (a16:Int) (a17:List (AV × AV × Nat)) (a18 a19:Nat) (a20:List AV) (a21:Nat) (a22:List AV) (a23:Int)=>
 cO (S_ (decide (a3<a2)))
 (
 gO (S_ (decide ((0:Int)<=a3/\a3<(↑a0:Int)/\0<a1.length)))<|
 bO (asList (a1.getD (a3.toNat*1) AV.top)) fun v6=>
 loopC N (fun r_7 (b0:Int) (b1:Nat) (b2:List AV) (b3 b4:Int) (b5:Nat) (b6:List AV) (b7 b8 b9:Int) (b10:Nat) (b11:List AV) (b12:Nat) (b13:List AV) (b14:Nat) (b15:List AV) (b16:Int) (b17:Nat) (b18:List AV) (b19:Nat) (b20:List AV) (b21:Int) (b22:List (AV × AV × Nat)) (b23 b24:Nat) (b25:List AV) (b26:Nat) (b27:List AV) (b28:Int)=>
 cO (S_ (decide (b8<b7)))
 (
 gO (S_ (decide ((0:Int)<=b8/\b8<(↑b5:Int)/\0<b6.length)))<|
 gO (S_ (decide (b8.toNat*2+2<=b6.length)))<|
 bO (asFloat .f32 (b6.getD (b8.toNat*2) AV.top)) fun v11=>
 bO (asFloat .f32 (b6.getD (b8.toNat*2+1) AV.top)) fun v12=>
 gO (S_ (decide (finB (S_ (clean1 v11))=true/\finB (S_ (clean1 v11))=true/\finB (S_ (clean1 v12))=true/\finB (S_ (clean1 v12))=true)))<|
 bO (mput Tryz.prog 130 (AV.agg [AV.int .i64 b0,AV.int .i64 b8]) (AV.agg [AV.flo .f32 (S_ (minO (S_ (clean1 v11)) (S_ (clean1 v12)))),AV.flo .f32 (S_ (maxO (S_ (clean1 v11)) (S_ (clean1 v12))))]) b22 b23) fun v14=>
 r_7 b0 b1 b2 b3 b4 b5 b6 b7 (S_ (IntKind.i64.wrap (b8+(1:Int)))) b9 b10 b11 b12 b13 b14 b15 b16 b17 b18 b19 b20 b21 (v14.fst) (v14.snd) b24 b25 b26 b27 b28)
 (
 r_3 b1 b2 b3 (S_ (IntKind.i64.wrap (b4+(1:Int)))) b9 b10 b11 b12 b13 b14 b15 b16 b17 b18 b19 b20 b21 b22 b23 b24 b25 b26 b27 b28))
 (fun _ _ _ _ _ _ _ _ _ _ _ _ _ _ _ _ _ _ _ _ _ _ _ _ _ _ _ _ _=>none) a3 a0 a1 a2 a3 (v6.fst) (v6.snd) ((↑v6.fst:Int)) ((0:Int)) a4 a5 a6 a7 a8 a9 a10 a11 a12 a13 a14 a15 a16 a17 a18 a19 a20 a21 a22 a23)
 (
 loopC N (fun r_5 (c0 c1 c2 c3 c4 c5:Int) (c6:Nat) (c7:List AV) (c8:Nat) (c9:List AV) (c10:Nat) (c11:List AV) (c12:Int) (c13:Nat) (c14:List AV) (c15:Nat) (c16:List AV) (c17:Nat) (c18:List AV) (c19:Int) (c20:List (AV × AV × Nat)) (c21 c22:Nat) (c23:List AV) (c24:Nat) (c25:List AV) (c26:Int) (c27:Nat) (c28:List AV) (c29:Nat) (c30:List AV) (c31:Int) (c32:Nat) (c33:List AV)=>
 cO (S_ (decide (c4<c3)))
 (
 gO (S_ (decide (c1≠(0:Int))))<|
 gO (S_ (decide (c1≠(0:Int))))<|
 gO (S_ (decide ((0:Int)<=S_ (IntKind.i64.wrap (c0+S_ (IntKind.i64.wrap ((S_ (IntKind.i64.wrap (c4*c2))).tdiv c1))))/\S_ (IntKind.i64.wrap (c0+S_ (IntKind.i64.wrap ((S_ (IntKind.i64.wrap (c4*c2))).tdiv c1))))<(↑c29:Int)/\0<c30.length)))<|
 bO (asFloat .f32 (c30.getD ((S_ (IntKind.i64.wrap (c0+S_ (IntKind.i64.wrap ((S_ (IntKind.i64.wrap (c4*c2))).tdiv c1))))).toNat*1) AV.top)) fun v10=>
 loopC N (fun r_11 (d0 d1:Int) (d2:Nat) (d3:List AV) (d4:Nat) (d5:List AV) (d6:Nat) (d7:List AV) (d8:Int) (d9:Nat) (d10:List AV) (d11:Nat) (d12:List AV) (d13:Nat) (d14:List AV) (d15:Int) (d16:List (AV × AV × Nat)) (d17 d18:Nat) (d19:List AV) (d20:Nat) (d21:List AV) (d22:Int) (d23:Nat) (d24:List AV) (d25:Nat) (d26:List AV) (d27:Int) (d28:Nat) (d29:List AV) (d30:Nat) (d31:List AV) (d32:Int) (d33 d34 d35 d36:Option Nat) (d37 d38 d39 d40:Int)=>
 cO (S_ (decide (d0<d40)))
 (
 loopC N (fun r_13 (e0 e1 e2 e3 e4:Int) (e5:Nat) (e6:List AV) (e7:Nat) (e8:List AV) (e9:Nat) (e10:List AV) (e11:Int) (e12:Nat) (e13:List AV) (e14:Nat) (e15:List AV) (e16:Nat) (e17:List AV) (e18:Int) (e19:List (AV × AV × Nat)) (e20 e21:Nat) (e22:List AV) (e23:Nat) (e24:List AV) (e25:Int) (e26:Nat) (e27:List AV) (e28:Nat) (e29:List AV) (e30:Int) (e31:Nat) (e32:List AV) (e33:Nat) (e34:List AV) (e35:Int) (e36 e37 e38 e39:Option Nat) (e40 e41 e42 e43 e44 e45:Int)=>
 gO (S_ (decide (e3≠(0:Int))))<|
 bO (
 cO (S_ (S_ (e0.tmod e3)==(0:Int)))
 (
 some (S_ (decide (S_ (if S_ (IntKind.i64.wrap (e0+e3))<e41 then S_ (IntKind.i64.wrap (e0+e3)) else e41)<=e43))))
 (
 some false)) fun v15=>
 cO v15
 (
 gO (S_ (decide (e3≠(0:Int))))<|
 cO (S_ (decide (e3>=e41)))
 (
 cO (S_ (decide (e2<(0:Int))))
 (
 gO (S_ (decide ((0:Int)<=S_ (IntKind.i64.wrap (e0.tdiv e3))/\S_ (IntKind.i64.wrap (e0.tdiv e3))<(↑e33:Int)/\0<e34.length)))<|
 bO (asFloat .f32 (e34.getD ((S_ (IntKind.i64.wrap (e0.tdiv e3))).toNat*1) AV.top)) fun v21=>
 gO (S_ (decide (e2=e2)))<|
 gO (S_ (decide (S_ (IntKind.i64.wrap (e0.tdiv e3))=S_ (IntKind.i64.wrap (e0.tdiv e3)))))<|
 gO (S_ (decide (e33=e33/\e34=e34)))<|
 gO (S_ (decide (e35=e35)))<|
 gO (S_ (decide (e38=e38)))<|
 gO (S_ (decide (e39=e39)))<|
 gO (S_ (decide (finB e38=true/\finB e39=true/\finB (S_ (clean1 v21))=true/\finB (S_ (clean1 v21))=true)))<|
 r_11 (S_ (if S_ (IntKind.i64.wrap (e0+e3))<e41 then S_ (IntKind.i64.wrap (e0+e3)) else e41)) e4 e5 e6 e7 e8 e9 e10 e11 e12 e13 e14 e15 e16 e17 e18 e19 e20 e21 e22 e23 e24 e25 e26 e27 e28 e29 e30 e31 e32 e33 e34 e35 e36 e37 (S_ (minO e38 (S_ (clean1 v21)))) (S_ (maxO e39 (S_ (clean1 v21)))) e40 e41 e42 e43)
 (
 bO (mlook Tryz.prog 130 62 (AV.agg [AV.int .i64 e2,AV.int .i64 (S_ (IntKind.i64.wrap (e0.tdiv e3)))]) e19) fun v20=>
 bO (asAgg v20.snd) fun v21=>
 gO (S_ (decide (v21.length=2)))<|
 bO (asFloat .f32 (v21.getD 0 AV.top)) fun v23=>
 bO (asFloat .f32 (v21.tail.getD 0 AV.top)) fun v24=>
 gO (S_ (decide (e2=e2)))<|
 gO (S_ (decide (S_ (IntKind.i64.wrap (e0.tdiv e3))=S_ (IntKind.i64.wrap (e0.tdiv e3)))))<|
 gO (S_ (decide (e33=e33/\e34=e34)))<|
 gO (S_ (decide (e35=e35)))<|
 gO (S_ (decide (e38=e38)))<|
 gO (S_ (decide (e39=e39)))<|
 gO (S_ (decide (finB e38=true/\finB e39=true/\finB v23=true/\finB v24=true)))<|
 r_11 (S_ (if S_ (IntKind.i64.wrap (e0+e3))<e41 then S_ (IntKind.i64.wrap (e0+e3)) else e41)) e4 e5 e6 e7 e8 e9 e10 e11 e12 e13 e14 e15 e16 e17 e18 e19 e20 e21 e22 e23 e24 e25 e26 e27 e28 e29 e30 e31 e32 e33 e34 e35 e36 e37 (S_ (minO e38 v23)) (S_ (maxO e39 v24)) e40 e41 e42 e43))
 (
 r_13 e0 (S_ (if S_ (IntKind.i64.wrap (e0+e3))<e41 then S_ (IntKind.i64.wrap (e0+e3)) else e41)) (S_ (IntKind.i64.wrap (e2+(1:Int)))) (S_ (IntKind.i64.wrap ((2:Int)*e3))) e4 e5 e6 e7 e8 e9 e10 e11 e12 e13 e14 e15 e16 e17 e18 e19 e20 e21 e22 e23 e24 e25 e26 e27 e28 e29 e30 e31 e32 e33 e34 e35 e36 e37 e38 e39 e40 e41 e42 e43 e2 (S_ (IntKind.i64.wrap (e0.tdiv e3)))))
 (
 cO (S_ (decide (e44<(0:Int))))
 (
 gO (S_ (decide ((0:Int)<=e45/\e45<(↑e33:Int)/\0<e34.length)))<|
 bO (asFloat .f32 (e34.getD (e45.toNat*1) AV.top)) fun v19=>
 gO (S_ (decide (e44=e44)))<|
 gO (S_ (decide (e45=e45)))<|
 gO (S_ (decide (e33=e33/\e34=e34)))<|
 gO (S_ (decide (e35=e35)))<|
 gO (S_ (decide (e38=e38)))<|
 gO (S_ (decide (e39=e39)))<|
 gO (S_ (decide (finB e38=true/\finB e39=true/\finB (S_ (clean1 v19))=true/\finB (S_ (clean1 v19))=true)))<|
 r_11 e1 e4 e5 e6 e7 e8 e9 e10 e11 e12 e13 e14 e15 e16 e17 e18 e19 e20 e21 e22 e23 e24 e25 e26 e27 e28 e29 e30 e31 e32 e33 e34 e35 e36 e37 (S_ (minO e38 (S_ (clean1 v19)))) (S_ (maxO e39 (S_ (clean1 v19)))) e40 e41 e42 e43)
 (
 bO (mlook Tryz.prog 130 62 (AV.agg [AV.int .i64 e44,AV.int .i64 e45]) e19) fun v18=>
 bO (asAgg v18.snd) fun v19=>
 gO (S_ (decide (v19.length=2)))<|
 bO (asFloat .f32 (v19.getD 0 AV.top)) fun v21=>
 bO (asFloat .f32 (v19.tail.getD 0 AV.top)) fun v22=>
 gO (S_ (decide (e44=e44)))<|
 gO (S_ (decide (e45=e45)))<|
 gO (S_ (decide (e33=e33/\e34=e34)))<|
 gO (S_ (decide (e35=e35)))<|
 gO (S_ (decide (e38=e38)))<|
 gO (S_ (decide (e39=e39)))<|
 gO (S_ (decide (finB e38=true/\finB e39=true/\finB v21=true/\finB v22=true)))<|
 r_11 e1 e4 e5 e6 e7 e8 e9 e10 e11 e12 e13 e14 e15 e16 e17 e18 e19 e20 e21 e22 e23 e24 e25 e26 e27 e28 e29 e30 e31 e32 e33 e34 e35 e36 e37 (S_ (minO e38 v21)) (S_ (maxO e39 v22)) e40 e41 e42 e43)))
 (fun _ _ _ _ _ _ _ _ _ _ _ _ _ _ _ _ _ _ _ _ _ _ _ _ _ _ _ _ _ _ _ _ _ _ _ _ _ _ _ _ _ _ _ _ _ _=>none) d0 (S_ (IntKind.i64.wrap (d0+(1:Int)))) ((0:Int)) d37 d1 d2 d3 d4 d5 d6 d7 d8 d9 d10 d11 d12 d13 d14 d15 d16 d17 d18 d19 d20 d21 d22 d23 d24 d25 d26 d27 d28 d29 d30 d31 d32 d33 d34 d35 d36 d37 d38 d39 d40 ((-1:Int)) d0)
 (
 gO (S_ (decide ((d28+1)*9<=549755813888)))<|
 r_5 c0 c1 c2 c3 (S_ (IntKind.i64.wrap (c4+(1:Int)))) d1 d2 d3 d4 d5 d6 d7 d8 d9 d10 d11 d12 d13 d14 d15 d16 d17 d18 d19 d20 d21 d22 d23 d24 d25 d26 d27 (d28+1) (d29++putCells (zrow (ofV (Go.Value.agg #[Go.Value.float .f32 0,Go.Value.float .f32 0])).cells 2) 0 [AV.flo .f32 d35,AV.flo .f32 d36])))
 (fun _ _ _ _ _ _ _ _ _ _ _ _ _ _ _ _ _ _ _ _ _ _ _ _ _ _ _ _ _ _ _ _ _ _ _ _ _ _ _ _ _=>none) (S_ (IntKind.i64.wrap (c0+S_ (IntKind.i64.wrap ((S_ (IntKind.i64.wrap (c4*c2))).tdiv c1))))) c5 c6 c7 c8 c9 c10 c11 c12 c13 c14 c15 c16 c17 c18 c19 c20 c21 c22 c23 c24 c25 c26 c27 c28 c29 c30 c31 c32 c33 c29 c30 c31 (some 0) (some 0) (S_ (clean1 v10)) (S_ (clean1 v10)) c31 ((↑c29:Int)) (S_ (IntKind.i64.wrap (c0+S_ (IntKind.i64.wrap ((S_ (IntKind.i64.wrap (c4*c2))).tdiv c1))))) (S_ (IntKind.i64.wrap (c0+S_ (IntKind.i64.wrap ((S_ (IntKind.i64.wrap (S_ (IntKind.i64.wrap (c4+(1:Int)))*c2))).tdiv c1))))))
 (
 some ([RLeaf.fz c32 c33,RLeaf.v (AV.int .i64 (0:Int))])))
 (fun _ _ _ _ _ _ _ _ _ _ _ _ _ _ _ _ _ _ _ _ _ _ _ _ _ _ _ _ _ _ _ _ _ _=>none) f c (S_ (IntKind.i64.wrap (t-f))) c ((0:Int)) a4 a5 a6 a7 a8 a9 a10 a11 a12 a13 a14 a15 a21 a22 a23 a17 a18 a19 a20 a21 a22 a23 0 ([]) a21 a22 a23 0 ([])))
 (fun _ _ _ _ _ _ _ _ _ _ _ _ _ _ _ _ _ _ _ _ _ _ _ _=>none) m ls ((↑m:Int)) ((0:Int)) b m ls 0 ([]) 4 (putCells (putCells (putCells (putCells (zrow (ofV (Go.Value.int IntKind.i64 (0:Int))).cells 4) 0 [AV.int .i64 (S_ (chkT n (fO cs) b m ls))]) 1 [AV.int .i64 (S_ (if f<(0:Int)\/f>(↑n:Int) then (3:Int) else if t<(0:Int)\/t>(↑n:Int) then (3:Int) else if t<f then (11:Int) else (0:Int)))]) 2 [AV.int .i64 (S_ (if c<(1:Int)\/c>(2048:Int) then (3:Int) else (0:Int)))]) 3 [AV.int .i64 (S_ (if S_ (decide (S_ (IntKind.i64.wrap (t-f))<c))=true then (16:Int) else (0:Int)))]) b m ls 0 ([]) ((0:Int)) ([]) 0 0 ([]) n cs b)):=by kernel_rfl
theorem run_37 (N n:Nat) (cs:List AV) (b:Int) (m:Nat) (ls:List AV) (f t:Int) (o:Option Nat):(fsM mzO waysQ N 12).call (List RLeaf) 37 [.ofB (.list n cs),.s (.agg [.b (.int .i64 b),.b (.list m ls)]),.ofB (.int .i64 f),.ofB (.int .i64 t),.ofB (.flo .f32 o)] [] (resK [false,false])=(
 gO (S_ (decide (Flos n cs/\Lvs m ls)))<|
 gO (S_ (decide (Ints 3 (putCells (putCells (putCells (zrow (ofV (Go.Value.int IntKind.i64 (0:Int))).cells 3) 0 [AV.int .i64 (S_ (chkT n (fO cs) b m ls))]) 1 [AV.int .i64 (S_ (if f<(0:Int)\/f>(↑n:Int) then (3:Int) else if t<(0:Int)\/t>(↑n:Int) then (3:Int) else if t<f then (11:Int) else (0:Int)))]) 2 [AV.int .i64 (S_ (if (!S_ (finB o))=true then (1:Int) else (0:Int)))]))))<|
 cO (S_ (S_ (firstNZ (intsOf (putCells (putCells (putCells (zrow (ofV (Go.Value.int IntKind.i64 (0:Int))).cells 3) 0 [AV.int .i64 (S_ (chkT n (fO cs) b m ls))]) 1 [AV.int .i64 (S_ (if f<(0:Int)\/f>(↑n:Int) then (3:Int) else if t<(0:Int)\/t>(↑n:Int) then (3:Int) else if t<f then (11:Int) else (0:Int)))]) 2 [AV.int .i64 (S_ (if (!S_ (finB o))=true then (1:Int) else (0:Int)))]))) != (0:Int)))
 (
 some ([RLeaf.v (AV.int .i64 (0:Int)),RLeaf.v (AV.int .i64 (S_ (firstNZ (intsOf (putCells (putCells (putCells (zrow (ofV (Go.Value.int IntKind.i64 (0:Int))).cells 3) 0 [AV.int .i64 (S_ (chkT n (fO cs) b m ls))]) 1 [AV.int .i64 (S_ (if f<(0:Int)\/f>(↑n:Int) then (3:Int) else if t<(0:Int)\/t>(↑n:Int) then (3:Int) else if t<f then (11:Int) else (0:Int)))]) 2 [AV.int .i64 (S_ (if (!S_ (finB o))=true then (1:Int) else (0:Int)))])))))]))
 (
 loopC N (fun r_3 (a0:Nat) (a1:List AV) (a2 a3:Int) (a4:Nat) (a5:List AV) (a6:Int) (a7:Nat) (a8:List AV) (a9:Option Nat) (a10:Nat) (a11:List AV) (a12:Int) (a13:Nat) (a14:List AV) (a15:Nat) (a16:List AV) (a17:Int) (a18:List (AV × AV × Nat)) (a19 a20:Nat) (a21:List AV) (a22:Nat) (a23:List AV) (a24:Int)=>
 cO (S_ (decide (a3<a2)))
 (
 gO (S_ (decide ((0:Int)<=a3/\a3<(↑a0:Int)/\0<a1.length)))<|
 bO (asList (a1.getD (a3.toNat*1) AV.top)) fun v6=>
 loopC N (fun r_7 (b0:Int) (b1:Nat) (b2:List AV) (b3 b4:Int) (b5:Nat) (b6:List AV) (b7 b8:Int) (b9:Nat) (b10:List AV) (b11:Int) (b12:Nat) (b13:List AV) (b14:Option Nat) (b15:Nat) (b16:List AV) (b17:Int) (b18:Nat) (b19:List AV) (b20:Nat) (b21:List AV) (b22:Int) (b23:List (AV × AV × Nat)) (b24 b25:Nat) (b26:List AV) (b27:Nat) (b28:List AV) (b29:Int)=>
 cO (S_ (decide (b8<b7)))
 (
 gO (S_ (decide ((0:Int)<=b8/\b8<(↑b5:Int)/\0<b6.length)))<|
 gO (S_ (decide (b8.toNat*2+2<=b6.length)))<|
 bO (asFloat .f32 (b6.getD (b8.toNat*2) AV.top)) fun v11=>
 bO (asFloat .f32 (b6.getD (b8.toNat*2+1) AV.top)) fun v12=>
 gO (S_ (decide (finB (S_ (clean1 v11))=true/\finB (S_ (clean1 v11))=true/\finB (S_ (clean1 v12))=true/\finB (S_ (clean1 v12))=true)))<|
 bO (mput Tryz.prog 130 (AV.agg [AV.int .i64 b0,AV.int .i64 b8]) (AV.agg [AV.flo .f32 (S_ (minO (S_ (clean1 v11)) (S_ (clean1 v12)))),AV.flo .f32 (S_ (maxO (S_ (clean1 v11)) (S_ (clean1 v12))))]) b23 b24) fun v14=>
 r_7 b0 b1 b2 b3 b4 b5 b6 b7 (S_ (IntKind.i64.wrap (b8+(1:Int)))) b9 b10 b11 b12 b13 b14 b15 b16 b17 b18 b19 b20 b21 b22 (v14.fst) (v14.snd) b25 b26 b27 b28 b29)
 (
 r_3 b1 b2 b3 (S_ (IntKind.i64.wrap (b4+(1:Int)))) b9 b10 b11 b12 b13 b14 b15 b16 b17 b18 b19 b20 b21 b22 b23 b24 b25 b26 b27 b28 b29))
 (fun _ _ _ _ _ _ _ _ _ _ _ _ _ _ _ _ _ _ _ _ _ _ _ _ _ _ _ _ _ _=>none) a3 a0 a1 a2 a3 (v6.fst) (v6.snd) ((↑v6.fst:Int)) ((0:Int)) a4 a5 a6 a7 a8 a9 a10 a11 a12 a13 a14 a15 a16 a17 a18 a19 a20 a21 a22 a23 a24)
 (
 loopC N (fun r_5 (c0:Int) (c1:Nat) (c2:List AV) (c3:Int) (c4:Nat) (c5:List AV) (c6:Option Nat) (c7:Nat) (c8:List AV) (c9:Int) (c10:Nat) (c11:List AV) (c12:Nat) (c13:List AV) (c14:Nat) (c15:List AV) (c16:Int) (c17:List (AV × AV × Nat)) (c18 c19:Nat) (c20:List AV) (c21:Nat) (c22:List AV) (c23:Int) (c24:Nat) (c25:List AV) (c26:Nat) (c27:List AV) (c28 c29 c30 c31 c32 c33 c34:Int)=>
 cO (S_ (decide (c0<c34)))
 (
 loopC N (fun r_7 (b0 b1 b2 b3:Int) (b4:Nat) (b5:List AV) (b6:Int) (b7:Nat) (b8:List AV) (b9:Option Nat) (b10:Nat) (b11:List AV) (b12:Int) (b13:Nat) (b14:List AV) (b15:Nat) (b16:List AV) (b17:Nat) (b18:List AV) (b19:Int) (b20:List (AV × AV × Nat)) (b21 b22:Nat) (b23:List AV) (b24:Nat) (b25:List AV) (b26:Int) (b27:Nat) (b28:List AV) (b29:Nat) (b30:List AV) (b31 b32 b33 b34 b35 b36 b37 b38 b39:Int)=>
 gO (S_ (decide (b3≠(0:Int))))<|
 bO (
 cO (S_ (S_ (b0.tmod b3)==(0:Int)))
 (
 some (S_ (decide (S_ (if S_ (IntKind.i64.wrap (b0+b3))<b35 then S_ (IntKind.i64.wrap (b0+b3)) else b35)<=b37))))
 (
 some false)) fun v9=>
 cO v9
 (
 gO (S_ (decide (b3≠(0:Int))))<|
 cO (S_ (decide (b3>=b35)))
 (
 cO (S_ (decide (b2<(0:Int))))
 (
 gO (S_ (decide ((0:Int)<=S_ (IntKind.i64.wrap (b0.tdiv b3))/\S_ (IntKind.i64.wrap (b0.tdiv b3))<(↑b29:Int)/\0<b30.length)))<|
 bO (asFloat .f32 (b30.getD ((S_ (IntKind.i64.wrap (b0.tdiv b3))).toNat*1) AV.top)) fun v15=>
 cO (S_ (ordO .f32 (S_ (clean1 v15)) b9==some .gt||ordO .f32 (S_ (clean1 v15)) b9==some .eq))
 (
 r_5 (S_ (if S_ (IntKind.i64.wrap (b0+b3))<b35 then S_ (IntKind.i64.wrap (b0+b3)) else b35)) b4 b5 b6 b7 b8 b9 b10 b11 b12 b13 b14 b15 b16 b17 b18 b19 b20 b21 b22 b23 b24 b25 b26 b27 b28 b29 b30 b31 (S_ (IntKind.i64.wrap (b32+S_ (IntKind.i64.wrap (S_ (if S_ (IntKind.i64.wrap (b0+b3))<b35 then S_ (IntKind.i64.wrap (b0+b3)) else b35)-b33))))) (S_ (if S_ (IntKind.i64.wrap (b0+b3))<b35 then S_ (IntKind.i64.wrap (b0+b3)) else b35)) b34 b35 b36 b37)
 (
 cO (S_ (ordO .f32 (S_ (clean1 v15)) b9==some .gt||ordO .f32 (S_ (clean1 v15)) b9==some .eq))
 (
 gO (S_ (decide ((0:Int)<=b33/\b33<=S_ (if S_ (IntKind.i64.wrap (b0+b3))<b35 then S_ (IntKind.i64.wrap (b0+b3)) else b35)/\S_ (if S_ (IntKind.i64.wrap (b0+b3))<b35 then S_ (IntKind.i64.wrap (b0+b3)) else b35)<=(↑b4:Int))))<|
 gO (S_ (decide (b4*1=b5.length)))<|
 loopC N (fun r_20 (d0:Int) (d1:Nat) (d2:List AV) (d3 d4:Int) (d5:Nat) (d6:List AV) (d7:Int) (d8:Nat) (d9:List AV) (d10:Option Nat) (d11:Nat) (d12:List AV) (d13:Int) (d14:Nat) (d15:List AV) (d16:Nat) (d17:List AV) (d18:Nat) (d19:List AV) (d20:Int) (d21:List (AV × AV × Nat)) (d22 d23:Nat) (d24:List AV) (d25:Nat) (d26:List AV) (d27:Int) (d28:Nat) (d29:List AV) (d30:Nat) (d31:List AV) (d32 d33 d34 d35 d36 d37 d38 d39 d40 d41 d42:Int) (d43:Nat) (d44:List AV) (d45 d46 d47:Int) (d48 d49 d50 d51:Option Nat)=>
 cO (S_ (decide (d4<d3)))
 (
 gO (S_ (decide ((0:Int)<=d4/\d4<(↑d1:Int)/\0<d2.length)))<|
 bO (asFloat .f32 (d2.getD (d4.toNat*1) AV.top)) fun v23=>
 cO (S_ (ordO .f32 v23 d10==some .gt||ordO .f32 v23 d10==some .eq))
 (
 r_20 d0 d1 d2 d3 (S_ (IntKind.i64.wrap (d4+(1:Int)))) d5 d6 d7 d8 d9 d10 d11 d12 d13 d14 d15 d16 d17 d18 d19 d20 d21 d22 d23 d24 d25 d26 d27 d28 d29 d30 d31 d32 (S_ (IntKind.i64.wrap (d33+(1:Int)))) d34 d35 d36 d37 d38 d39 d40 d41 d42 d43 d44 d45 d46 d47 d48 d49 d50 d51)
 (
 r_20 d0 d1 d2 d3 (S_ (IntKind.i64.wrap (d4+(1:Int)))) d5 d6 d7 d8 d9 d10 d11 d12 d13 d14 d15 d16 d17 d18 d19 d20 d21 d22 d23 d24 d25 d26 d27 d28 d29 d30 d31 d32 d33 d34 d35 d36 d37 d38 d39 d40 d41 d42 d43 d44 d45 d46 d47 d48 d49 d50 d51))
 (
 r_5 (S_ (if S_ (IntKind.i64.wrap (b0+b3))<b35 then S_ (IntKind.i64.wrap (b0+b3)) else b35)) d5 d6 d7 d8 d9 d10 d11 d12 d13 d14 d15 d16 d17 d18 d19 d20 d21 d22 d23 d24 d25 d26 d27 d28 d29 d30 d31 d32 d33 d0 d35 d36 d37 d38))
 (fun _ _ _ _ _ _ _ _ _ _ _ _ _ _ _ _ _ _ _ _ _ _ _ _ _ _ _ _ _ _ _ _ _ _ _ _ _ _ _ _ _ _ _ _ _ _ _ _ _ _ _ _=>none) (S_ (if S_ (IntKind.i64.wrap (b0+b3))<b35 then S_ (IntKind.i64.wrap (b0+b3)) else b35)) ((S_ (if S_ (IntKind.i64.wrap (b0+b3))<b35 then S_ (IntKind.i64.wrap (b0+b3)) else b35)).toNat-b33.toNat) (List.take (((S_ (if S_ (IntKind.i64.wrap (b0+b3))<b35 then S_ (IntKind.i64.wrap (b0+b3)) else b35)).toNat-b33.toNat)*1) (List.drop (b33.toNat*1) b5)) ((↑((S_ (if S_ (IntKind.i64.wrap (b0+b3))<b35 then S_ (IntKind.i64.wrap (b0+b3)) else b35)).toNat-b33.toNat):Int)) ((0:Int)) b4 b5 b6 b7 b8 b9 b10 b11 b12 b13 b14 b15 b16 b17 b18 b19 b20 b21 b22 b23 b24 b25 b26 b27 b28 b29 b30 b31 b32 b33 b34 b35 b36 b37 b2 (S_ (IntKind.i64.wrap (b0.tdiv b3))) b2 (S_ (IntKind.i64.wrap (b0.tdiv b3))) b29 b30 b31 b2 (S_ (IntKind.i64.wrap (b0.tdiv b3))) (S_ (clean1 v15)) (S_ (clean1 v15)) (S_ (clean1 v15)) (S_ (clean1 v15)))
 (
 r_5 (S_ (if S_ (IntKind.i64.wrap (b0+b3))<b35 then S_ (IntKind.i64.wrap (b0+b3)) else b35)) b4 b5 b6 b7 b8 b9 b10 b11 b12 b13 b14 b15 b16 b17 b18 b19 b20 b21 b22 b23 b24 b25 b26 b27 b28 b29 b30 b31 b32 (S_ (if S_ (IntKind.i64.wrap (b0+b3))<b35 then S_ (IntKind.i64.wrap (b0+b3)) else b35)) b34 b35 b36 b37)))
 (
 bO (mlook Tryz.prog 130 62 (AV.agg [AV.int .i64 b2,AV.int .i64 (S_ (IntKind.i64.wrap (b0.tdiv b3)))]) b20) fun v14=>
 bO (asAgg v14.snd) fun v15=>
 gO (S_ (decide (v15.length=2)))<|
 bO (asFloat .f32 (v15.getD 0 AV.top)) fun v17=>
 bO (asFloat .f32 (v15.tail.getD 0 AV.top)) fun v18=>
 cO (S_ (ordO .f32 v17 b9==some .gt||ordO .f32 v17 b9==some .eq))
 (
 r_5 (S_ (if S_ (IntKind.i64.wrap (b0+b3))<b35 then S_ (IntKind.i64.wrap (b0+b3)) else b35)) b4 b5 b6 b7 b8 b9 b10 b11 b12 b13 b14 b15 b16 b17 b18 b19 b20 b21 b22 b23 b24 b25 b26 b27 b28 b29 b30 b31 (S_ (IntKind.i64.wrap (b32+S_ (IntKind.i64.wrap (S_ (if S_ (IntKind.i64.wrap (b0+b3))<b35 then S_ (IntKind.i64.wrap (b0+b3)) else b35)-b33))))) (S_ (if S_ (IntKind.i64.wrap (b0+b3))<b35 then S_ (IntKind.i64.wrap (b0+b3)) else b35)) b34 b35 b36 b37)
 (
 cO (S_ (ordO .f32 v18 b9==some .gt||ordO .f32 v18 b9==some .eq))
 (
 gO (S_ (decide ((0:Int)<=b33/\b33<=S_ (if S_ (IntKind.i64.wrap (b0+b3))<b35 then S_ (IntKind.i64.wrap (b0+b3)) else b35)/\S_ (if S_ (IntKind.i64.wrap (b0+b3))<b35 then S_ (IntKind.i64.wrap (b0+b3)) else b35)<=(↑b4:Int))))<|
 gO (S_ (decide (b4*1=b5.length)))<|
 loopC N (fun r_23 (e0:Int) (e1:Nat) (e2:List AV) (e3 e4:Int) (e5:Nat) (e6:List AV) (e7:Int) (e8:Nat) (e9:List AV) (e10:Option Nat) (e11:Nat) (e12:List AV) (e13:Int) (e14:Nat) (e15:List AV) (e16:Nat) (e17:List AV) (e18:Nat) (e19:List AV) (e20:Int) (e21:List (AV × AV × Nat)) (e22 e23:Nat) (e24:List AV) (e25:Nat) (e26:List AV) (e27:Int) (e28:Nat) (e29:List AV) (e30:Nat) (e31:List AV) (e32 e33 e34 e35 e36 e37 e38 e39 e40 e41 e42:Int) (e43:Nat) (e44:List AV) (e45 e46 e47:Int) (e48 e49 e50 e51:Option Nat)=>
 cO (S_ (decide (e4<e3)))
 (
 gO (S_ (decide ((0:Int)<=e4/\e4<(↑e1:Int)/\0<e2.length)))<|
 bO (asFloat .f32 (e2.getD (e4.toNat*1) AV.top)) fun v26=>
 cO (S_ (ordO .f32 v26 e10==some .gt||ordO .f32 v26 e10==some .eq))
 (
 r_23 e0 e1 e2 e3 (S_ (IntKind.i64.wrap (e4+(1:Int)))) e5 e6 e7 e8 e9 e10 e11 e12 e13 e14 e15 e16 e17 e18 e19 e20 e21 e22 e23 e24 e25 e26 e27 e28 e29 e30 e31 e32 (S_ (IntKind.i64.wrap (e33+(1:Int)))) e34 e35 e36 e37 e38 e39 e40 e41 e42 e43 e44 e45 e46 e47 e48 e49 e50 e51)
 (
 r_23 e0 e1 e2 e3 (S_ (IntKind.i64.wrap (e4+(1:Int)))) e5 e6 e7 e8 e9 e10 e11 e12 e13 e14 e15 e16 e17 e18 e19 e20 e21 e22 e23 e24 e25 e26 e27 e28 e29 e30 e31 e32 e33 e34 e35 e36 e37 e38 e39 e40 e41 e42 e43 e44 e45 e46 e47 e48 e49 e50 e51))
 (
 r_5 (S_ (if S_ (IntKind.i64.wrap (b0+b3))<b35 then S_ (IntKind.i64.wrap (b0+b3)) else b35)) e5 e6 e7 e8 e9 e10 e11 e12 e13 e14 e15 e16 e17 e18 e19 e20 e21 e22 e23 e24 e25 e26 e27 e28 e29 e30 e31 e32 e33 e0 e35 e36 e37 e38))
 (fun _ _ _ _ _ _ _ _ _ _ _ _ _ _ _ _ _ _ _ _ _ _ _ _ _ _ _ _ _ _ _ _ _ _ _ _ _ _ _ _ _ _ _ _ _ _ _ _ _ _ _ _=>none) (S_ (if S_ (IntKind.i64.wrap (b0+b3))<b35 then S_ (IntKind.i64.wrap (b0+b3)) else b35)) ((S_ (if S_ (IntKind.i64.wrap (b0+b3))<b35 then S_ (IntKind.i64.wrap (b0+b3)) else b35)).toNat-b33.toNat) (List.take (((S_ (if S_ (IntKind.i64.wrap (b0+b3))<b35 then S_ (IntKind.i64.wrap (b0+b3)) else b35)).toNat-b33.toNat)*1) (List.drop (b33.toNat*1) b5)) ((↑((S_ (if S_ (IntKind.i64.wrap (b0+b3))<b35 then S_ (IntKind.i64.wrap (b0+b3)) else b35)).toNat-b33.toNat):Int)) ((0:Int)) b4 b5 b6 b7 b8 b9 b10 b11 b12 b13 b14 b15 b16 b17 b18 b19 b20 b21 b22 b23 b24 b25 b26 b27 b28 b29 b30 b31 b32 b33 b34 b35 b36 b37 b2 (S_ (IntKind.i64.wrap (b0.tdiv b3))) b2 (S_ (IntKind.i64.wrap (b0.tdiv b3))) b29 b30 b31 b2 (S_ (IntKind.i64.wrap (b0.tdiv b3))) v17 v18 v17 v18)
 (
 r_5 (S_ (if S_ (IntKind.i64.wrap (b0+b3))<b35 then S_ (IntKind.i64.wrap (b0+b3)) else b35)) b4 b5 b6 b7 b8 b9 b10 b11 b12 b13 b14 b15 b16 b17 b18 b19 b20 b21 b22 b23 b24 b25 b26 b27 b28 b29 b30 b31 b32 (S_ (if S_ (IntKind.i64.wrap (b0+b3))<b35 then S_ (IntKind.i64.wrap (b0+b3)) else b35)) b34 b35 b36 b37))))
 (
 r_7 b0 (S_ (if S_ (IntKind.i64.wrap (b0+b3))<b35 then S_ (IntKind.i64.wrap (b0+b3)) else b35)) (S_ (IntKind.i64.wrap (b2+(1:Int)))) (S_ (IntKind.i64.wrap ((2:Int)*b3))) b4 b5 b6 b7 b8 b9 b10 b11 b12 b13 b14 b15 b16 b17 b18 b19 b20 b21 b22 b23 b24 b25 b26 b27 b28 b29 b30 b31 b32 b33 b34 b35 b36 b37 b2 (S_ (IntKind.i64.wrap (b0.tdiv b3)))))
 (
 cO (S_ (decide (b38<(0:Int))))
 (
 gO (S_ (decide ((0:Int)<=b39/\b39<(↑b29:Int)/\0<b30.length)))<|
 bO (asFloat .f32 (b30.getD (b39.toNat*1) AV.top)) fun v13=>
 cO (S_ (ordO .f32 (S_ (clean1 v13)) b9==some .gt||ordO .f32 (S_ (clean1 v13)) b9==some .eq))
 (
 r_5 b1 b4 b5 b6 b7 b8 b9 b10 b11 b12 b13 b14 b15 b16 b17 b18 b19 b20 b21 b22 b23 b24 b25 b26 b27 b28 b29 b30 b31 (S_ (IntKind.i64.wrap (b32+S_ (IntKind.i64.wrap (b1-b33))))) b1 b34 b35 b36 b37)
 (
 cO (S_ (ordO .f32 (S_ (clean1 v13)) b9==some .gt||ordO .f32 (S_ (clean1 v13)) b9==some .eq))
 (
 gO (S_ (decide ((0:Int)<=b33/\b33<=b1/\b1<=(↑b4:Int))))<|
 gO (S_ (decide (b4*1=b5.length)))<|
 loopC N (fun r_18 (f0:Int) (f1:Nat) (f2:List AV) (f3 f4:Int) (f5:Nat) (f6:List AV) (f7:Int) (f8:Nat) (f9:List AV) (f10:Option Nat) (f11:Nat) (f12:List AV) (f13:Int) (f14:Nat) (f15:List AV) (f16:Nat) (f17:List AV) (f18:Nat) (f19:List AV) (f20:Int) (f21:List (AV × AV × Nat)) (f22 f23:Nat) (f24:List AV) (f25:Nat) (f26:List AV) (f27:Int) (f28:Nat) (f29:List AV) (f30:Nat) (f31:List AV) (f32 f33 f34 f35 f36 f37 f38 f39 f40 f41 f42:Int) (f43:Nat) (f44:List AV) (f45 f46 f47:Int) (f48 f49 f50 f51:Option Nat)=>
 cO (S_ (decide (f4<f3)))
 (
 gO (S_ (decide ((0:Int)<=f4/\f4<(↑f1:Int)/\0<f2.length)))<|
 bO (asFloat .f32 (f2.getD (f4.toNat*1) AV.top)) fun v21=>
 cO (S_ (ordO .f32 v21 f10==some .gt||ordO .f32 v21 f10==some .eq))
 (
 r_18 f0 f1 f2 f3 (S_ (IntKind.i64.wrap (f4+(1:Int)))) f5 f6 f7 f8 f9 f10 f11 f12 f13 f14 f15 f16 f17 f18 f19 f20 f21 f22 f23 f24 f25 f26 f27 f28 f29 f30 f31 f32 (S_ (IntKind.i64.wrap (f33+(1:Int)))) f34 f35 f36 f37 f38 f39 f40 f41 f42 f43 f44 f45 f46 f47 f48 f49 f50 f51)
 (
 r_18 f0 f1 f2 f3 (S_ (IntKind.i64.wrap (f4+(1:Int)))) f5 f6 f7 f8 f9 f10 f11 f12 f13 f14 f15 f16 f17 f18 f19 f20 f21 f22 f23 f24 f25 f26 f27 f28 f29 f30 f31 f32 f33 f34 f35 f36 f37 f38 f39 f40 f41 f42 f43 f44 f45 f46 f47 f48 f49 f50 f51))
 (
 r_5 b1 f5 f6 f7 f8 f9 f10 f11 f12 f13 f14 f15 f16 f17 f18 f19 f20 f21 f22 f23 f24 f25 f26 f27 f28 f29 f30 f31 f32 f33 f0 f35 f36 f37 f38))
 (fun _ _ _ _ _ _ _ _ _ _ _ _ _ _ _ _ _ _ _ _ _ _ _ _ _ _ _ _ _ _ _ _ _ _ _ _ _ _ _ _ _ _ _ _ _ _ _ _ _ _ _ _=>none) b1 (b1.toNat-b33.toNat) (List.take ((b1.toNat-b33.toNat)*1) (List.drop (b33.toNat*1) b5)) ((↑(b1.toNat-b33.toNat):Int)) ((0:Int)) b4 b5 b6 b7 b8 b9 b10 b11 b12 b13 b14 b15 b16 b17 b18 b19 b20 b21 b22 b23 b24 b25 b26 b27 b28 b29 b30 b31 b32 b33 b34 b35 b36 b37 b38 b39 b38 b39 b29 b30 b31 b38 b39 (S_ (clean1 v13)) (S_ (clean1 v13)) (S_ (clean1 v13)) (S_ (clean1 v13)))
 (
 r_5 b1 b4 b5 b6 b7 b8 b9 b10 b11 b12 b13 b14 b15 b16 b17 b18 b19 b20 b21 b22 b23 b24 b25 b26 b27 b28 b29 b30 b31 b32 b1 b34 b35 b36 b37)))
 (
 bO (mlook Tryz.prog 130 62 (AV.agg [AV.int .i64 b38,AV.int .i64 b39]) b20) fun v12=>
 bO (asAgg v12.snd) fun v13=>
 gO (S_ (decide (v13.length=2)))<|
 bO (asFloat .f32 (v13.getD 0 AV.top)) fun v15=>
 bO (asFloat .f32 (v13.tail.getD 0 AV.top)) fun v16=>
 cO (S_ (ordO .f32 v15 b9==some .gt||ordO .f32 v15 b9==some .eq))
 (
 r_5 b1 b4 b5 b6 b7 b8 b9 b10 b11 b12 b13 b14 b15 b16 b17 b18 b19 b20 b21 b22 b23 b24 b25 b26 b27 b28 b29 b30 b31 (S_ (IntKind.i64.wrap (b32+S_ (IntKind.i64.wrap (b1-b33))))) b1 b34 b35 b36 b37)
 (
 cO (S_ (ordO .f32 v16 b9==some .gt||ordO .f32 v16 b9==some .eq))
 (
 gO (S_ (decide ((0:Int)<=b33/\b33<=b1/\b1<=(↑b4:Int))))<|
 gO (S_ (decide (b4*1=b5.length)))<|
 loopC N (fun r_21 (g0:Int) (g1:Nat) (g2:List AV) (g3 g4:Int) (g5:Nat) (g6:List AV) (g7:Int) (g8:Nat) (g9:List AV) (g10:Option Nat) (g11:Nat) (g12:List AV) (g13:Int) (g14:Nat) (g15:List AV) (g16:Nat) (g17:List AV) (g18:Nat) (g19:List AV) (g20:Int) (g21:List (AV × AV × Nat)) (g22 g23:Nat) (g24:List AV) (g25:Nat) (g26:List AV) (g27:Int) (g28:Nat) (g29:List AV) (g30:Nat) (g31:List AV) (g32 g33 g34 g35 g36 g37 g38 g39 g40 g41 g42:Int) (g43:Nat) (g44:List AV) (g45 g46 g47:Int) (g48 g49 g50 g51:Option Nat)=>
 cO (S_ (decide (g4<g3)))
 (
 gO (S_ (decide ((0:Int)<=g4/\g4<(↑g1:Int)/\0<g2.length)))<|
 bO (asFloat .f32 (g2.getD (g4.toNat*1) AV.top)) fun v24=>
 cO (S_ (ordO .f32 v24 g10==some .gt||ordO .f32 v24 g10==some .eq))
 (
 r_21 g0 g1 g2 g3 (S_ (IntKind.i64.wrap (g4+(1:Int)))) g5 g6 g7 g8 g9 g10 g11 g12 g13 g14 g15 g16 g17 g18 g19 g20 g21 g22 g23 g24 g25 g26 g27 g28 g29 g30 g31 g32 (S_ (IntKind.i64.wrap (g33+(1:Int)))) g34 g35 g36 g37 g38 g39 g40 g41 g42 g43 g44 g45 g46 g47 g48 g49 g50 g51)
 (
 r_21 g0 g1 g2 g3 (S_ (IntKind.i64.wrap (g4+(1:Int)))) g5 g6 g7 g8 g9 g10 g11 g12 g13 g14 g15 g16 g17 g18 g19 g20 g21 g22 g23 g24 g25 g26 g27 g28 g29 g30 g31 g32 g33 g34 g35 g36 g37 g38 g39 g40 g41 g42 g43 g44 g45 g46 g47 g48 g49 g50 g51))
 (
 r_5 b1 g5 g6 g7 g8 g9 g10 g11 g12 g13 g14 g15 g16 g17 g18 g19 g20 g21 g22 g23 g24 g25 g26 g27 g28 g29 g30 g31 g32 g33 g0 g35 g36 g37 g38))
 (fun _ _ _ _ _ _ _ _ _ _ _ _ _ _ _ _ _ _ _ _ _ _ _ _ _ _ _ _ _ _ _ _ _ _ _ _ _ _ _ _ _ _ _ _ _ _ _ _ _ _ _ _=>none) b1 (b1.toNat-b33.toNat) (List.take ((b1.toNat-b33.toNat)*1) (List.drop (b33.toNat*1) b5)) ((↑(b1.toNat-b33.toNat):Int)) ((0:Int)) b4 b5 b6 b7 b8 b9 b10 b11 b12 b13 b14 b15 b16 b17 b18 b19 b20 b21 b22 b23 b24 b25 b26 b27 b28 b29 b30 b31 b32 b33 b34 b35 b36 b37 b38 b39 b38 b39 b29 b30 b31 b38 b39 v15 v16 v15 v16)
 (
 r_5 b1 b4 b5 b6 b7 b8 b9 b10 b11 b12 b13 b14 b15 b16 b17 b18 b19 b20 b21 b22 b23 b24 b25 b26 b27 b28 b29 b30 b31 b32 b1 b34 b35 b36 b37)))))
 (fun _ _ _ _ _ _ _ _ _ _ _ _ _ _ _ _ _ _ _ _ _ _ _ _ _ _ _ _ _ _ _ _ _ _ _ _ _ _ _ _=>none) c0 (S_ (IntKind.i64.wrap (c0+(1:Int)))) ((0:Int)) c31 c1 c2 c3 c4 c5 c6 c7 c8 c9 c10 c11 c12 c13 c14 c15 c16 c17 c18 c19 c20 c21 c22 c23 c24 c25 c26 c27 c28 c29 c30 c31 c32 c33 c34 ((-1:Int)) c0)
 (
 some ([RLeaf.v (AV.int .i64 c29),RLeaf.v (AV.int .i64 (0:Int))])))
 (fun _ _ _ _ _ _ _ _ _ _ _ _ _ _ _ _ _ _ _ _ _ _ _ _ _ _ _ _ _ _ _ _ _ _ _=>none) f a4 a5 a6 a7 a8 a9 a10 a11 a12 a13 a14 a15 a16 a22 a23 a24 a18 a19 a20 a21 a22 a23 a24 0 ([]) a22 a23 a24 ((0:Int)) f a6 ((↑a4:Int)) f t))
 (fun _ _ _ _ _ _ _ _ _ _ _ _ _ _ _ _ _ _ _ _ _ _ _ _ _=>none) m ls ((↑m:Int)) ((0:Int)) n cs b m ls o 3 (putCells (putCells (putCells (zrow (ofV (Go.Value.int IntKind.i64 (0:Int))).cells 3) 0 [AV.int .i64 (S_ (chkT n (fO cs) b m ls))]) 1 [AV.int .i64 (S_ (if f<(0:Int)\/f>(↑n:Int) then (3:Int) else if t<(0:Int)\/t>(↑n:Int) then (3:Int) else if t<f then (11:Int) else (0:Int)))]) 2 [AV.int .i64 (S_ (if (!S_ (finB o))=true then (1:Int) else (0:Int)))]) b m ls 0 ([]) ((0:Int)) ([]) 0 0 ([]) n cs b)):=by kernel_rfl
theorem run_40 (N n:Nat) (cs:List AV) (f t c:Int):(fsM mzO waysQ N 12).call (List RLeaf) 40 [.ofB (.list n cs),.ofB (.int .i64 f),.ofB (.int .i64 t),.ofB (.int .i64 c)] [] (resK [true])=(
 loopC N (fun r_0 (a0:Nat) (a1:List AV) (a2 a3 a4 a5:Int) (a6:Nat) (a7:List AV) (a8:Nat) (a9:List AV)=>
 cO (S_ (decide (a5<a4)))
 (
 gO (S_ (decide (a4≠(0:Int))))<|
 gO (S_ (decide (a4≠(0:Int))))<|
 gO (S_ (decide ((0:Int)<=S_ (IntKind.i64.wrap (a2+S_ (IntKind.i64.wrap ((S_ (IntKind.i64.wrap (a5*S_ (IntKind.i64.wrap (a3-a2))))).tdiv a4))))/\S_ (IntKind.i64.wrap (a2+S_ (IntKind.i64.wrap ((S_ (IntKind.i64.wrap (a5*S_ (IntKind.i64.wrap (a3-a2))))).tdiv a4))))<=S_ (IntKind.i64.wrap (a2+S_ (IntKind.i64.wrap ((S_ (IntKind.i64.wrap (S_ (IntKind.i64.wrap (a5+(1:Int)))*S_ (IntKind.i64.wrap (a3-a2))))).tdiv a4))))/\S_ (IntKind.i64.wrap (a2+S_ (IntKind.i64.wrap ((S_ (IntKind.i64.wrap (S_ (IntKind.i64.wrap (a5+(1:Int)))*S_ (IntKind.i64.wrap (a3-a2))))).tdiv a4))))<=(↑a0:Int))))<|
 gO (S_ (decide (a0*1=a1.length)))<|
 gO (S_ (decide (Flos ((S_ (IntKind.i64.wrap (a2+S_ (IntKind.i64.wrap ((S_ (IntKind.i64.wrap (S_ (IntKind.i64.wrap (a5+(1:Int)))*S_ (IntKind.i64.wrap (a3-a2))))).tdiv a4))))).toNat-(S_ (IntKind.i64.wrap (a2+S_ (IntKind.i64.wrap ((S_ (IntKind.i64.wrap (a5*S_ (IntKind.i64.wrap (a3-a2))))).tdiv a4))))).toNat) (List.take (((S_ (IntKind.i64.wrap (a2+S_ (IntKind.i64.wrap ((S_ (IntKind.i64.wrap (S_ (IntKind.i64.wrap (a5+(1:Int)))*S_ (IntKind.i64.wrap (a3-a2))))).tdiv a4))))).toNat-(S_ (IntKind.i64.wrap (a2+S_ (IntKind.i64.wrap ((S_ (IntKind.i64.wrap (a5*S_ (IntKind.i64.wrap (a3-a2))))).tdiv a4))))).toNat)*1) (List.drop ((S_ (IntKind.i64.wrap (a2+S_ (IntKind.i64.wrap ((S_ (IntKind.i64.wrap (a5*S_ (IntKind.i64.wrap (a3-a2))))).tdiv a4))))).toNat*1) a1))/\0<(S_ (IntKind.i64.wrap (a2+S_ (IntKind.i64.wrap ((S_ (IntKind.i64.wrap (S_ (IntKind.i64.wrap (a5+(1:Int)))*S_ (IntKind.i64.wrap (a3-a2))))).tdiv a4))))).toNat-(S_ (IntKind.i64.wrap (a2+S_ (IntKind.i64.wrap ((S_ (IntKind.i64.wrap (a5*S_ (IntKind.i64.wrap (a3-a2))))).tdiv a4))))).toNat)))<|
 gO (S_ (decide ((a8+1)*9<=549755813888)))<|
 r_0 a0 a1 a2 a3 a4 (S_ (IntKind.i64.wrap (a5+(1:Int)))) a6 a7 (a8+1) (a9++putCells (zrow (ofV (Go.Value.agg #[Go.Value.float .f32 0,Go.Value.float .f32 0])).cells 2) 0 [AV.flo .f32 (S_ (extV Ordering.lt ((fO (List.take (((S_ (IntKind.i64.wrap (a2+S_ (IntKind.i64.wrap ((S_ (IntKind.i64.wrap (S_ (IntKind.i64.wrap (a5+(1:Int)))*S_ (IntKind.i64.wrap (a3-a2))))).tdiv a4))))).toNat-(S_ (IntKind.i64.wrap (a2+S_ (IntKind.i64.wrap ((S_ (IntKind.i64.wrap (a5*S_ (IntKind.i64.wrap (a3-a2))))).tdiv a4))))).toNat)*1) (List.drop ((S_ (IntKind.i64.wrap (a2+S_ (IntKind.i64.wrap ((S_ (IntKind.i64.wrap (a5*S_ (IntKind.i64.wrap (a3-a2))))).tdiv a4))))).toNat*1) a1))).getD 0 none) (fO (List.take (((S_ (IntKind.i64.wrap (a2+S_ (IntKind.i64.wrap ((S_ (IntKind.i64.wrap (S_ (IntKind.i64.wrap (a5+(1:Int)))*S_ (IntKind.i64.wrap (a3-a2))))).tdiv a4))))).toNat-(S_ (IntKind.i64.wrap (a2+S_ (IntKind.i64.wrap ((S_ (IntKind.i64.wrap (a5*S_ (IntKind.i64.wrap (a3-a2))))).tdiv a4))))).toNat)*1) (List.drop ((S_ (IntKind.i64.wrap (a2+S_ (IntKind.i64.wrap ((S_ (IntKind.i64.wrap (a5*S_ (IntKind.i64.wrap (a3-a2))))).tdiv a4))))).toNat*1) a1))))),AV.flo .f32 (S_ (extV Ordering.gt ((fO (List.take (((S_ (IntKind.i64.wrap (a2+S_ (IntKind.i64.wrap ((S_ (IntKind.i64.wrap (S_ (IntKind.i64.wrap (a5+(1:Int)))*S_ (IntKind.i64.wrap (a3-a2))))).tdiv a4))))).toNat-(S_ (IntKind.i64.wrap (a2+S_ (IntKind.i64.wrap ((S_ (IntKind.i64.wrap (a5*S_ (IntKind.i64.wrap (a3-a2))))).tdiv a4))))).toNat)*1) (List.drop ((S_ (IntKind.i64.wrap (a2+S_ (IntKind.i64.wrap ((S_ (IntKind.i64.wrap (a5*S_ (IntKind.i64.wrap (a3-a2))))).tdiv a4))))).toNat*1) a1))).getD 0 none) (fO (List.take (((S_ (IntKind.i64.wrap (a2+S_ (IntKind.i64.wrap ((S_ (IntKind.i64.wrap (S_ (IntKind.i64.wrap (a5+(1:Int)))*S_ (IntKind.i64.wrap (a3-a2))))).tdiv a4))))).toNat-(S_ (IntKind.i64.wrap (a2+S_ (IntKind.i64.wrap ((S_ (IntKind.i64.wrap (a5*S_ (IntKind.i64.wrap (a3-a2))))).tdiv a4))))).toNat)*1) (List.drop ((S_ (IntKind.i64.wrap (a2+S_ (IntKind.i64.wrap ((S_ (IntKind.i64.wrap (a5*S_ (IntKind.i64.wrap (a3-a2))))).tdiv a4))))).toNat*1) a1)))))]))
 (
 some ([RLeaf.fz a8 a9])))
 (fun _ _ _ _ _ _ _ _ _ _=>none) n cs f t c ((0:Int)) 0 ([]) 0 ([])):=by kernel_rfl
theorem run_42 (N n:Nat) (cs:List AV) (o:Option Nat):(fsM mzO waysQ N 12).call (List RLeaf) 42 [.ofB (.list n cs),.ofB (.flo .f32 o)] [] (resK [false])=(
 loopC N (fun r_0 (a0:Nat) (a1:List AV) (a2:Option Nat) (a3 a4:Int)=>
 cO (S_ (decide (a4<(↑a0:Int))))
 (
 gO (S_ (decide ((0:Int)<=a4/\a4<(↑a0:Int)/\0<a1.length)))<|
 bO (asFloat .f32 (a1.getD (a4.toNat*1) AV.top)) fun v3=>
 cO (S_ (ordO .f32 v3 a2==some .gt||ordO .f32 v3 a2==some .eq))
 (
 r_0 a0 a1 a2 (S_ (IntKind.i64.wrap (a3+(1:Int)))) (S_ (IntKind.i64.wrap (a4+(1:Int)))))
 (
 r_0 a0 a1 a2 a3 (S_ (IntKind.i64.wrap (a4+(1:Int))))))
 (
 some ([RLeaf.v (AV.int .i64 a3)])))
 (fun _ _ _ _ _=>none) n cs o ((0:Int)) ((0:Int))):=by kernel_rfl
theorem run_43 (N n:Nat) (cs:List AV) (m:Nat) (ds:List AV):(fsM mzO waysQ N 12).call (List RLeaf) 43 [.ofB (.list n cs),.ofB (.list m ds)] [] (resK [false])=(
 cO (S_ ((↑n:Int) != (↑m:Int)))
 (
 some ([RLeaf.v (AV.bool false)]))
 (
 loopC N (fun r_1 (a0:Nat) (a1:List AV) (a2:Nat) (a3:List AV) (a4:Int)=>
 cO (S_ (decide (a4<(↑a0:Int))))
 (
 gO (S_ (decide ((0:Int)<=a4/\a4<(↑a0:Int)/\0<a1.length)))<|
 gO (S_ (decide (a4.toNat*2+2<=a1.length)))<|
 bO (asFloat .f32 (a1.getD (a4.toNat*2) AV.top)) fun v5=>
 bO (asFloat .f32 (a1.getD (a4.toNat*2+1) AV.top)) fun v6=>
 gO (S_ (decide ((0:Int)<=a4/\a4<(↑a2:Int)/\0<a3.length)))<|
 gO (S_ (decide (a4.toNat*2+2<=a3.length)))<|
 bO (asFloat .f32 (a3.getD (a4.toNat*2) AV.top)) fun v9=>
 bO (asFloat .f32 (a3.getD (a4.toNat*2+1) AV.top)) fun v10=>
 cO (S_ !(S_ (ordO .f32 v5 v9==some .eq)&&(S_ (ordO .f32 v6 v10==some .eq)&&true)))
 (
 some ([RLeaf.v (AV.bool false)]))
 (
 r_1 a0 a1 a2 a3 (S_ (IntKind.i64.wrap (a4+(1:Int))))))
 (
 some ([RLeaf.v (AV.bool true)])))
 (fun _ _ _ _ _=>none) n cs m ds ((0:Int)))):=by kernel_rfl
end Go.Abs
end
