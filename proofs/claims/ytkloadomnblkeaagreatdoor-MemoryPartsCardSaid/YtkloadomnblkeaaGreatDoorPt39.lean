/- Part 39 of the library that the proof of the statement uses: an abstract run of the program, proved right, and what its functions give. -/
import Derived.Test.YtkloadomnblkeaaGreatDoorPt15
set_option linter.unusedVariables false
set_option linter.unusedSimpArgs false

set_option maxRecDepth 100000
noncomputable section
namespace Go.Abs
open Go.Proofs Classical
theorem run_30 (N:Nat) (a b c d:Int):(fsM mzC waysP N 12).call (List RLeaf) 30 [.ofB (.int .i64 a),.ofB (.int .i64 b),.ofB (.int .i64 c),.ofB (.int .i64 d)] [] (resK [true,false])=(
 gO (S_ (decide (Ints 3 (putCells (putCells (putCells (zrow (ofV (Go.Value.int IntKind.i64 (0:Int))).cells 3) 0 [AV.int .i64 (S_ (if a<(1:Int)\/a>(256:Int) then (3:Int) else (0:Int)))]) 1 [AV.int .i64 (S_ (if b<(0:Int)\/b>(4096:Int) then (3:Int) else (0:Int)))]) 2 [AV.int .i64 (S_ (if c<(0:Int)\/c>b then (3:Int) else if d<(0:Int)\/d>b then (3:Int) else if d<c then (11:Int) else (0:Int)))]))))<|
 cO (S_ (S_ (firstNZ (intsOf (putCells (putCells (putCells (zrow (ofV (Go.Value.int IntKind.i64 (0:Int))).cells 3) 0 [AV.int .i64 (S_ (if a<(1:Int)\/a>(256:Int) then (3:Int) else (0:Int)))]) 1 [AV.int .i64 (S_ (if b<(0:Int)\/b>(4096:Int) then (3:Int) else (0:Int)))]) 2 [AV.int .i64 (S_ (if c<(0:Int)\/c>b then (3:Int) else if d<(0:Int)\/d>b then (3:Int) else if d<c then (11:Int) else (0:Int)))]))) != (0:Int)))
 (
 some ([RLeaf.fz 0 [],RLeaf.v (AV.int .i64 (S_ (firstNZ (intsOf (putCells (putCells (putCells (zrow (ofV (Go.Value.int IntKind.i64 (0:Int))).cells 3) 0 [AV.int .i64 (S_ (if a<(1:Int)\/a>(256:Int) then (3:Int) else (0:Int)))]) 1 [AV.int .i64 (S_ (if b<(0:Int)\/b>(4096:Int) then (3:Int) else (0:Int)))]) 2 [AV.int .i64 (S_ (if c<(0:Int)\/c>b then (3:Int) else if d<(0:Int)\/d>b then (3:Int) else if d<c then (11:Int) else (0:Int)))])))))]))
 (
 loopC N (fun r_2 (a0:Int) (a1:Nat) (a2:List AV) (a3:Nat) (a4:List AV) (a5:Nat) (a6:List AV) (a7 a8 a9 a10:Int)=>
 cO (S_ (decide (a0<a10)))
 (
 loopC N (fun r_4 (b0 b1 b2 b3:Int) (b4:Nat) (b5:List AV) (b6:Nat) (b7:List AV) (b8:Nat) (b9:List AV) (b10 b11 b12 b13 b14 b15:Int)=>
 gO (S_ (decide (b3≠(0:Int))))<|
 bO (
 cO (S_ (S_ (b0.tmod b3)==(0:Int)))
 (
 some (S_ (decide (S_ (if S_ (IntKind.i64.wrap (b0+b3))<b11 then S_ (IntKind.i64.wrap (b0+b3)) else b11)<=b13))))
 (
 some false)) fun v6=>
 cO v6
 (
 gO (S_ (decide (b3≠(0:Int))))<|
 cO (S_ (decide (b3>=b11)))
 (
 gO (S_ (decide ((b8+1)*17<=549755813888)))<|
 r_2 (S_ (if S_ (IntKind.i64.wrap (b0+b3))<b11 then S_ (IntKind.i64.wrap (b0+b3)) else b11)) b4 b5 b6 b7 (b8+1) (b9++putCells (zrow (ofV (Go.Value.agg #[Go.Value.int IntKind.i64 (0:Int),Go.Value.int IntKind.i64 (0:Int)])).cells 2) 0 [AV.int .i64 b2,AV.int .i64 (S_ (IntKind.i64.wrap (b0.tdiv b3)))]) b10 b11 b12 b13)
 (
 r_4 b0 (S_ (if S_ (IntKind.i64.wrap (b0+b3))<b11 then S_ (IntKind.i64.wrap (b0+b3)) else b11)) (S_ (IntKind.i64.wrap (b2+(1:Int)))) (S_ (IntKind.i64.wrap ((2:Int)*b3))) b4 b5 b6 b7 b8 b9 b10 b11 b12 b13 b2 (S_ (IntKind.i64.wrap (b0.tdiv b3)))))
 (
 gO (S_ (decide ((b8+1)*17<=549755813888)))<|
 r_2 b1 b4 b5 b6 b7 (b8+1) (b9++putCells (zrow (ofV (Go.Value.agg #[Go.Value.int IntKind.i64 (0:Int),Go.Value.int IntKind.i64 (0:Int)])).cells 2) 0 [AV.int .i64 b14,AV.int .i64 b15]) b10 b11 b12 b13))
 (fun _ _ _ _ _ _ _ _ _ _ _ _ _ _ _ _=>none) a0 (S_ (IntKind.i64.wrap (a0+(1:Int)))) ((0:Int)) a7 a1 a2 a3 a4 a5 a6 a7 a8 a9 a10 ((-1:Int)) a0)
 (
 some ([RLeaf.fz a5 a6,RLeaf.v (AV.int .i64 (0:Int))])))
 (fun _ _ _ _ _ _ _ _ _ _ _=>none) c 0 ([]) 3 (putCells (putCells (putCells (zrow (ofV (Go.Value.int IntKind.i64 (0:Int))).cells 3) 0 [AV.int .i64 (S_ (if a<(1:Int)\/a>(256:Int) then (3:Int) else (0:Int)))]) 1 [AV.int .i64 (S_ (if b<(0:Int)\/b>(4096:Int) then (3:Int) else (0:Int)))]) 2 [AV.int .i64 (S_ (if c<(0:Int)\/c>b then (3:Int) else if d<(0:Int)\/d>b then (3:Int) else if d<c then (11:Int) else (0:Int)))]) 0 ([]) a b c d)):=by kernel_rfl
end Go.Abs
end
