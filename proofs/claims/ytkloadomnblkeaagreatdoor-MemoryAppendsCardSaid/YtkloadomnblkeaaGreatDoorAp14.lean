/- Part 14 of the library of the proof: an abstract run of the program. -/
import Derived.Test.YtkloadomnblkeaaGreatDoorAp13
set_option linter.unusedVariables false
set_option linter.unusedSimpArgs false

set_option maxRecDepth 100000
noncomputable section
namespace Go.Abs
open Go.Proofs Classical
theorem run_90 (N:Nat) (a b:Int):(fsM mz2 waysP N 12).call (List RLeaf) 90 [.ofB (.int .i64 a),.ofB (.int .i64 b)] [] (resK [false])=(
 cO (S_ (b==(0:Int)))
 (
 some ([RLeaf.v (AV.int .i64 (0:Int))]))
 (
 loopC N (fun r_1 (a0 a1 a2:Int)=>
 cO (S_ (decide (a2<a0)))
 (
 r_1 a0 (S_ (IntKind.i64.wrap (a1+(1:Int)))) (S_ (IntKind.i64.wrap ((2:Int)*a2))))
 (
 some ([RLeaf.v (AV.int .i64 a1)])))
 (fun _ _ _=>none) b ((1:Int)) a)):=by kernel_rfl
theorem run_78 (N:Nat) (a b l i:Int):(fsM mz2 waysP N 12).call (List RLeaf) 78 [.ofB (.int .i64 a),.ofB (.int .i64 b),.s (.agg [.b (.int .i64 l),.b (.int .i64 i)])] [] (resK [false,false])=(
 cO (S_ (decide (l<(0:Int))))
 (
 some ([RLeaf.v (AV.int .i64 i),RLeaf.v (AV.int .i64 (S_ (IntKind.i64.wrap (i+(1:Int)))))]))
 (
 loopC N (fun r_1 (a0 a1 a2 a3 a4:Int)=>
 cO (S_ (decide (a2<a3)))
 (
 r_1 a0 (S_ (IntKind.i64.wrap ((2:Int)*a1))) (S_ (IntKind.i64.wrap (a2+(1:Int)))) a3 a4)
 (
 some ([RLeaf.v (AV.int .i64 (S_ (if S_ (IntKind.i64.wrap (a1*a4))<a0 then S_ (IntKind.i64.wrap (a1*a4)) else a0))),RLeaf.v (AV.int .i64 (S_ (if S_ (IntKind.i64.wrap (a1*S_ (IntKind.i64.wrap (a4+(1:Int)))))<a0 then S_ (IntKind.i64.wrap (a1*S_ (IntKind.i64.wrap (a4+(1:Int))))) else a0)))])))
 (fun _ _ _ _ _=>none) b a ((0:Int)) l i)):=by kernel_rfl
theorem run_33 (N n:Nat) (cs:List AV) (m:Nat) (ds:List AV):(fsM mz2 waysP N 12).call (List RLeaf) 33 [.ofB (.list n cs),.ofB (.list m ds)] [] (resK [false])=(
 cO (S_ ((↑n:Int) != (↑m:Int)))
 (
 some ([RLeaf.v (AV.bool false)]))
 (
 loopC N (fun r_1 (a0:Nat) (a1:List AV) (a2:Nat) (a3:List AV) (a4:Int)=>
 cO (S_ (decide (a4<(↑a0:Int))))
 (
 gO (S_ (decide ((0:Int)<=a4/\a4<(↑a0:Int)/\0<a1.length)))<|
 gO (S_ (decide (a4.toNat*2+2<=a1.length)))<|
 bO (asInt IntKind.i64 (a1.getD (a4.toNat*2) AV.top)) fun v5=>
 bO (asInt IntKind.i64 (a1.getD (a4.toNat*2+1) AV.top)) fun v6=>
 gO (S_ (decide ((0:Int)<=a4/\a4<(↑a2:Int)/\0<a3.length)))<|
 gO (S_ (decide (a4.toNat*2+2<=a3.length)))<|
 bO (asInt IntKind.i64 (a3.getD (a4.toNat*2) AV.top)) fun v9=>
 bO (asInt IntKind.i64 (a3.getD (a4.toNat*2+1) AV.top)) fun v10=>
 cO (S_ !(S_ (v5==v9)&&(S_ (v6==v10)&&true)))
 (
 some ([RLeaf.v (AV.bool false)]))
 (
 r_1 a0 a1 a2 a3 (S_ (IntKind.i64.wrap (a4+(1:Int))))))
 (
 some ([RLeaf.v (AV.bool true)])))
 (fun _ _ _ _ _=>none) n cs m ds ((0:Int)))):=by kernel_rfl
theorem run_34 (N n:Nat) (cs:List AV):(fsM mz2 waysP N 12).call (List RLeaf) 34 [.ofB (.list n cs)] [] (resK [true])=(
 loopC N (fun r_0 (a0:Nat) (a1:List AV) (a2 a3:Int) (a4:Nat) (a5:List AV) (a6:Nat) (a7:List AV)=>
 cO (S_ (decide (a3<a2)))
 (
 gO (S_ (decide ((0:Int)<=a3/\a3<(↑a0:Int)/\0<a1.length)))<|
 gO (S_ (decide (a3.toNat*2+2<=a1.length)))<|
 bO (asInt IntKind.i64 (a1.getD (a3.toNat*2) AV.top)) fun v4=>
 bO (asInt IntKind.i64 (a1.getD (a3.toNat*2+1) AV.top)) fun v5=>
 gO (S_ (decide ((a6+1)*17<=549755813888)))<|
 r_0 a0 a1 a2 (S_ (IntKind.i64.wrap (a3+(1:Int)))) a4 a5 (a6+1) (a7++putCells (zrow (ofV (Go.Value.agg #[Go.Value.int IntKind.i64 (0:Int),Go.Value.int IntKind.i64 (0:Int)])).cells 2) 0 [AV.int .i64 v4,AV.int .i64 v5]))
 (
 some ([RLeaf.fz a6 a7])))
 (fun _ _ _ _ _ _ _ _=>none) n cs ((↑n:Int)) ((0:Int)) 0 ([]) 0 ([])):=by kernel_rfl
theorem run_88 (N:Nat) (a b c:Int):(fsM mz2 waysP N 12).call (List RLeaf) 88 [.ofB (.int .i64 a),.ofB (.int .i64 b),.ofB (.int .i64 c)] [] (resK [false])=(
 gO (S_ (decide (Ints 3 (putCells (putCells (putCells (zrow (ofV (Go.Value.int IntKind.i64 (0:Int))).cells 3) 0 [AV.int .i64 (S_ (if b<(0:Int)\/b>a then (3:Int) else (0:Int)))]) 1 [AV.int .i64 (S_ (if c<(0:Int)\/c>a then (3:Int) else (0:Int)))]) 2 [AV.int .i64 (S_ (if S_ (decide (c<b))=true then (11:Int) else (0:Int)))]))))<|
 some ([RLeaf.v (AV.int .i64 (S_ (firstNZ (intsOf (putCells (putCells (putCells (zrow (ofV (Go.Value.int IntKind.i64 (0:Int))).cells 3) 0 [AV.int .i64 (S_ (if b<(0:Int)\/b>a then (3:Int) else (0:Int)))]) 1 [AV.int .i64 (S_ (if c<(0:Int)\/c>a then (3:Int) else (0:Int)))]) 2 [AV.int .i64 (S_ (if S_ (decide (c<b))=true then (11:Int) else (0:Int)))])))))])):=by kernel_rfl
end Go.Abs
end
