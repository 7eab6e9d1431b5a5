/- Part 18 of the library of the proof: an abstract run of the program. -/
import Derived.Test.YtkloadomnblkeaaGreatDoorAp17
set_option linter.unusedVariables false
set_option linter.unusedSimpArgs false

set_option maxRecDepth 100000
noncomputable section
namespace Go.Abs
open Go.Proofs Classical
theorem run_128 (N n:Nat) (cs:List AV) (a:Int):(fsM mzH waysP N 12).call (List RLeaf) 128 [.ofB (.list n cs),.ofB (.int .i64 a),.s (.o (.fn 129 [] [])),.s (.o (.fn 130 [] []))] [] (resK [true])=(
 loopC N (fun r_0 (a0:Int) (a1:Nat) (a2:List AV) (a3 a4:Int) (a5:Nat) (a6:List AV) (a7:Nat) (a8:List AV)=>
 cO (S_ (decide (a4<a3)))
 (
 gO (S_ (decide ((0:Int)<=a4/\a4<(↑a1:Int)/\0<a2.length)))<|
 bO (asFloat .f32 (a2.getD (a4.toNat*1) AV.top)) fun v3=>
 gO (S_ (decide (a0≠(0:Int))))<|
 cO (S_ (S_ (a4.tmod a0)==(0:Int)))
 (
 gO (S_ (decide ((a7+1)*9<=549755813888)))<|
 r_0 a0 a1 a2 a3 (S_ (IntKind.i64.wrap (a4+(1:Int)))) a5 a6 (a7+1) (a8++putCells (zrow (ofV (Go.Value.agg #[Go.Value.float .f32 0,Go.Value.float .f32 0])).cells 2) 0 [AV.flo .f32 (S_ (clean1 v3)),AV.flo .f32 (S_ (clean1 v3))]))
 (
 gO (S_ (decide ((0:Int)<=S_ (IntKind.i64.wrap ((↑a7:Int)-(1:Int)))/\S_ (IntKind.i64.wrap ((↑a7:Int)-(1:Int)))<(↑a7:Int))))<|
 gO (S_ !(true&&a7.beq (0:Nat)))<|
 gO (S_ (decide ((S_ (IntKind.i64.wrap ((↑a7:Int)-(1:Int)))).toNat*2+2<=a8.length)))<|
 bO (asFloat .f32 (a8.getD ((S_ (IntKind.i64.wrap ((↑a7:Int)-(1:Int)))).toNat*2) AV.top)) fun v9=>
 bO (asFloat .f32 (a8.getD ((S_ (IntKind.i64.wrap ((↑a7:Int)-(1:Int)))).toNat*2+1) AV.top)) fun v10=>
 gO (S_ (decide (finB v9=true/\finB v10=true/\finB (S_ (clean1 v3))=true/\finB (S_ (clean1 v3))=true)))<|
 gO (S_ (decide ((0:Int)<=S_ (IntKind.i64.wrap ((↑a7:Int)-(1:Int)))/\S_ (IntKind.i64.wrap ((↑a7:Int)-(1:Int)))<(↑a7:Int))))<|
 gO (S_ !(true&&a7.beq (0:Nat)))<|
 gO (S_ (decide ((S_ (IntKind.i64.wrap ((↑a7:Int)-(1:Int)))).toNat*2+2<=a8.length)))<|
 r_0 a0 a1 a2 a3 (S_ (IntKind.i64.wrap (a4+(1:Int)))) a5 a6 a7 (putCells a8 ((S_ (IntKind.i64.wrap ((↑a7:Int)-(1:Int)))).toNat*2) [AV.flo .f32 (S_ (minO v9 (S_ (clean1 v3)))),AV.flo .f32 (S_ (maxO v10 (S_ (clean1 v3))))])))
 (
 some ([RLeaf.fz a7 a8])))
 (fun _ _ _ _ _ _ _ _ _=>none) a n cs ((↑n:Int)) ((0:Int)) 0 ([]) 0 ([])):=by kernel_rfl
theorem run_131 (N n:Nat) (cs:List AV) (a:Int):(fsM mzH waysP N 12).call (List RLeaf) 131 [.ofB (.list n cs),.ofB (.int .i64 a),.s (.o (.fn 132 [] [])),.s (.o (.fn 130 [] []))] [] (resK [true])=(
 loopC N (fun r_0 (a0:Int) (a1:Nat) (a2:List AV) (a3 a4:Int) (a5:Nat) (a6:List AV) (a7:Nat) (a8:List AV)=>
 cO (S_ (decide (a4<a3)))
 (
 gO (S_ (decide ((0:Int)<=a4/\a4<(↑a1:Int)/\0<a2.length)))<|
 gO (S_ (decide (a4.toNat*2+2<=a2.length)))<|
 bO (asFloat .f32 (a2.getD (a4.toNat*2) AV.top)) fun v4=>
 bO (asFloat .f32 (a2.getD (a4.toNat*2+1) AV.top)) fun v5=>
 gO (S_ (decide (a0≠(0:Int))))<|
 cO (S_ (S_ (a4.tmod a0)==(0:Int)))
 (
 gO (S_ (decide ((a7+1)*9<=549755813888)))<|
 r_0 a0 a1 a2 a3 (S_ (IntKind.i64.wrap (a4+(1:Int)))) a5 a6 (a7+1) (a8++putCells (zrow (ofV (Go.Value.agg #[Go.Value.float .f32 0,Go.Value.float .f32 0])).cells 2) 0 [AV.flo .f32 (S_ v4),AV.flo .f32 (S_ v5)]))
 (
 gO (S_ (decide ((0:Int)<=S_ (IntKind.i64.wrap ((↑a7:Int)-(1:Int)))/\S_ (IntKind.i64.wrap ((↑a7:Int)-(1:Int)))<(↑a7:Int))))<|
 gO (S_ !(true&&a7.beq (0:Nat)))<|
 gO (S_ (decide ((S_ (IntKind.i64.wrap ((↑a7:Int)-(1:Int)))).toNat*2+2<=a8.length)))<|
 bO (asFloat .f32 (a8.getD ((S_ (IntKind.i64.wrap ((↑a7:Int)-(1:Int)))).toNat*2) AV.top)) fun v11=>
 bO (asFloat .f32 (a8.getD ((S_ (IntKind.i64.wrap ((↑a7:Int)-(1:Int)))).toNat*2+1) AV.top)) fun v12=>
 gO (S_ (decide (finB v11=true/\finB v12=true/\finB (S_ v4)=true/\finB (S_ v5)=true)))<|
 gO (S_ (decide ((0:Int)<=S_ (IntKind.i64.wrap ((↑a7:Int)-(1:Int)))/\S_ (IntKind.i64.wrap ((↑a7:Int)-(1:Int)))<(↑a7:Int))))<|
 gO (S_ !(true&&a7.beq (0:Nat)))<|
 gO (S_ (decide ((S_ (IntKind.i64.wrap ((↑a7:Int)-(1:Int)))).toNat*2+2<=a8.length)))<|
 r_0 a0 a1 a2 a3 (S_ (IntKind.i64.wrap (a4+(1:Int)))) a5 a6 a7 (putCells a8 ((S_ (IntKind.i64.wrap ((↑a7:Int)-(1:Int)))).toNat*2) [AV.flo .f32 (S_ (minO v11 (S_ v4))),AV.flo .f32 (S_ (maxO v12 (S_ v5)))])))
 (
 some ([RLeaf.fz a7 a8])))
 (fun _ _ _ _ _ _ _ _ _=>none) a n cs ((↑n:Int)) ((0:Int)) 0 ([]) 0 ([])):=by kernel_rfl
end Go.Abs
end
