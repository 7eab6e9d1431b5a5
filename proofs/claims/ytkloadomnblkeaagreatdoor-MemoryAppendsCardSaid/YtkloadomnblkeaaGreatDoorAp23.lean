/- Part 23 of the library of the proof: an abstract run of the program. -/
import Derived.Test.YtkloadomnblkeaaGreatDoorAp21
import Derived.Test.YtkloadomnblkeaaGreatDoorAp22
set_option linter.unusedVariables false
set_option linter.unusedSimpArgs false

set_option maxRecDepth 100000
noncomputable section
namespace Go.Abs
open Go.Proofs Classical
theorem run_44 (N n:Nat) (cs:List AV):(fsM mzJ waysP N 12).call (List RLeaf) 44 [.ofB (.list n cs)] [] (resK [true])=(
 loopC N (fun r_0 (a0:Nat) (a1:List AV) (a2 a3:Int) (a4:Nat) (a5:List AV) (a6:Nat) (a7:List AV)=>
 cO (S_ (decide (a3<a2)))
 (
 gO (S_ (decide ((0:Int)<=a3/\a3<(↑a0:Int)/\0<a1.length)))<|
 gO (S_ (decide (a3.toNat*2+2<=a1.length)))<|
 bO (asFloat .f32 (a1.getD (a3.toNat*2) AV.top)) fun v4=>
 bO (asFloat .f32 (a1.getD (a3.toNat*2+1) AV.top)) fun v5=>
 gO (S_ (decide ((a6+1)*9<=549755813888)))<|
 r_0 a0 a1 a2 (S_ (IntKind.i64.wrap (a3+(1:Int)))) a4 a5 (a6+1) (a7++putCells (zrow (ofV (Go.Value.agg #[Go.Value.float .f32 0,Go.Value.float .f32 0])).cells 2) 0 [AV.flo .f32 v4,AV.flo .f32 v5]))
 (
 some ([RLeaf.fz a6 a7])))
 (fun _ _ _ _ _ _ _ _=>none) n cs ((↑n:Int)) ((0:Int)) 0 ([]) 0 ([])):=by kernel_rfl
end Go.Abs
end
