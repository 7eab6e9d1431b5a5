/- Part 21 of the library of the proof: an abstract run of the program. -/
import Derived.Test.YtkloadomnblkeaaGreatDoorHt19
import Derived.Test.YtkloadomnblkeaaGreatDoorHt20
set_option linter.unusedVariables false
set_option linter.unusedSimpArgs false

set_option maxRecDepth 100000
noncomputable section
namespace Go.Abs
open Go.Proofs Classical
theorem XU (N n:Nat) (cs:List AV):(dA mzJ aK N 12).call (List aa) 44 [.aT (.list n cs)] [] (bp [true])=(
 bg N (fun uB (a0:Nat) (a1:List AV) (a2 a3:Int) (a4:Nat) (a5:List AV) (a6:Nat) (a7:List AV)=>
 cO (S_ (decide (a3<a2)))
 (
 gO (S_ (decide ((0:Int)<=a3/\a3<(↑a0:Int)/\0<a1.length)))<|
 gO (S_ (decide (a3.toNat*2+2<=a1.length)))<|
 bO (aq .f32 (a1.getD (a3.toNat*2) AV.top)) fun v4=>
 bO (aq .f32 (a1.getD (a3.toNat*2+1) AV.top)) fun v5=>
 gO (S_ (decide ((a6+1)*9<=549755813888)))<|
 uB a0 a1 a2 (S_ (IntKind.i64.wrap (a3+(1:Int)))) a4 a5 (a6+1) (a7++ag (aX (cM (Go.Value.agg #[Go.Value.float .f32 0,Go.Value.float .f32 0])).cells 2) 0 [AV.aL .f32 v4,AV.aL .f32 v5]))
 (
 some ([aa.fz a6 a7])))
 (fun _ _ _ _ _ _ _ _=>none) n cs ((↑n:Int)) ((0:Int)) 0 ([]) 0 ([])):=by kernel_rfl
end Go.Abs
end
