/- Part 25 of the library of the proof: an abstract run of the program. -/
import Derived.Test.YtkloadomnblkeaaGreatDoorAp16
set_option linter.unusedVariables false
set_option linter.unusedSimpArgs false

set_option maxRecDepth 100000
noncomputable section
namespace Go.Abs
open Go.Proofs Classical
theorem run_38 (N n:Nat) (cs:List AV):(fsM mzC waysP N 12).call (List RLeaf) 38 [.ofB (.list n cs)] [] (resK [false])=(
 gO (S_ (decide ((0:Int)<=(0:Int)/\(0:Int)<(↑n:Int)/\0<cs.length)))<|
 bO (asFloat .f32 (cs.getD 0 AV.top)) fun v1=>
 gO (S_ (decide ((0:Int)<=(0:Int)/\(0:Int)<(↑n:Int)/\0<cs.length)))<|
 bO (asFloat .f32 (cs.getD 0 AV.top)) fun v3=>
 loopC N (fun r_4 (a0:Nat) (a1:List AV) (a2:Int) (a3 a4 a5 a6:Option Nat)=>
 cO (S_ (decide (a2<(↑a0:Int))))
 (
 gO (S_ (decide ((0:Int)<=a2/\a2<(↑a0:Int)/\0<a1.length)))<|
 bO (asFloat .f32 (a1.getD (a2.toNat*1) AV.top)) fun v7=>
 cO (S_ (ordO .f32 v7 a5==some .lt))
 (
 gO (S_ (decide ((0:Int)<=a2/\a2<(↑a0:Int)/\0<a1.length)))<|
 bO (asFloat .f32 (a1.getD (a2.toNat*1) AV.top)) fun v10=>
 gO (S_ (decide ((0:Int)<=a2/\a2<(↑a0:Int)/\0<a1.length)))<|
 bO (asFloat .f32 (a1.getD (a2.toNat*1) AV.top)) fun v12=>
 cO (S_ (ordO .f32 v12 a6==some .gt))
 (
 gO (S_ (decide ((0:Int)<=a2/\a2<(↑a0:Int)/\0<a1.length)))<|
 bO (asFloat .f32 (a1.getD (a2.toNat*1) AV.top)) fun v15=>
 r_4 a0 a1 (S_ (IntKind.i64.wrap (a2+(1:Int)))) a3 a4 v10 v15)
 (
 r_4 a0 a1 (S_ (IntKind.i64.wrap (a2+(1:Int)))) a3 a4 v10 a6))
 (
 gO (S_ (decide ((0:Int)<=a2/\a2<(↑a0:Int)/\0<a1.length)))<|
 bO (asFloat .f32 (a1.getD (a2.toNat*1) AV.top)) fun v10=>
 cO (S_ (ordO .f32 v10 a6==some .gt))
 (
 gO (S_ (decide ((0:Int)<=a2/\a2<(↑a0:Int)/\0<a1.length)))<|
 bO (asFloat .f32 (a1.getD (a2.toNat*1) AV.top)) fun v13=>
 r_4 a0 a1 (S_ (IntKind.i64.wrap (a2+(1:Int)))) a3 a4 a5 v13)
 (
 r_4 a0 a1 (S_ (IntKind.i64.wrap (a2+(1:Int)))) a3 a4 a5 a6)))
 (
 some ([RLeaf.v (AV.agg [AV.flo .f32 a5,AV.flo .f32 a6])])))
 (fun _ _ _ _ _ _ _=>none) n cs ((0:Int)) (some 0) (some 0) v1 v3):=by kernel_rfl
end Go.Abs
end
