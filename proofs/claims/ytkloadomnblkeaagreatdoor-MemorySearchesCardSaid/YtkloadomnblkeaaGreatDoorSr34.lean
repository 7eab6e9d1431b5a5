/- Part 34 of the library that the proof of the statement uses: an abstract run of the program, proved right, and what its functions give. -/
import Derived.Test.YtkloadomnblkeaaGreatDoorSr20
import Derived.Test.YtkloadomnblkeaaGreatDoorSr33
set_option linter.unusedVariables false
set_option linter.unusedSimpArgs false

set_option maxRecDepth 100000
noncomputable section
namespace Go.Abs
open Go.Proofs Classical
theorem run_48 (N n:Nat) (cs:List AV):(fsM mzO waysQ N 12).call (List RLeaf) 48 [.ofB (.list n cs)] [] (resK [false])=(
 loopC N (fun r_0 (a0:Nat) (a1:List AV) (a2 a3:Int)=>
 cO (S_ (decide (a3<(↑a0:Int))))
 (
 gO (S_ (decide ((0:Int)<=a3/\a3<(↑a0:Int)/\0<a1.length)))<|
 bO (asFloat .f32 (a1.getD (a3.toNat*1) AV.top)) fun v3=>
 gO (S_ (decide ((0:Int)<=a2/\a2<(↑a0:Int)/\0<a1.length)))<|
 bO (asFloat .f32 (a1.getD (a2.toNat*1) AV.top)) fun v5=>
 cO (S_ (ordO .f32 v3 v5==some .gt))
 (
 r_0 a0 a1 a3 (S_ (IntKind.i64.wrap (a3+(1:Int)))))
 (
 r_0 a0 a1 a2 (S_ (IntKind.i64.wrap (a3+(1:Int))))))
 (
 some ([RLeaf.v (AV.int .i64 a2)])))
 (fun _ _ _ _=>none) n cs ((0:Int)) ((0:Int))):=by kernel_rfl
theorem run_51 (N n:Nat) (cs:List AV) (f:Int) (o:Option Nat):(fsM mzO waysQ N 12).call (List RLeaf) 51 [.ofB (.list n cs),.ofB (.int .i64 f),.ofB (.flo .f32 o)] [] (resK [false])=(
 loopC N (fun r_0 (a0:Nat) (a1:List AV) (a2:Option Nat) (a3:Int)=>
 cO (S_ (decide (a3<(↑a0:Int))))
 (
 gO (S_ (decide ((0:Int)<=a3/\a3<(↑a0:Int)/\0<a1.length)))<|
 bO (asFloat .f32 (a1.getD (a3.toNat*1) AV.top)) fun v3=>
 cO (S_ (ordO .f32 v3 a2==some .gt||ordO .f32 v3 a2==some .eq))
 (
 some ([RLeaf.v (AV.int .i64 a3)]))
 (
 r_0 a0 a1 a2 (S_ (IntKind.i64.wrap (a3+(1:Int))))))
 (
 some ([RLeaf.v (AV.int .i64 (-1:Int))])))
 (fun _ _ _ _=>none) n cs o f):=by kernel_rfl
theorem run_52 (N n:Nat) (cs:List AV) (f:Int) (o:Option Nat):(fsM mzO waysQ N 12).call (List RLeaf) 52 [.ofB (.list n cs),.ofB (.int .i64 f),.ofB (.flo .f32 o)] [] (resK [false])=(
 loopC N (fun r_0 (a0:Nat) (a1:List AV) (a2:Option Nat) (a3:Int)=>
 cO (S_ (decide (a3<(↑a0:Int))))
 (
 joinC N (
 (fun (y0_2:Nat) (y1_2:List AV) (y2_2:Option Nat) (y3_2:Int) (y4_2:Bool)=>
 cO y4_2
 (
 some ([RLeaf.v (AV.int .i64 y3_2)]))
 (
 r_0 y0_2 y1_2 y2_2 (S_ (IntKind.i64.wrap (y3_2+(1:Int)))))),PUnit.unit) fun k_2=>
 gO (S_ (decide ((0:Int)<=S_ (IntKind.i64.wrap (a3-(1:Int)))/\S_ (IntKind.i64.wrap (a3-(1:Int)))<(↑a0:Int)/\0<a1.length)))<|
 bO (asFloat .f32 (a1.getD ((S_ (IntKind.i64.wrap (a3-(1:Int)))).toNat*1) AV.top)) fun v4=>
 bO (
 cO (S_ (ordO .f32 v4 a2==some .lt))
 (
 gO (S_ (decide ((0:Int)<=a3/\a3<(↑a0:Int)/\0<a1.length)))<|
 bO (asFloat .f32 (a1.getD (a3.toNat*1) AV.top)) fun v8=>
 some (S_ (ordO .f32 v8 a2==some .gt||ordO .f32 v8 a2==some .eq)))
 (
 some false)) fun v5=>
 k_2.1 a0 a1 a2 a3 v5)
 (
 some ([RLeaf.v (AV.int .i64 (-1:Int))])))
 (fun _ _ _ _=>none) n cs o (S_ (if (1:Int)>f then (1:Int) else f))):=by kernel_rfl
end Go.Abs
end
