/- Part 35 of the library of the proof: an abstract run of the program. -/
import Derived.Test.YtkloadomnblkeaaGreatDoorHt20
import Derived.Test.YtkloadomnblkeaaGreatDoorHt34
set_option linter.unusedVariables false
set_option linter.unusedSimpArgs false

set_option maxRecDepth 100000
noncomputable section
namespace Go.Abs
open Go.Proofs Classical
theorem X' (N n:Nat) (cs:List AV):(dA Lp cQ N 12).call (List aa) 48 [.aT (.list n cs)] [] (bp [false])=(
 bg N (fun uB (a0:Nat) (a1:List AV) (a2 a3:Int)=>
 cO (S_ (decide (a3<(↑a0:Int))))
 (
 gO (S_ (decide ((0:Int)<=a3/\a3<(↑a0:Int)/\0<a1.length)))<|
 bO (aq .f32 (a1.getD (a3.toNat*1) AV.top)) fun v3=>
 gO (S_ (decide ((0:Int)<=a2/\a2<(↑a0:Int)/\0<a1.length)))<|
 bO (aq .f32 (a1.getD (a2.toNat*1) AV.top)) fun v5=>
 cO (S_ (aM .f32 v3 v5==some .gt))
 (
 uB a0 a1 a3 (S_ (IntKind.i64.wrap (a3+(1:Int)))))
 (
 uB a0 a1 a2 (S_ (IntKind.i64.wrap (a3+(1:Int))))))
 (
 some ([aa.v (AV.int .i64 a2)])))
 (fun _ _ _ _=>none) n cs ((0:Int)) ((0:Int))):=by kernel_rfl
theorem X_ (N n:Nat) (cs:List AV) (f:Int) (o:Option Nat):(dA Lp cQ N 12).call (List aa) 51 [.aT (.list n cs),.aT (.int .i64 f),.aT (.aL .f32 o)] [] (bp [false])=(
 bg N (fun uB (a0:Nat) (a1:List AV) (a2:Option Nat) (a3:Int)=>
 cO (S_ (decide (a3<(↑a0:Int))))
 (
 gO (S_ (decide ((0:Int)<=a3/\a3<(↑a0:Int)/\0<a1.length)))<|
 bO (aq .f32 (a1.getD (a3.toNat*1) AV.top)) fun v3=>
 cO (S_ (aM .f32 v3 a2==some .gt||aM .f32 v3 a2==some .eq))
 (
 some ([aa.v (AV.int .i64 a3)]))
 (
 uB a0 a1 a2 (S_ (IntKind.i64.wrap (a3+(1:Int))))))
 (
 some ([aa.v (AV.int .i64 (-1:Int))])))
 (fun _ _ _ _=>none) n cs o f):=by kernel_rfl
theorem Ya (N n:Nat) (cs:List AV) (f:Int) (o:Option Nat):(dA Lp cQ N 12).call (List aa) 52 [.aT (.list n cs),.aT (.int .i64 f),.aT (.aL .f32 o)] [] (bp [false])=(
 bg N (fun uB (a0:Nat) (a1:List AV) (a2:Option Nat) (a3:Int)=>
 cO (S_ (decide (a3<(↑a0:Int))))
 (
 dy N (
 (fun (afl:Nat) (afm:List AV) (afn:Option Nat) (acz:Int) (afo:Bool)=>
 cO afo
 (
 some ([aa.v (AV.int .i64 acz)]))
 (
 uB afl afm afn (S_ (IntKind.i64.wrap (acz+(1:Int)))))),PUnit.unit) fun k_2=>
 gO (S_ (decide ((0:Int)<=S_ (IntKind.i64.wrap (a3-(1:Int)))/\S_ (IntKind.i64.wrap (a3-(1:Int)))<(↑a0:Int)/\0<a1.length)))<|
 bO (aq .f32 (a1.getD ((S_ (IntKind.i64.wrap (a3-(1:Int)))).toNat*1) AV.top)) fun v4=>
 bO (
 cO (S_ (aM .f32 v4 a2==some .lt))
 (
 gO (S_ (decide ((0:Int)<=a3/\a3<(↑a0:Int)/\0<a1.length)))<|
 bO (aq .f32 (a1.getD (a3.toNat*1) AV.top)) fun v8=>
 some (S_ (aM .f32 v8 a2==some .gt||aM .f32 v8 a2==some .eq)))
 (
 some false)) fun v5=>
 k_2.1 a0 a1 a2 a3 v5)
 (
 some ([aa.v (AV.int .i64 (-1:Int))])))
 (fun _ _ _ _=>none) n cs o (S_ (if (1:Int)>f then (1:Int) else f))):=by kernel_rfl
end Go.Abs
end
