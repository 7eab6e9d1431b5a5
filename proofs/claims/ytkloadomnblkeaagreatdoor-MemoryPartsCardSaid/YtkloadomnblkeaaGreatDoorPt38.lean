/- Part 38 of the library that the proof of the statement uses: an abstract run of the program, proved right, and what its functions give. -/
import Derived.Test.YtkloadomnblkeaaGreatDoorPt21
import Derived.Test.YtkloadomnblkeaaGreatDoorPt37
set_option linter.unusedVariables false
set_option linter.unusedSimpArgs false

set_option maxRecDepth 100000
noncomputable section
namespace Go.Abs
open Go.Proofs Classical
theorem run_77 (N n:Nat) (cs:List AV) (b:Int):(fsM mzR waysQ N 12).call (List RLeaf) 77 [.s (.agg [.b (.list n cs),.b (.int .i64 b)])] [] (resK [false])=(
 bO (
 cO (S_ (decide ((↑n:Int)<=(64:Int))))
 (
 gO (S_ (decide (Flos n cs)))<|
 some (S_ (S_ (sampErr n (fO cs))==(0:Int))))
 (
 some false)) fun v0=>
 bO (
 cO v0
 (
 some (S_ (S_ (if b<(1:Int)\/b>(256:Int) then (3:Int) else (0:Int))==(0:Int))))
 (
 some false)) fun v1=>
 some ([RLeaf.v (AV.bool v1)])):=by kernel_rfl
end Go.Abs
end
