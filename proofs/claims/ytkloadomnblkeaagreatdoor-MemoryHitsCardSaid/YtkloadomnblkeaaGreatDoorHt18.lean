/- Part 18 of the library of the proof: an abstract run of the program. -/
import Derived.Test.YtkloadomnblkeaaGreatDoorHt17
set_option linter.unusedVariables false
set_option linter.unusedSimpArgs false

set_option maxRecDepth 100000
noncomputable section
namespace Go.Abs
open Go.Proofs Classical
theorem XT (N n:Nat) (cs:List AV) (b:Int):(dA mzI aK N 12).call (List aa) 85 [.aT (.list n cs),.aT (.int .i64 b)] [] (bp [false])=(
 cO (S_ ((↑n:Int)==(0:Int)))
 (
 some ([aa.v (AV.list 0 [])]))
 (
 gO (S_ (decide (bu n cs/\n<=100000/\cG (fO cs)/\(1:Int)<=b/\b<=(100000:Int))))<|
 gO (S_ (decide ((0:Int)<=(0:Int)/\(0:Int)<(↑1:Int))))<|
 gO (S_ !(false&&Nat.beq 1 (0:Nat)))<|
 bg N (fun V' (a0:Nat) (a1:List AV) (a2:Nat) (a3:List AV) (a4:Nat) (a5:List AV)=>
 cO (S_ (decide ((↑a0:Int)>(1:Int))))
 (
 gO (S_ (decide (bu (2*a0) a1/\a0<=100000/\cG (fO a1)/\(1:Int)<=(2:Int)/\(2:Int)<=(100000:Int))))<|
 gO (S_ (decide ((a4+1)*25<=549755813888)))<|
 V' (S_ ((cY 2 0 [] (b_ (fO a1))).length / 2)) (S_ (bU (cY 2 0 [] (b_ (fO a1))))) a2 a3 (a4+1) (a5++ag (aX (cM (Go.Value.slice none 0 0)).cells 1) 0 [AV.list (S_ ((cY 2 0 [] (b_ (fO a1))).length / 2)) (S_ (bU (cY 2 0 [] (b_ (fO a1)))))]))
 (
 some ([aa.v (AV.list a4 a5)])))
 (fun _ _ _ _ _ _=>none) (S_ ((cY b.toNat 0 [] (fP (fO cs))).length / 2)) (S_ (bU (cY b.toNat 0 [] (fP (fO cs))))) 0 ([]) 1 (ag (aX (cM (Go.Value.slice none 0 0)).cells 1) 0 [AV.list (S_ ((cY b.toNat 0 [] (fP (fO cs))).length / 2)) (S_ (bU (cY b.toNat 0 [] (fP (fO cs)))))]))):=by kernel_rfl
end Go.Abs
end
