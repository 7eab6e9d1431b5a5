/- Part 20 of the library of the proof: an abstract run of the program. -/
import Derived.Test.YtkloadomnblkeaaGreatDoorAp19
set_option linter.unusedVariables false
set_option linter.unusedSimpArgs false

set_option maxRecDepth 100000
noncomputable section
namespace Go.Abs
open Go.Proofs Classical
theorem run_85 (N n:Nat) (cs:List AV) (b:Int):(fsM mzI waysP N 12).call (List RLeaf) 85 [.ofB (.list n cs),.ofB (.int .i64 b)] [] (resK [false])=(
 cO (S_ ((↑n:Int)==(0:Int)))
 (
 some ([RLeaf.v (AV.list 0 [])]))
 (
 gO (S_ (decide (Flos n cs/\n<=100000/\FinL (fO cs)/\(1:Int)<=b/\b<=(100000:Int))))<|
 gO (S_ (decide ((0:Int)<=(0:Int)/\(0:Int)<(↑1:Int))))<|
 gO (S_ !(false&&Nat.beq 1 (0:Nat)))<|
 loopC N (fun r_4 (a0:Nat) (a1:List AV) (a2:Nat) (a3:List AV) (a4:Nat) (a5:List AV)=>
 cO (S_ (decide ((↑a0:Int)>(1:Int))))
 (
 gO (S_ (decide (Flos (2*a0) a1/\a0<=100000/\FinL (fO a1)/\(1:Int)<=(2:Int)/\(2:Int)<=(100000:Int))))<|
 gO (S_ (decide ((a4+1)*25<=549755813888)))<|
 r_4 (S_ ((grpF 2 0 [] (pairsF (fO a1))).length / 2)) (S_ (flosL (grpF 2 0 [] (pairsF (fO a1))))) a2 a3 (a4+1) (a5++putCells (zrow (ofV (Go.Value.slice none 0 0)).cells 1) 0 [AV.list (S_ ((grpF 2 0 [] (pairsF (fO a1))).length / 2)) (S_ (flosL (grpF 2 0 [] (pairsF (fO a1)))))]))
 (
 some ([RLeaf.v (AV.list a4 a5)])))
 (fun _ _ _ _ _ _=>none) (S_ ((grpF b.toNat 0 [] (dupC (fO cs))).length / 2)) (S_ (flosL (grpF b.toNat 0 [] (dupC (fO cs))))) 0 ([]) 1 (putCells (zrow (ofV (Go.Value.slice none 0 0)).cells 1) 0 [AV.list (S_ ((grpF b.toNat 0 [] (dupC (fO cs))).length / 2)) (S_ (flosL (grpF b.toNat 0 [] (dupC (fO cs)))))]))):=by kernel_rfl
end Go.Abs
end
