/- Part 33 of the library of the proof: an abstract run of the program. -/
import Derived.Test.YtkloadomnblkeaaGreatDoorAp32
set_option linter.unusedVariables false
set_option linter.unusedSimpArgs false

set_option maxRecDepth 100000
noncomputable section
namespace Go.Abs
open Go.Proofs Classical
theorem run_79 (N n:Nat) (cs:List AV) (b:Int) (m:Nat) (ls:List AV) (q:Nat) (ds:List AV):(fsM mzAp waysQ N 12).call (List RLeaf) 79 [.ofB (.list n cs),.s (.agg [.b (.int .i64 b),.b (.list m ls)]),.ofB (.list q ds)] [] (resK [true,false,false])=(
 gO (S_ (decide (Flos n cs/\Lvs m ls)))<|
 gO (S_ (decide (Flos q ds)))<|
 gO (S_ (decide (Ints 3 (putCells (putCells (putCells (zrow (ofV (Go.Value.int IntKind.i64 (0:Int))).cells 3) 0 [AV.int .i64 (S_ (chkT n (fO cs) b m ls))]) 1 [AV.int .i64 (S_ (sampErr q (fO ds)))]) 2 [AV.int .i64 (S_ (if S_ (decide (S_ (IntKind.i64.wrap ((↑n:Int)+(↑q:Int)))>(4096:Int)))=true then (5:Int) else (0:Int)))]))))<|
 cO (S_ (S_ (firstNZ (intsOf (putCells (putCells (putCells (zrow (ofV (Go.Value.int IntKind.i64 (0:Int))).cells 3) 0 [AV.int .i64 (S_ (chkT n (fO cs) b m ls))]) 1 [AV.int .i64 (S_ (sampErr q (fO ds)))]) 2 [AV.int .i64 (S_ (if S_ (decide (S_ (IntKind.i64.wrap ((↑n:Int)+(↑q:Int)))>(4096:Int)))=true then (5:Int) else (0:Int)))]))) != (0:Int)))
 (
 some ([RLeaf.fz 0 [],RLeaf.v (AV.agg [AV.int .i64 (0:Int),AV.list 0 []]),RLeaf.v (AV.int .i64 (S_ (firstNZ (intsOf (putCells (putCells (putCells (zrow (ofV (Go.Value.int IntKind.i64 (0:Int))).cells 3) 0 [AV.int .i64 (S_ (chkT n (fO cs) b m ls))]) 1 [AV.int .i64 (S_ (sampErr q (fO ds)))]) 2 [AV.int .i64 (S_ (if S_ (decide (S_ (IntKind.i64.wrap ((↑n:Int)+(↑q:Int)))>(4096:Int)))=true then (5:Int) else (0:Int)))])))))]))
 (
 gO (S_ (decide ((0:Int)<=S_ (IntKind.i64.wrap ((↑n:Int)+(↑q:Int)))/\S_ (IntKind.i64.wrap ((↑n:Int)+(↑q:Int)))<=S_ (IntKind.i64.wrap ((↑n:Int)+(↑q:Int)))/\S_ (IntKind.i64.wrap ((↑n:Int)+(↑q:Int)))<=(281474976710656:Int)/\(↑4:Int)*S_ (IntKind.i64.wrap ((↑n:Int)+(↑q:Int)))<=(281474976710656:Int))))<|
 gO (S_ (decide (cs.length=n*1)))<|
 gO (S_ (decide ((0:Int)<=S_ (↑(n.min (S_ (IntKind.i64.wrap ((↑n:Int)+(↑q:Int)))).toNat):Int)/\S_ (↑(n.min (S_ (IntKind.i64.wrap ((↑n:Int)+(↑q:Int)))).toNat):Int)<=(↑(S_ (IntKind.i64.wrap ((↑n:Int)+(↑q:Int)))).toNat:Int)/\(↑(S_ (IntKind.i64.wrap ((↑n:Int)+(↑q:Int)))).toNat:Int)<=(↑(S_ (IntKind.i64.wrap ((↑n:Int)+(↑q:Int)))).toNat:Int))))<|
 gO (S_ (decide (ds.length=q*1)))<|
 loopC N (fun r_8 (a0 a1 a2:Int) (a3:Nat) (a4:List AV) (a5:Nat) (a6:List AV) (a7:Nat) (a8:List AV) (a9:Int) (a10:Nat) (a11:List AV) (a12:Nat) (a13:List AV)=>
 cO (S_ (decide (a1<a0)))
 (
 gO (S_ (decide ((0:Int)<=a1/\a1<(↑a12:Int))))<|
 gO (S_ !(false&&a12.beq (0:Nat)))<|
 bO (asFloat .f32 (a13.getD (a1.toNat*1) AV.top)) fun v12=>
 gO (S_ (decide ((0:Int)<=a1/\a1<(↑a12:Int))))<|
 gO (S_ !(false&&a12.beq (0:Nat)))<|
 gO (S_ (decide (a1.toNat*1+1<=a13.length)))<|
 r_8 a0 (S_ (IntKind.i64.wrap (a1+(1:Int)))) a2 a3 a4 a5 a6 a7 a8 a9 a10 a11 a12 (putCells a13 (a1.toNat*1) [AV.flo .f32 (S_ (clean1 v12))]))
 (
 cO (S_ ((↑a12:Int)==(0:Int)))
 (
 gO (S_ (decide (a2=a2)))<|
 gO (S_ (decide (a3=a3/\a4=a4)))<|
 gO (S_ (decide (a2=a2)))<|
 gO (S_ (decide (a3=a3/\a4=a4)))<|
 some ([RLeaf.fz a12 a13,RLeaf.v (AV.agg [AV.int .i64 a2,AV.list 0 []]),RLeaf.v (AV.int .i64 (0:Int))]))
 (
 gO (S_ (decide (Flos a12 a13/\a12<=100000/\FinL (fO a13)/\(1:Int)<=a2/\a2<=(100000:Int))))<|
 gO (S_ (decide ((0:Int)<=(0:Int)/\(0:Int)<(↑1:Int))))<|
 gO (S_ !(false&&Nat.beq 1 (0:Nat)))<|
 loopC N (fun r_14 (b0:Nat) (b1:List AV) (b2:Int) (b3:Nat) (b4:List AV) (b5:Nat) (b6:List AV) (b7:Nat) (b8:List AV) (b9:Int) (b10:Nat) (b11:List AV) (b12:Nat) (b13:List AV) (b14:Nat) (b15:List AV) (b16:Nat) (b17:List AV)=>
 cO (S_ (decide ((↑b0:Int)>(1:Int))))
 (
 gO (S_ (decide (Flos (2*b0) b1/\b0<=100000/\FinL (fO b1)/\(1:Int)<=(2:Int)/\(2:Int)<=(100000:Int))))<|
 gO (S_ (decide ((b16+1)*25<=549755813888)))<|
 r_14 (S_ ((grpF 2 0 [] (pairsF (fO b1))).length / 2)) (S_ (flosL (grpF 2 0 [] (pairsF (fO b1))))) b2 b3 b4 b5 b6 b7 b8 b9 b10 b11 b12 b13 b14 b15 (b16+1) (b17++putCells (zrow (nlZero Tryz.prog 65 (ofV (Go.Value.slice none 0 0))).cells 1) 0 [AV.list (S_ ((grpF 2 0 [] (pairsF (fO b1))).length / 2)) (S_ (flosL (grpF 2 0 [] (pairsF (fO b1)))))]))
 (
 gO (S_ (decide (a2=b2)))<|
 gO (S_ (decide (a3=b3/\a4=b4)))<|
 gO (S_ (decide (a2=b2)))<|
 gO (S_ (decide (a3=b3/\a4=b4)))<|
 some ([RLeaf.fz b12 b13,RLeaf.v (AV.agg [AV.int .i64 a2,AV.list b16 b17]),RLeaf.v (AV.int .i64 (0:Int))])))
 (fun _ _ _ _ _ _ _ _ _ _ _ _ _ _ _ _ _ _=>none) (S_ ((grpF a2.toNat 0 [] (dupC (fO a13))).length / 2)) (S_ (flosL (grpF a2.toNat 0 [] (dupC (fO a13))))) a2 a3 a4 a5 a6 a7 a8 a9 a10 a11 a12 a13 0 ([]) 1 (putCells (zrow (nlZero Tryz.prog 65 (ofV (Go.Value.slice none 0 0))).cells 1) 0 [AV.list (S_ ((grpF a2.toNat 0 [] (dupC (fO a13))).length / 2)) (S_ (flosL (grpF a2.toNat 0 [] (dupC (fO a13)))))]))))
 (fun _ _ _ _ _ _ _ _ _ _ _ _ _ _=>none) ((↑(S_ (IntKind.i64.wrap ((↑n:Int)+(↑q:Int)))).toNat:Int)) ((0:Int)) b m ls 0 ([]) 0 ([]) ((0:Int)) 3 (putCells (putCells (putCells (zrow (ofV (Go.Value.int IntKind.i64 (0:Int))).cells 3) 0 [AV.int .i64 (S_ (chkT n (fO cs) b m ls))]) 1 [AV.int .i64 (S_ (sampErr q (fO ds)))]) 2 [AV.int .i64 (S_ (if S_ (decide (S_ (IntKind.i64.wrap ((↑n:Int)+(↑q:Int)))>(4096:Int)))=true then (5:Int) else (0:Int)))]) ((S_ (IntKind.i64.wrap ((↑n:Int)+(↑q:Int)))).toNat) (putCells (putCells (zrow (ofV (Go.Value.float .f32 0)).cells ((S_ (IntKind.i64.wrap ((↑n:Int)+(↑q:Int)))).toNat*1)) 0 (List.take (n.min (S_ (IntKind.i64.wrap ((↑n:Int)+(↑q:Int)))).toNat*1) cs)) ((S_ (↑(n.min (S_ (IntKind.i64.wrap ((↑n:Int)+(↑q:Int)))).toNat):Int)).toNat*1) (List.take (q.min ((↑(S_ (IntKind.i64.wrap ((↑n:Int)+(↑q:Int)))).toNat:Int).toNat-(S_ (↑(n.min (S_ (IntKind.i64.wrap ((↑n:Int)+(↑q:Int)))).toNat):Int)).toNat)*1) ds)))):=by kernel_rfl
end Go.Abs
end
