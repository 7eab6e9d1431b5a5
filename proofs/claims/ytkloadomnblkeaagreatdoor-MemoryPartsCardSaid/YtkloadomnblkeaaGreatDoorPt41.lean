/- Part 41 of the library that the proof of the statement uses: an abstract run of the program, proved right, and what its functions give. -/
import Derived.Test.YtkloadomnblkeaaGreatDoorPt21
import Derived.Test.YtkloadomnblkeaaGreatDoorPt40
set_option linter.unusedVariables false
set_option linter.unusedSimpArgs false

set_option maxRecDepth 100000
noncomputable section
namespace Go.Abs
open Go.Proofs Classical
theorem run_12 (N n:Nat) (cs:List AV) (b:Int) (f t c:Int) (o:Option Nat):(fsM mzS waysQ N 12).call (List RLeaf) 12 [.s (.agg [.b (.list n cs),.b (.int .i64 b)]),.s (.agg [.b (.int .i64 f),.b (.int .i64 t),.b (.int .i64 c),.b (.flo .f32 o)])] [] (resK [false])=(
 gO (S_ (decide (Flos n cs)))<|
 bO (
 cO (!S_ (fewB n (fO cs) b))
 (
 some true)
 (
 some (S_ (S_ (if f<(0:Int)\/f>(↑n:Int)\/t<(0:Int)\/t>(↑n:Int) then (3:Int) else if t<f then (11:Int) else (0:Int)) != (0:Int))))) fun v1=>
 bO (
 cO v1
 (
 some true)
 (
 some (!S_ (finB o)))) fun v2=>
 cO v2
 (
 some ([RLeaf.v (AV.bool true)]))
 (
 gO (S_ (decide (Flos n cs/\n<=100000000)))<|
 gO (S_ (decide (Flos (S_ n) (S_ cs))))<|
 gO (S_ (decide (Flos n cs/\n<=100000000)))<|
 gO (S_ (decide (Flos (S_ n) (S_ cs)/\Lvs (S_ (buildV (S_ n) (fO (S_ cs)) b).snd.length) (S_ (lvCells (buildV (S_ n) (fO (S_ cs)) b).snd)))))<|
 bO (
 cO (S_ (S_ (IntKind.i64.wrap (S_ (IntKind.i64.wrap (S_ (buildE (S_ n) (fO (S_ cs)) b)+S_ (covE b (↑n:Int) f t)))+S_ (cntE (S_ n) (fO (S_ cs)) (S_ (buildV (S_ n) (fO (S_ cs)) b).fst) (S_ (buildV (S_ n) (fO (S_ cs)) b).snd.length) (S_ (lvCells (buildV (S_ n) (fO (S_ cs)) b).snd)) f t o))) != (0:Int)))
 (
 some true)
 (
 some (S_ (decide ((↑(S_ ((covL b (↑n:Int) f t).length / 2)):Int)>S_ (IntKind.i64.wrap (t-f))))))) fun v8=>
 cO v8
 (
 some ([RLeaf.v (AV.bool false)]))
 (
 loopC N (fun r_10 (a0 a1:Int) (a2:Nat) (a3:List AV) (a4 a5:Int) (a6:Nat) (a7:List AV) (a8 a9 a10 a11:Int) (a12:Option Nat) (a13:Nat) (a14:List AV) (a15:Int) (a16:Nat) (a17:List AV) (a18:List (AV × AV × Nat)) (a19:Nat)=>
 cO (S_ (decide (a5<a4)))
 (
 gO (S_ (decide ((0:Int)<=a5/\a5<(↑a2:Int)/\0<a3.length)))<|
 gO (S_ (decide (a5.toNat*2+2<=a3.length)))<|
 bO (asInt IntKind.i64 (a3.getD (a5.toNat*2) AV.top)) fun v14=>
 bO (asInt IntKind.i64 (a3.getD (a5.toNat*2+1) AV.top)) fun v15=>
 bO (
 cO (S_ (decide (v14<(-1:Int))))
 (
 some true)
 (
 some (S_ (decide (v14>=(↑a16:Int)))))) fun v16=>
 bO (
 cO v16
 (
 some true)
 (
 some (S_ (decide (v15<(0:Int)))))) fun v17=>
 bO (
 cO v17
 (
 some true)
 (
 some (S_ (decide (v15>(↑a6:Int)))))) fun v18=>
 cO v18
 (
 some ([RLeaf.v (AV.bool false)]))
 (
 gO (S_ (decide ((1:Int)<=a8/\a8<=(256:Int)/\(0:Int)<=(↑a6:Int)/\(↑a6:Int)<=(4096:Int)/\v14<=(13:Int)/\(0:Int)<=v15/\v15<=(4096:Int))))<|
 bO (
 cO (S_ (S_ (endsL a8 (↑a6:Int) v14 v15).fst != a1))
 (
 some true)
 (
 some (S_ (decide (S_ (endsL a8 (↑a6:Int) v14 v15).snd<=S_ (endsL a8 (↑a6:Int) v14 v15).fst))))) fun v21=>
 cO v21
 (
 some ([RLeaf.v (AV.bool false)]))
 (
 bO (mlook Tryz.prog 3 3 (AV.int .i64 v14) a18) fun v23=>
 bO (asInt IntKind.i64 v23.snd) fun v24=>
 bO (mput Tryz.prog 3 (AV.int .i64 v14) (AV.int .i64 (S_ (IntKind.i64.wrap (v24+(1:Int))))) a18 a19) fun v25=>
 r_10 a0 (S_ (endsL a8 (↑a6:Int) v14 v15).snd) a2 a3 a4 (S_ (IntKind.i64.wrap (a5+(1:Int)))) a6 a7 a8 a9 a10 a11 a12 a13 a14 a15 a16 a17 (v25.fst) (v25.snd))))
 (
 bO (
 cO (S_ (a1 != a10))
 (
 some true)
 (
 bO (mlook Tryz.prog 3 3 (AV.int .i64 (-1:Int)) a18) fun v14=>
 bO (asInt IntKind.i64 v14.snd) fun v15=>
 some (S_ (decide (v15>S_ (IntKind.i64.wrap ((2:Int)*S_ (IntKind.i64.wrap (a8-(1:Int)))))))))) fun v12=>
 cO v12
 (
 some ([RLeaf.v (AV.bool false)]))
 (
 loopC N (fun r_14 (b0 b1 b2:Int) (b3:Nat) (b4:List AV) (b5 b6 b7 b8:Int) (b9:Option Nat) (b10:Nat) (b11:List AV) (b12:Int) (b13:Nat) (b14:List AV) (b15:List (AV × AV × Nat)) (b16:Nat)=>
 cO (S_ (decide (b2<b1)))
 (
 bO (mlook Tryz.prog 3 3 (AV.int .i64 b2) b15) fun v16=>
 bO (asInt IntKind.i64 v16.snd) fun v17=>
 cO (S_ (decide (v17>(2:Int))))
 (
 some ([RLeaf.v (AV.bool false)]))
 (
 r_14 b0 b1 (S_ (IntKind.i64.wrap (b2+(1:Int)))) b3 b4 b5 b6 b7 b8 b9 b10 b11 b12 b13 b14 b15 b16))
 (
 gO (S_ (decide ((0:Int)<=b6/\b6<=b7/\b7<=(↑b3:Int))))<|
 gO (S_ (decide (b3*1=b4.length)))<|
 loopC N (fun r_18 (c0 c1:Int) (c2:Nat) (c3:List AV) (c4 c5:Int) (c6:Nat) (c7:List AV) (c8 c9 c10 c11:Int) (c12:Option Nat) (c13:Nat) (c14:List AV) (c15:Int) (c16:Nat) (c17:List AV) (c18:List (AV × AV × Nat)) (c19:Nat)=>
 cO (S_ (decide (c5<c4)))
 (
 gO (S_ (decide ((0:Int)<=c5/\c5<(↑c2:Int)/\0<c3.length)))<|
 bO (asFloat .f32 (c3.getD (c5.toNat*1) AV.top)) fun v21=>
 cO (S_ (ordO .f32 v21 c12==some .gt||ordO .f32 v21 c12==some .eq))
 (
 r_18 c0 (S_ (IntKind.i64.wrap (c1+(1:Int)))) c2 c3 c4 (S_ (IntKind.i64.wrap (c5+(1:Int)))) c6 c7 c8 c9 c10 c11 c12 c13 c14 c15 c16 c17 c18 c19)
 (
 r_18 c0 c1 c2 c3 c4 (S_ (IntKind.i64.wrap (c5+(1:Int)))) c6 c7 c8 c9 c10 c11 c12 c13 c14 c15 c16 c17 c18 c19))
 (
 bO (
 cO (S_ (c0==c1))
 (
 some true)
 (
 some false)) fun v20=>
 some ([RLeaf.v (AV.bool v20)])))
 (fun _ _ _ _ _ _ _ _ _ _ _ _ _ _ _ _ _ _ _ _=>none) b0 ((0:Int)) (b7.toNat-b6.toNat) (List.take ((b7.toNat-b6.toNat)*1) (List.drop (b6.toNat*1) b4)) ((↑(b7.toNat-b6.toNat):Int)) ((0:Int)) b3 b4 b5 b6 b7 b8 b9 b10 b11 b12 b13 b14 b15 b16))
 (fun _ _ _ _ _ _ _ _ _ _ _ _ _ _ _ _ _=>none) a0 ((↑a16:Int)) ((0:Int)) a6 a7 a8 a9 a10 a11 a12 a13 a14 a15 a16 a17 a18 a19)))
 (fun _ _ _ _ _ _ _ _ _ _ _ _ _ _ _ _ _ _ _ _=>none) (S_ (↑(cntV (S_ n) (fO (S_ cs)) (S_ (buildV (S_ n) (fO (S_ cs)) b).fst) (S_ (buildV (S_ n) (fO (S_ cs)) b).snd.length) (S_ (lvCells (buildV (S_ n) (fO (S_ cs)) b).snd)) f t o):Int)) f (S_ ((covL b (↑n:Int) f t).length / 2)) (S_ (numsL IntKind.i64 (covL b (↑n:Int) f t))) ((↑(S_ ((covL b (↑n:Int) f t).length / 2)):Int)) ((0:Int)) n cs b f t c o 0 ([]) (S_ (buildV (S_ n) (fO (S_ cs)) b).fst) (S_ (buildV (S_ n) (fO (S_ cs)) b).snd.length) (S_ (lvCells (buildV (S_ n) (fO (S_ cs)) b).snd)) ([]) 0))):=by kernel_rfl
end Go.Abs
end
