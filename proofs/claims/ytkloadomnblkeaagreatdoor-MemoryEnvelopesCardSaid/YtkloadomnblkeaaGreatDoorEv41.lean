/- Part 41 of the library that the proof of the statement uses: an abstract run of the program, proved right, and what its functions give. -/
import Derived.Test.YtkloadomnblkeaaGreatDoorEv21
import Derived.Test.YtkloadomnblkeaaGreatDoorEv40
set_option linter.unusedVariables false
set_option linter.unusedSimpArgs false

set_option maxRecDepth 100000
noncomputable section
namespace Go.Abs
open Go.Proofs Classical
theorem run_11 (N n:Nat) (cs:List AV) (b:Int) (f t c:Int) (o:Option Nat):(fsM mzS waysQ N 12).call (List RLeaf) 11 [.s (.agg [.b (.list n cs),.b (.int .i64 b)]),.s (.agg [.b (.int .i64 f),.b (.int .i64 t),.b (.int .i64 c),.b (.flo .f32 o)])] [] (resK [false])=(
 gO (S_ (decide (Flos n cs)))<|
 bO (
 cO (!S_ (fewB n (fO cs) b))
 (
 some true)
 (
 some (S_ (S_ (if f<(0:Int)\/f>(↑n:Int)\/t<(0:Int)\/t>(↑n:Int) then (3:Int) else if t<f then (11:Int) else (0:Int)) != (0:Int))))) fun v1=>
 bO (
 cO v1
 (
 some true)
 (
 some (S_ (S_ (if c<(1:Int)\/c>(2048:Int) then (3:Int) else (0:Int)) != (0:Int))))) fun v2=>
 cO v2
 (
 some ([RLeaf.v (AV.bool true)]))
 (
 gO (S_ (decide (Flos n cs/\n<=100000000)))<|
 gO (S_ (decide (Flos (S_ n) (S_ cs))))<|
 gO (S_ (decide (Flos n cs/\n<=100000000)))<|
 gO (S_ (decide (Flos (S_ n) (S_ cs)/\Lvs (S_ (buildV (S_ n) (fO (S_ cs)) b).snd.length) (S_ (lvCells (buildV (S_ n) (fO (S_ cs)) b).snd)))))<|
 gO (S_ (decide (Flos n cs/\n<=100000000)))<|
 gO (S_ (decide (Flos (S_ n) (S_ cs)/\Lvs (S_ (buildV (S_ n) (fO (S_ cs)) b).snd.length) (S_ (lvCells (buildV (S_ n) (fO (S_ cs)) b).snd)))))<|
 cO (S_ (decide (S_ (IntKind.i64.wrap (t-f))<c)))
 (
 bO (
 cO (S_ (S_ (buildE (S_ n) (fO (S_ cs)) b)==(0:Int)))
 (
 some (S_ (S_ (zoomE (S_ n) (fO (S_ cs)) (S_ (buildV (S_ n) (fO (S_ cs)) b).fst) (S_ (buildV (S_ n) (fO (S_ cs)) b).snd.length) (S_ (lvCells (buildV (S_ n) (fO (S_ cs)) b).snd)) f t c)==(16:Int))))
 (
 some false)) fun v11=>
 bO (
 cO v11
 (
 some (S_ (S_ (S_ (ext35E (S_ n) (fO (S_ cs)) (S_ (buildV (S_ n) (fO (S_ cs)) b).fst) (S_ (buildV (S_ n) (fO (S_ cs)) b).snd.length) (S_ (lvCells (buildV (S_ n) (fO (S_ cs)) b).snd)) f t)==(0:Int))==S_ (decide (S_ (IntKind.i64.wrap (t-f))>(0:Int))))))
 (
 some false)) fun v12=>
 bO (
 cO v12
 (
 some true)
 (
 some false)) fun v13=>
 some ([RLeaf.v (AV.bool v13)]))
 (
 bO (
 cO (S_ (S_ (IntKind.i64.wrap (S_ (IntKind.i64.wrap (S_ (buildE (S_ n) (fO (S_ cs)) b)+S_ (zoomE (S_ n) (fO (S_ cs)) (S_ (buildV (S_ n) (fO (S_ cs)) b).fst) (S_ (buildV (S_ n) (fO (S_ cs)) b).snd.length) (S_ (lvCells (buildV (S_ n) (fO (S_ cs)) b).snd)) f t c)))+S_ (ext35E (S_ n) (fO (S_ cs)) (S_ (buildV (S_ n) (fO (S_ cs)) b).fst) (S_ (buildV (S_ n) (fO (S_ cs)) b).snd.length) (S_ (lvCells (buildV (S_ n) (fO (S_ cs)) b).snd)) f t))) != (0:Int)))
 (
 some true)
 (
 some (S_ ((↑(S_ ((zoomV (S_ n) (fO (S_ cs)) (S_ (buildV (S_ n) (fO (S_ cs)) b).fst) (S_ (buildV (S_ n) (fO (S_ cs)) b).snd.length) (S_ (lvCells (buildV (S_ n) (fO (S_ cs)) b).snd)) f t c).length / 2)):Int) != c)))) fun v11=>
 cO v11
 (
 some ([RLeaf.v (AV.bool false)]))
 (
 loopC N (fun r_13 (a0:Nat) (a1:List AV) (a2 a3:Int) (a4:Nat) (a5:List AV) (a6 a7:Int) (a8:Nat) (a9:List AV) (a10 a11 a12 a13:Int) (a14:Option Nat) (a15:Nat) (a16:List AV) (a17:Int) (a18:Nat) (a19:List AV) (a20 a21:Option Nat)=>
 cO (S_ (decide (a7<a6)))
 (
 gO (S_ (decide ((0:Int)<=a7/\a7<(↑a4:Int)/\0<a5.length)))<|
 gO (S_ (decide (a7.toNat*2+2<=a5.length)))<|
 bO (asFloat .f32 (a5.getD (a7.toNat*2) AV.top)) fun v17=>
 bO (asFloat .f32 (a5.getD (a7.toNat*2+1) AV.top)) fun v18=>
 gO (S_ (decide (a13≠(0:Int))))<|
 loopC N (fun r_20 (b0:Nat) (b1:List AV) (b2 b3 b4:Int) (b5 b6:Bool) (b7:Nat) (b8:List AV) (b9 b10:Int) (b11:Nat) (b12:List AV) (b13 b14 b15 b16:Int) (b17:Option Nat) (b18:Nat) (b19:List AV) (b20:Int) (b21:Nat) (b22:List AV) (b23 b24 b25 b26:Option Nat)=>
 cO (S_ (decide (b3<b4)))
 (
 gO (S_ (decide ((0:Int)<=b3/\b3<(↑b11:Int)/\0<b12.length)))<|
 bO (asFloat .f32 (b12.getD (b3.toNat*1) AV.top)) fun v23=>
 bO (
 cO (S_ (ordO .f32 v23 b25==some .lt))
 (
 some true)
 (
 some (S_ (ordO .f32 v23 b26==some .gt)))) fun v24=>
 cO v24
 (
 some ([RLeaf.v (AV.bool false)]))
 (
 cO b5
 (
 cO b6
 (
 r_20 b0 b1 b2 (S_ (IntKind.i64.wrap (b3+(1:Int)))) b4 true true b7 b8 b9 b10 b11 b12 b13 b14 b15 b16 b17 b18 b19 b20 b21 b22 b23 b24 b25 b26)
 (
 r_20 b0 b1 b2 (S_ (IntKind.i64.wrap (b3+(1:Int)))) b4 true (S_ (ordO .f32 v23 b26==some .eq)) b7 b8 b9 b10 b11 b12 b13 b14 b15 b16 b17 b18 b19 b20 b21 b22 b23 b24 b25 b26))
 (
 cO b6
 (
 r_20 b0 b1 b2 (S_ (IntKind.i64.wrap (b3+(1:Int)))) b4 (S_ (ordO .f32 v23 b25==some .eq)) true b7 b8 b9 b10 b11 b12 b13 b14 b15 b16 b17 b18 b19 b20 b21 b22 b23 b24 b25 b26)
 (
 r_20 b0 b1 b2 (S_ (IntKind.i64.wrap (b3+(1:Int)))) b4 (S_ (ordO .f32 v23 b25==some .eq)) (S_ (ordO .f32 v23 b26==some .eq)) b7 b8 b9 b10 b11 b12 b13 b14 b15 b16 b17 b18 b19 b20 b21 b22 b23 b24 b25 b26))))
 (
 bO (
 cO (!b5)
 (
 some true)
 (
 some (!b6))) fun v22=>
 bO (
 cO v22
 (
 some true)
 (
 some (S_ (ordO .f32 b25 b23==some .lt)))) fun v23=>
 bO (
 cO v23
 (
 some true)
 (
 some (S_ (ordO .f32 b26 b24==some .gt)))) fun v24=>
 cO v24
 (
 some ([RLeaf.v (AV.bool false)]))
 (
 r_13 b0 b1 b2 b3 b7 b8 b9 (S_ (IntKind.i64.wrap (b10+(1:Int)))) b11 b12 b13 b14 b15 b16 b17 b18 b19 b20 b21 b22 b23 b24)))
 (fun _ _ _ _ _ _ _ _ _ _ _ _ _ _ _ _ _ _ _ _ _ _ _ _ _ _ _=>none) a0 a1 a2 a3 (S_ (IntKind.i64.wrap (a11+S_ (IntKind.i64.wrap ((S_ (IntKind.i64.wrap (S_ (IntKind.i64.wrap (a7+(1:Int)))*a2))).tdiv a13))))) false false a4 a5 a6 a7 a8 a9 a10 a11 a12 a13 a14 a15 a16 a17 a18 a19 a20 a21 v17 v18)
 (
 loopC N (fun r_15 (c0:Int) (c1 c2:Bool) (c3:Nat) (c4:List AV) (c5 c6:Int) (c7:Nat) (c8:List AV) (c9 c10 c11 c12:Int) (c13:Option Nat) (c14:Nat) (c15:List AV) (c16:Int) (c17:Nat) (c18:List AV) (c19 c20:Option Nat)=>
 cO (S_ (decide (c6<c5)))
 (
 gO (S_ (decide ((0:Int)<=c6/\c6<(↑c3:Int)/\0<c4.length)))<|
 gO (S_ (decide (c6.toNat*2+2<=c4.length)))<|
 bO (asFloat .f32 (c4.getD (c6.toNat*2) AV.top)) fun v19=>
 bO (asFloat .f32 (c4.getD (c6.toNat*2+1) AV.top)) fun v20=>
 cO c1
 (
 cO c2
 (
 r_15 c0 true true c3 c4 c5 (S_ (IntKind.i64.wrap (c6+(1:Int)))) c7 c8 c9 c10 c11 c12 c13 c14 c15 c16 c17 c18 c19 c20)
 (
 r_15 c0 true (S_ (ordO .f32 v20 c20==some .eq)) c3 c4 c5 (S_ (IntKind.i64.wrap (c6+(1:Int)))) c7 c8 c9 c10 c11 c12 c13 c14 c15 c16 c17 c18 c19 c20))
 (
 cO c2
 (
 r_15 c0 (S_ (ordO .f32 v19 c19==some .eq)) true c3 c4 c5 (S_ (IntKind.i64.wrap (c6+(1:Int)))) c7 c8 c9 c10 c11 c12 c13 c14 c15 c16 c17 c18 c19 c20)
 (
 r_15 c0 (S_ (ordO .f32 v19 c19==some .eq)) (S_ (ordO .f32 v20 c20==some .eq)) c3 c4 c5 (S_ (IntKind.i64.wrap (c6+(1:Int)))) c7 c8 c9 c10 c11 c12 c13 c14 c15 c16 c17 c18 c19 c20)))
 (
 bO (
 cO (S_ (c0==c11))
 (
 some c1)
 (
 some false)) fun v17=>
 bO (
 cO v17
 (
 some c2)
 (
 some false)) fun v18=>
 bO (
 cO v18
 (
 some true)
 (
 some false)) fun v19=>
 some ([RLeaf.v (AV.bool v19)])))
 (fun _ _ _ _ _ _ _ _ _ _ _ _ _ _ _ _ _ _ _ _ _=>none) a3 false false a0 a1 ((↑a0:Int)) ((0:Int)) a8 a9 a10 a11 a12 a13 a14 a15 a16 a17 a18 a19 a20 a21))
 (fun _ _ _ _ _ _ _ _ _ _ _ _ _ _ _ _ _ _ _ _ _ _=>none) (S_ ((zoomV (S_ n) (fO (S_ cs)) (S_ (buildV (S_ n) (fO (S_ cs)) b).fst) (S_ (buildV (S_ n) (fO (S_ cs)) b).snd.length) (S_ (lvCells (buildV (S_ n) (fO (S_ cs)) b).snd)) f t c).length / 2)) (S_ (flosL (zoomV (S_ n) (fO (S_ cs)) (S_ (buildV (S_ n) (fO (S_ cs)) b).fst) (S_ (buildV (S_ n) (fO (S_ cs)) b).snd.length) (S_ (lvCells (buildV (S_ n) (fO (S_ cs)) b).snd)) f t c))) (S_ (IntKind.i64.wrap (t-f))) f (S_ ((zoomV (S_ n) (fO (S_ cs)) (S_ (buildV (S_ n) (fO (S_ cs)) b).fst) (S_ (buildV (S_ n) (fO (S_ cs)) b).snd.length) (S_ (lvCells (buildV (S_ n) (fO (S_ cs)) b).snd)) f t c).length / 2)) (S_ (flosL (zoomV (S_ n) (fO (S_ cs)) (S_ (buildV (S_ n) (fO (S_ cs)) b).fst) (S_ (buildV (S_ n) (fO (S_ cs)) b).snd.length) (S_ (lvCells (buildV (S_ n) (fO (S_ cs)) b).snd)) f t c))) ((↑(S_ ((zoomV (S_ n) (fO (S_ cs)) (S_ (buildV (S_ n) (fO (S_ cs)) b).fst) (S_ (buildV (S_ n) (fO (S_ cs)) b).snd.length) (S_ (lvCells (buildV (S_ n) (fO (S_ cs)) b).snd)) f t c).length / 2)):Int)) ((0:Int)) n cs b f t c o 0 ([]) (S_ (buildV (S_ n) (fO (S_ cs)) b).fst) (S_ (buildV (S_ n) (fO (S_ cs)) b).snd.length) (S_ (lvCells (buildV (S_ n) (fO (S_ cs)) b).snd)) (S_ (ext35V (S_ n) (fO (S_ cs)) (S_ (buildV (S_ n) (fO (S_ cs)) b).fst) (S_ (buildV (S_ n) (fO (S_ cs)) b).snd.length) (S_ (lvCells (buildV (S_ n) (fO (S_ cs)) b).snd)) f t).fst) (S_ (ext35V (S_ n) (fO (S_ cs)) (S_ (buildV (S_ n) (fO (S_ cs)) b).fst) (S_ (buildV (S_ n) (fO (S_ cs)) b).snd.length) (S_ (lvCells (buildV (S_ n) (fO (S_ cs)) b).snd)) f t).snd))))):=by kernel_rfl
end Go.Abs
end
