/- Part 41 of the library that the proof of the statement uses: an abstract run of the program, proved right, and what its functions give. -/
import Derived.Test.YtkloadomnblkeaaGreatDoorSr35
import Derived.Test.YtkloadomnblkeaaGreatDoorSr40
set_option linter.unusedVariables false
set_option linter.unusedSimpArgs false

set_option maxRecDepth 100000
noncomputable section
namespace Go.Abs
open Go.Proofs Classical
theorem run_6 (N n:Nat) (cs:List AV) (b:Int) (m:Nat) (ls:List AV) (f t c:Int) (o:Option Nat):(fsM mzV waysR N 12).call (List RLeaf) 6 [.ofB (.list n cs),.s (.agg [.b (.int .i64 b),.b (.list m ls)]),.s (.agg [.b (.int .i64 f),.b (.int .i64 t),.b (.int .i64 c),.b (.flo .f32 o)])] [] (resK [false])=(
 bO (
 cO (!S_ (lenB (↑n:Int) (64:Int) (4096:Int)))
 (
 some true)
 (
 gO (S_ (decide (LvsW m ls)))<|
 some (!S_ (shortT m ls)))) fun v0=>
 cO v0
 (
 some ([RLeaf.v (AV.bool true)]))
 (
 gO (S_ (decide (Flos n cs/\n<=100000000)))<|
 gO (S_ (decide (Lvs m ls)))<|
 gO (S_ (decide (Flos (S_ n) (S_ cs)/\Lvs (S_ m) (S_ ls))))<|
 gO (S_ (decide (Flos n cs/\n<=100000000)))<|
 gO (S_ (decide (Lvs m ls)))<|
 gO (S_ (decide (Flos (S_ n) (S_ cs)/\Lvs (S_ m) (S_ ls))))<|
 gO (S_ (decide (Flos n cs/\n<=100000000)))<|
 gO (S_ (decide (Lvs m ls)))<|
 gO (S_ (decide (Flos (S_ n) (S_ cs)/\Lvs (S_ m) (S_ ls))))<|
 gO (S_ (decide (Flos n cs/\Lvs m ls)))<|
 cO (S_ (S_ (chkT n (fO cs) b m ls)==(0:Int)))
 (
 cO (S_ (decide ((↑n:Int)>(0:Int))))
 (
 gO (S_ (decide (Flos n cs)))<|
 bO (
 cO (S_ (S_ (if f<(0:Int)\/f>(↑n:Int) then (3:Int) else (0:Int))==(0:Int)))
 (
 some (!S_ (finB o)))
 (
 some false)) fun v15=>
 cO v15
 (
 cO (S_ ((1:Int)==(0:Int)))
 (
 gO (S_ (decide (Flos n cs/\(0:Int)<=f)))<|
 gO (S_ (decide (Flos n cs/\(0:Int)<=f)))<|
 bO (
 cO (S_ (S_ (skV (seekE (S_ n) (fO (S_ cs)) (S_ b) (S_ m) (S_ ls) f o) (firstH (fun j=>geS ((fO (S_ cs)).getD j none) o) (S_ n-f.toNat) f.toNat))==S_ (if S_ (firstH (fun j=>geS ((fO cs).getD j none) o) (n-f.toNat) f.toNat)<(0:Int) then (0:Int) else S_ (firstH (fun j=>geS ((fO cs).getD j none) o) (n-f.toNat) f.toNat))))
 (
 some (S_ (S_ (skE (seekE (S_ n) (fO (S_ cs)) (S_ b) (S_ m) (S_ ls) f o) (firstH (fun j=>geS ((fO (S_ cs)).getD j none) o) (S_ n-f.toNat) f.toNat))==S_ (if S_ (firstH (fun j=>geS ((fO cs).getD j none) o) (n-f.toNat) f.toNat)<(0:Int) then (7:Int) else (0:Int)))))
 (
 some false)) fun v20=>
 bO (
 cO v20
 (
 some (S_ (S_ (skV (seekE (S_ n) (fO (S_ cs)) (S_ b) (S_ m) (S_ ls) f o) (firstH (riseS (fO (S_ cs)) o) (S_ n-f.toNat) f.toNat))==S_ (if S_ (firstH (riseS (fO cs) o) (n-f.toNat) f.toNat)<(0:Int) then (0:Int) else S_ (firstH (riseS (fO cs) o) (n-f.toNat) f.toNat)))))
 (
 some false)) fun v21=>
 bO (
 cO v21
 (
 some (S_ (S_ (skE (seekE (S_ n) (fO (S_ cs)) (S_ b) (S_ m) (S_ ls) f o) (firstH (riseS (fO (S_ cs)) o) (S_ n-f.toNat) f.toNat))==S_ (if S_ (firstH (riseS (fO cs) o) (n-f.toNat) f.toNat)<(0:Int) then (7:Int) else (0:Int)))))
 (
 some false)) fun v22=>
 bO (
 cO v22
 (
 some (S_ (S_ (skV (peakE (S_ n) (fO (S_ cs)) (S_ b) (S_ m) (S_ ls)) (peakV (S_ n) (fO (S_ cs)) (S_ b) (S_ ls)))==S_ (↑(peakR (fO cs) n 0 0):Int))))
 (
 some false)) fun v23=>
 bO (
 cO v23
 (
 some (S_ (S_ (skE (peakE (S_ n) (fO (S_ cs)) (S_ b) (S_ m) (S_ ls)) (peakV (S_ n) (fO (S_ cs)) (S_ b) (S_ ls)))==(0:Int))))
 (
 some false)) fun v24=>
 bO (
 cO v24
 (
 some true)
 (
 some false)) fun v25=>
 some ([RLeaf.v (AV.bool v25)]))
 (
 bO (
 cO (S_ (S_ (skV (seekE (S_ n) (fO (S_ cs)) (S_ b) (S_ m) (S_ ls) f o) (firstH (fun j=>geS ((fO (S_ cs)).getD j none) o) (S_ n-f.toNat) f.toNat))==(0:Int)))
 (
 some (S_ (S_ (skE (seekE (S_ n) (fO (S_ cs)) (S_ b) (S_ m) (S_ ls) f o) (firstH (fun j=>geS ((fO (S_ cs)).getD j none) o) (S_ n-f.toNat) f.toNat))==(1:Int))))
 (
 some false)) fun v18=>
 bO (
 cO v18
 (
 some (S_ (S_ (skV (seekE (S_ n) (fO (S_ cs)) (S_ b) (S_ m) (S_ ls) f o) (firstH (riseS (fO (S_ cs)) o) (S_ n-f.toNat) f.toNat))==(0:Int))))
 (
 some false)) fun v19=>
 bO (
 cO v19
 (
 some (S_ (S_ (skE (seekE (S_ n) (fO (S_ cs)) (S_ b) (S_ m) (S_ ls) f o) (firstH (riseS (fO (S_ cs)) o) (S_ n-f.toNat) f.toNat))==(1:Int))))
 (
 some false)) fun v20=>
 bO (
 cO v20
 (
 some (S_ (S_ (skV (peakE (S_ n) (fO (S_ cs)) (S_ b) (S_ m) (S_ ls)) (peakV (S_ n) (fO (S_ cs)) (S_ b) (S_ ls)))==S_ (↑(peakR (fO cs) n 0 0):Int))))
 (
 some false)) fun v21=>
 bO (
 cO v21
 (
 some (S_ (S_ (skE (peakE (S_ n) (fO (S_ cs)) (S_ b) (S_ m) (S_ ls)) (peakV (S_ n) (fO (S_ cs)) (S_ b) (S_ ls)))==(0:Int))))
 (
 some false)) fun v22=>
 bO (
 cO v22
 (
 some true)
 (
 some false)) fun v23=>
 some ([RLeaf.v (AV.bool v23)])))
 (
 cO (S_ (S_ (if f<(0:Int)\/f>(↑n:Int) then (3:Int) else (0:Int))==(0:Int)))
 (
 gO (S_ (decide (Flos n cs/\(0:Int)<=f)))<|
 gO (S_ (decide (Flos n cs/\(0:Int)<=f)))<|
 bO (
 cO (S_ (S_ (skV (seekE (S_ n) (fO (S_ cs)) (S_ b) (S_ m) (S_ ls) f o) (firstH (fun j=>geS ((fO (S_ cs)).getD j none) o) (S_ n-f.toNat) f.toNat))==S_ (if S_ (firstH (fun j=>geS ((fO cs).getD j none) o) (n-f.toNat) f.toNat)<(0:Int) then (0:Int) else S_ (firstH (fun j=>geS ((fO cs).getD j none) o) (n-f.toNat) f.toNat))))
 (
 some (S_ (S_ (skE (seekE (S_ n) (fO (S_ cs)) (S_ b) (S_ m) (S_ ls) f o) (firstH (fun j=>geS ((fO (S_ cs)).getD j none) o) (S_ n-f.toNat) f.toNat))==S_ (if S_ (firstH (fun j=>geS ((fO cs).getD j none) o) (n-f.toNat) f.toNat)<(0:Int) then (7:Int) else (0:Int)))))
 (
 some false)) fun v20=>
 bO (
 cO v20
 (
 some (S_ (S_ (skV (seekE (S_ n) (fO (S_ cs)) (S_ b) (S_ m) (S_ ls) f o) (firstH (riseS (fO (S_ cs)) o) (S_ n-f.toNat) f.toNat))==S_ (if S_ (firstH (riseS (fO cs) o) (n-f.toNat) f.toNat)<(0:Int) then (0:Int) else S_ (firstH (riseS (fO cs) o) (n-f.toNat) f.toNat)))))
 (
 some false)) fun v21=>
 bO (
 cO v21
 (
 some (S_ (S_ (skE (seekE (S_ n) (fO (S_ cs)) (S_ b) (S_ m) (S_ ls) f o) (firstH (riseS (fO (S_ cs)) o) (S_ n-f.toNat) f.toNat))==S_ (if S_ (firstH (riseS (fO cs) o) (n-f.toNat) f.toNat)<(0:Int) then (7:Int) else (0:Int)))))
 (
 some false)) fun v22=>
 bO (
 cO v22
 (
 some (S_ (S_ (skV (peakE (S_ n) (fO (S_ cs)) (S_ b) (S_ m) (S_ ls)) (peakV (S_ n) (fO (S_ cs)) (S_ b) (S_ ls)))==S_ (↑(peakR (fO cs) n 0 0):Int))))
 (
 some false)) fun v23=>
 bO (
 cO v23
 (
 some (S_ (S_ (skE (peakE (S_ n) (fO (S_ cs)) (S_ b) (S_ m) (S_ ls)) (peakV (S_ n) (fO (S_ cs)) (S_ b) (S_ ls)))==(0:Int))))
 (
 some false)) fun v24=>
 bO (
 cO v24
 (
 some true)
 (
 some false)) fun v25=>
 some ([RLeaf.v (AV.bool v25)]))
 (
 bO (
 cO (S_ (S_ (skV (seekE (S_ n) (fO (S_ cs)) (S_ b) (S_ m) (S_ ls) f o) (firstH (fun j=>geS ((fO (S_ cs)).getD j none) o) (S_ n-f.toNat) f.toNat))==(0:Int)))
 (
 some (S_ (S_ (skE (seekE (S_ n) (fO (S_ cs)) (S_ b) (S_ m) (S_ ls) f o) (firstH (fun j=>geS ((fO (S_ cs)).getD j none) o) (S_ n-f.toNat) f.toNat))==S_ (if f<(0:Int)\/f>(↑n:Int) then (3:Int) else (0:Int)))))
 (
 some false)) fun v18=>
 bO (
 cO v18
 (
 some (S_ (S_ (skV (seekE (S_ n) (fO (S_ cs)) (S_ b) (S_ m) (S_ ls) f o) (firstH (riseS (fO (S_ cs)) o) (S_ n-f.toNat) f.toNat))==(0:Int))))
 (
 some false)) fun v19=>
 bO (
 cO v19
 (
 some (S_ (S_ (skE (seekE (S_ n) (fO (S_ cs)) (S_ b) (S_ m) (S_ ls) f o) (firstH (riseS (fO (S_ cs)) o) (S_ n-f.toNat) f.toNat))==S_ (if f<(0:Int)\/f>(↑n:Int) then (3:Int) else (0:Int)))))
 (
 some false)) fun v20=>
 bO (
 cO v20
 (
 some (S_ (S_ (skV (peakE (S_ n) (fO (S_ cs)) (S_ b) (S_ m) (S_ ls)) (peakV (S_ n) (fO (S_ cs)) (S_ b) (S_ ls)))==S_ (↑(peakR (fO cs) n 0 0):Int))))
 (
 some false)) fun v21=>
 bO (
 cO v21
 (
 some (S_ (S_ (skE (peakE (S_ n) (fO (S_ cs)) (S_ b) (S_ m) (S_ ls)) (peakV (S_ n) (fO (S_ cs)) (S_ b) (S_ ls)))==(0:Int))))
 (
 some false)) fun v22=>
 bO (
 cO v22
 (
 some true)
 (
 some false)) fun v23=>
 some ([RLeaf.v (AV.bool v23)]))))
 (
 bO (
 cO (S_ (S_ (if f<(0:Int)\/f>(↑n:Int) then (3:Int) else (0:Int))==(0:Int)))
 (
 some (!S_ (finB o)))
 (
 some false)) fun v14=>
 cO v14
 (
 cO (S_ ((1:Int)==(0:Int)))
 (
 gO (S_ (decide (Flos n cs/\(0:Int)<=f)))<|
 gO (S_ (decide (Flos n cs/\(0:Int)<=f)))<|
 bO (
 cO (S_ (S_ (skV (seekE (S_ n) (fO (S_ cs)) (S_ b) (S_ m) (S_ ls) f o) (firstH (fun j=>geS ((fO (S_ cs)).getD j none) o) (S_ n-f.toNat) f.toNat))==S_ (if S_ (firstH (fun j=>geS ((fO cs).getD j none) o) (n-f.toNat) f.toNat)<(0:Int) then (0:Int) else S_ (firstH (fun j=>geS ((fO cs).getD j none) o) (n-f.toNat) f.toNat))))
 (
 some (S_ (S_ (skE (seekE (S_ n) (fO (S_ cs)) (S_ b) (S_ m) (S_ ls) f o) (firstH (fun j=>geS ((fO (S_ cs)).getD j none) o) (S_ n-f.toNat) f.toNat))==S_ (if S_ (firstH (fun j=>geS ((fO cs).getD j none) o) (n-f.toNat) f.toNat)<(0:Int) then (7:Int) else (0:Int)))))
 (
 some false)) fun v19=>
 bO (
 cO v19
 (
 some (S_ (S_ (skV (seekE (S_ n) (fO (S_ cs)) (S_ b) (S_ m) (S_ ls) f o) (firstH (riseS (fO (S_ cs)) o) (S_ n-f.toNat) f.toNat))==S_ (if S_ (firstH (riseS (fO cs) o) (n-f.toNat) f.toNat)<(0:Int) then (0:Int) else S_ (firstH (riseS (fO cs) o) (n-f.toNat) f.toNat)))))
 (
 some false)) fun v20=>
 bO (
 cO v20
 (
 some (S_ (S_ (skE (seekE (S_ n) (fO (S_ cs)) (S_ b) (S_ m) (S_ ls) f o) (firstH (riseS (fO (S_ cs)) o) (S_ n-f.toNat) f.toNat))==S_ (if S_ (firstH (riseS (fO cs) o) (n-f.toNat) f.toNat)<(0:Int) then (7:Int) else (0:Int)))))
 (
 some false)) fun v21=>
 bO (
 cO v21
 (
 some (S_ (S_ (skV (peakE (S_ n) (fO (S_ cs)) (S_ b) (S_ m) (S_ ls)) (peakV (S_ n) (fO (S_ cs)) (S_ b) (S_ ls)))==(0:Int))))
 (
 some false)) fun v22=>
 bO (
 cO v22
 (
 some (S_ (S_ (skE (peakE (S_ n) (fO (S_ cs)) (S_ b) (S_ m) (S_ ls)) (peakV (S_ n) (fO (S_ cs)) (S_ b) (S_ ls)))==(12:Int))))
 (
 some false)) fun v23=>
 bO (
 cO v23
 (
 some true)
 (
 some false)) fun v24=>
 some ([RLeaf.v (AV.bool v24)]))
 (
 bO (
 cO (S_ (S_ (skV (seekE (S_ n) (fO (S_ cs)) (S_ b) (S_ m) (S_ ls) f o) (firstH (fun j=>geS ((fO (S_ cs)).getD j none) o) (S_ n-f.toNat) f.toNat))==(0:Int)))
 (
 some (S_ (S_ (skE (seekE (S_ n) (fO (S_ cs)) (S_ b) (S_ m) (S_ ls) f o) (firstH (fun j=>geS ((fO (S_ cs)).getD j none) o) (S_ n-f.toNat) f.toNat))==(1:Int))))
 (
 some false)) fun v17=>
 bO (
 cO v17
 (
 some (S_ (S_ (skV (seekE (S_ n) (fO (S_ cs)) (S_ b) (S_ m) (S_ ls) f o) (firstH (riseS (fO (S_ cs)) o) (S_ n-f.toNat) f.toNat))==(0:Int))))
 (
 some false)) fun v18=>
 bO (
 cO v18
 (
 some (S_ (S_ (skE (seekE (S_ n) (fO (S_ cs)) (S_ b) (S_ m) (S_ ls) f o) (firstH (riseS (fO (S_ cs)) o) (S_ n-f.toNat) f.toNat))==(1:Int))))
 (
 some false)) fun v19=>
 bO (
 cO v19
 (
 some (S_ (S_ (skV (peakE (S_ n) (fO (S_ cs)) (S_ b) (S_ m) (S_ ls)) (peakV (S_ n) (fO (S_ cs)) (S_ b) (S_ ls)))==(0:Int))))
 (
 some false)) fun v20=>
 bO (
 cO v20
 (
 some (S_ (S_ (skE (peakE (S_ n) (fO (S_ cs)) (S_ b) (S_ m) (S_ ls)) (peakV (S_ n) (fO (S_ cs)) (S_ b) (S_ ls)))==(12:Int))))
 (
 some false)) fun v21=>
 bO (
 cO v21
 (
 some true)
 (
 some false)) fun v22=>
 some ([RLeaf.v (AV.bool v22)])))
 (
 cO (S_ (S_ (if f<(0:Int)\/f>(↑n:Int) then (3:Int) else (0:Int))==(0:Int)))
 (
 gO (S_ (decide (Flos n cs/\(0:Int)<=f)))<|
 gO (S_ (decide (Flos n cs/\(0:Int)<=f)))<|
 bO (
 cO (S_ (S_ (skV (seekE (S_ n) (fO (S_ cs)) (S_ b) (S_ m) (S_ ls) f o) (firstH (fun j=>geS ((fO (S_ cs)).getD j none) o) (S_ n-f.toNat) f.toNat))==S_ (if S_ (firstH (fun j=>geS ((fO cs).getD j none) o) (n-f.toNat) f.toNat)<(0:Int) then (0:Int) else S_ (firstH (fun j=>geS ((fO cs).getD j none) o) (n-f.toNat) f.toNat))))
 (
 some (S_ (S_ (skE (seekE (S_ n) (fO (S_ cs)) (S_ b) (S_ m) (S_ ls) f o) (firstH (fun j=>geS ((fO (S_ cs)).getD j none) o) (S_ n-f.toNat) f.toNat))==S_ (if S_ (firstH (fun j=>geS ((fO cs).getD j none) o) (n-f.toNat) f.toNat)<(0:Int) then (7:Int) else (0:Int)))))
 (
 some false)) fun v19=>
 bO (
 cO v19
 (
 some (S_ (S_ (skV (seekE (S_ n) (fO (S_ cs)) (S_ b) (S_ m) (S_ ls) f o) (firstH (riseS (fO (S_ cs)) o) (S_ n-f.toNat) f.toNat))==S_ (if S_ (firstH (riseS (fO cs) o) (n-f.toNat) f.toNat)<(0:Int) then (0:Int) else S_ (firstH (riseS (fO cs) o) (n-f.toNat) f.toNat)))))
 (
 some false)) fun v20=>
 bO (
 cO v20
 (
 some (S_ (S_ (skE (seekE (S_ n) (fO (S_ cs)) (S_ b) (S_ m) (S_ ls) f o) (firstH (riseS (fO (S_ cs)) o) (S_ n-f.toNat) f.toNat))==S_ (if S_ (firstH (riseS (fO cs) o) (n-f.toNat) f.toNat)<(0:Int) then (7:Int) else (0:Int)))))
 (
 some false)) fun v21=>
 bO (
 cO v21
 (
 some (S_ (S_ (skV (peakE (S_ n) (fO (S_ cs)) (S_ b) (S_ m) (S_ ls)) (peakV (S_ n) (fO (S_ cs)) (S_ b) (S_ ls)))==(0:Int))))
 (
 some false)) fun v22=>
 bO (
 cO v22
 (
 some (S_ (S_ (skE (peakE (S_ n) (fO (S_ cs)) (S_ b) (S_ m) (S_ ls)) (peakV (S_ n) (fO (S_ cs)) (S_ b) (S_ ls)))==(12:Int))))
 (
 some false)) fun v23=>
 bO (
 cO v23
 (
 some true)
 (
 some false)) fun v24=>
 some ([RLeaf.v (AV.bool v24)]))
 (
 bO (
 cO (S_ (S_ (skV (seekE (S_ n) (fO (S_ cs)) (S_ b) (S_ m) (S_ ls) f o) (firstH (fun j=>geS ((fO (S_ cs)).getD j none) o) (S_ n-f.toNat) f.toNat))==(0:Int)))
 (
 some (S_ (S_ (skE (seekE (S_ n) (fO (S_ cs)) (S_ b) (S_ m) (S_ ls) f o) (firstH (fun j=>geS ((fO (S_ cs)).getD j none) o) (S_ n-f.toNat) f.toNat))==S_ (if f<(0:Int)\/f>(↑n:Int) then (3:Int) else (0:Int)))))
 (
 some false)) fun v17=>
 bO (
 cO v17
 (
 some (S_ (S_ (skV (seekE (S_ n) (fO (S_ cs)) (S_ b) (S_ m) (S_ ls) f o) (firstH (riseS (fO (S_ cs)) o) (S_ n-f.toNat) f.toNat))==(0:Int))))
 (
 some false)) fun v18=>
 bO (
 cO v18
 (
 some (S_ (S_ (skE (seekE (S_ n) (fO (S_ cs)) (S_ b) (S_ m) (S_ ls) f o) (firstH (riseS (fO (S_ cs)) o) (S_ n-f.toNat) f.toNat))==S_ (if f<(0:Int)\/f>(↑n:Int) then (3:Int) else (0:Int)))))
 (
 some false)) fun v19=>
 bO (
 cO v19
 (
 some (S_ (S_ (skV (peakE (S_ n) (fO (S_ cs)) (S_ b) (S_ m) (S_ ls)) (peakV (S_ n) (fO (S_ cs)) (S_ b) (S_ ls)))==(0:Int))))
 (
 some false)) fun v20=>
 bO (
 cO v20
 (
 some (S_ (S_ (skE (peakE (S_ n) (fO (S_ cs)) (S_ b) (S_ m) (S_ ls)) (peakV (S_ n) (fO (S_ cs)) (S_ b) (S_ ls)))==(12:Int))))
 (
 some false)) fun v21=>
 bO (
 cO v21
 (
 some true)
 (
 some false)) fun v22=>
 some ([RLeaf.v (AV.bool v22)])))))
 (
 bO (
 cO (S_ (S_ (chkT n (fO cs) b m ls)==(0:Int)))
 (
 some (!S_ (finB o)))
 (
 some false)) fun v13=>
 cO v13
 (
 cO (S_ ((1:Int)==(0:Int)))
 (
 gO (S_ (decide (Flos n cs/\(0:Int)<=f)))<|
 gO (S_ (decide (Flos n cs/\(0:Int)<=f)))<|
 bO (
 cO (S_ (S_ (skV (seekE (S_ n) (fO (S_ cs)) (S_ b) (S_ m) (S_ ls) f o) (firstH (fun j=>geS ((fO (S_ cs)).getD j none) o) (S_ n-f.toNat) f.toNat))==S_ (if S_ (firstH (fun j=>geS ((fO cs).getD j none) o) (n-f.toNat) f.toNat)<(0:Int) then (0:Int) else S_ (firstH (fun j=>geS ((fO cs).getD j none) o) (n-f.toNat) f.toNat))))
 (
 some (S_ (S_ (skE (seekE (S_ n) (fO (S_ cs)) (S_ b) (S_ m) (S_ ls) f o) (firstH (fun j=>geS ((fO (S_ cs)).getD j none) o) (S_ n-f.toNat) f.toNat))==S_ (if S_ (firstH (fun j=>geS ((fO cs).getD j none) o) (n-f.toNat) f.toNat)<(0:Int) then (7:Int) else (0:Int)))))
 (
 some false)) fun v18=>
 bO (
 cO v18
 (
 some (S_ (S_ (skV (seekE (S_ n) (fO (S_ cs)) (S_ b) (S_ m) (S_ ls) f o) (firstH (riseS (fO (S_ cs)) o) (S_ n-f.toNat) f.toNat))==S_ (if S_ (firstH (riseS (fO cs) o) (n-f.toNat) f.toNat)<(0:Int) then (0:Int) else S_ (firstH (riseS (fO cs) o) (n-f.toNat) f.toNat)))))
 (
 some false)) fun v19=>
 bO (
 cO v19
 (
 some (S_ (S_ (skE (seekE (S_ n) (fO (S_ cs)) (S_ b) (S_ m) (S_ ls) f o) (firstH (riseS (fO (S_ cs)) o) (S_ n-f.toNat) f.toNat))==S_ (if S_ (firstH (riseS (fO cs) o) (n-f.toNat) f.toNat)<(0:Int) then (7:Int) else (0:Int)))))
 (
 some false)) fun v20=>
 bO (
 cO v20
 (
 some (S_ (S_ (skV (peakE (S_ n) (fO (S_ cs)) (S_ b) (S_ m) (S_ ls)) (peakV (S_ n) (fO (S_ cs)) (S_ b) (S_ ls)))==(0:Int))))
 (
 some false)) fun v21=>
 bO (
 cO v21
 (
 some (S_ (S_ (skE (peakE (S_ n) (fO (S_ cs)) (S_ b) (S_ m) (S_ ls)) (peakV (S_ n) (fO (S_ cs)) (S_ b) (S_ ls)))==S_ (chkT n (fO cs) b m ls))))
 (
 some false)) fun v22=>
 bO (
 cO v22
 (
 some true)
 (
 some false)) fun v23=>
 some ([RLeaf.v (AV.bool v23)]))
 (
 bO (
 cO (S_ (S_ (skV (seekE (S_ n) (fO (S_ cs)) (S_ b) (S_ m) (S_ ls) f o) (firstH (fun j=>geS ((fO (S_ cs)).getD j none) o) (S_ n-f.toNat) f.toNat))==(0:Int)))
 (
 some (S_ (S_ (skE (seekE (S_ n) (fO (S_ cs)) (S_ b) (S_ m) (S_ ls) f o) (firstH (fun j=>geS ((fO (S_ cs)).getD j none) o) (S_ n-f.toNat) f.toNat))==(1:Int))))
 (
 some false)) fun v16=>
 bO (
 cO v16
 (
 some (S_ (S_ (skV (seekE (S_ n) (fO (S_ cs)) (S_ b) (S_ m) (S_ ls) f o) (firstH (riseS (fO (S_ cs)) o) (S_ n-f.toNat) f.toNat))==(0:Int))))
 (
 some false)) fun v17=>
 bO (
 cO v17
 (
 some (S_ (S_ (skE (seekE (S_ n) (fO (S_ cs)) (S_ b) (S_ m) (S_ ls) f o) (firstH (riseS (fO (S_ cs)) o) (S_ n-f.toNat) f.toNat))==(1:Int))))
 (
 some false)) fun v18=>
 bO (
 cO v18
 (
 some (S_ (S_ (skV (peakE (S_ n) (fO (S_ cs)) (S_ b) (S_ m) (S_ ls)) (peakV (S_ n) (fO (S_ cs)) (S_ b) (S_ ls)))==(0:Int))))
 (
 some false)) fun v19=>
 bO (
 cO v19
 (
 some (S_ (S_ (skE (peakE (S_ n) (fO (S_ cs)) (S_ b) (S_ m) (S_ ls)) (peakV (S_ n) (fO (S_ cs)) (S_ b) (S_ ls)))==S_ (chkT n (fO cs) b m ls))))
 (
 some false)) fun v20=>
 bO (
 cO v20
 (
 some true)
 (
 some false)) fun v21=>
 some ([RLeaf.v (AV.bool v21)])))
 (
 cO (S_ (S_ (chkT n (fO cs) b m ls)==(0:Int)))
 (
 gO (S_ (decide (Flos n cs/\(0:Int)<=f)))<|
 gO (S_ (decide (Flos n cs/\(0:Int)<=f)))<|
 bO (
 cO (S_ (S_ (skV (seekE (S_ n) (fO (S_ cs)) (S_ b) (S_ m) (S_ ls) f o) (firstH (fun j=>geS ((fO (S_ cs)).getD j none) o) (S_ n-f.toNat) f.toNat))==S_ (if S_ (firstH (fun j=>geS ((fO cs).getD j none) o) (n-f.toNat) f.toNat)<(0:Int) then (0:Int) else S_ (firstH (fun j=>geS ((fO cs).getD j none) o) (n-f.toNat) f.toNat))))
 (
 some (S_ (S_ (skE (seekE (S_ n) (fO (S_ cs)) (S_ b) (S_ m) (S_ ls) f o) (firstH (fun j=>geS ((fO (S_ cs)).getD j none) o) (S_ n-f.toNat) f.toNat))==S_ (if S_ (firstH (fun j=>geS ((fO cs).getD j none) o) (n-f.toNat) f.toNat)<(0:Int) then (7:Int) else (0:Int)))))
 (
 some false)) fun v18=>
 bO (
 cO v18
 (
 some (S_ (S_ (skV (seekE (S_ n) (fO (S_ cs)) (S_ b) (S_ m) (S_ ls) f o) (firstH (riseS (fO (S_ cs)) o) (S_ n-f.toNat) f.toNat))==S_ (if S_ (firstH (riseS (fO cs) o) (n-f.toNat) f.toNat)<(0:Int) then (0:Int) else S_ (firstH (riseS (fO cs) o) (n-f.toNat) f.toNat)))))
 (
 some false)) fun v19=>
 bO (
 cO v19
 (
 some (S_ (S_ (skE (seekE (S_ n) (fO (S_ cs)) (S_ b) (S_ m) (S_ ls) f o) (firstH (riseS (fO (S_ cs)) o) (S_ n-f.toNat) f.toNat))==S_ (if S_ (firstH (riseS (fO cs) o) (n-f.toNat) f.toNat)<(0:Int) then (7:Int) else (0:Int)))))
 (
 some false)) fun v20=>
 bO (
 cO v20
 (
 some (S_ (S_ (skV (peakE (S_ n) (fO (S_ cs)) (S_ b) (S_ m) (S_ ls)) (peakV (S_ n) (fO (S_ cs)) (S_ b) (S_ ls)))==(0:Int))))
 (
 some false)) fun v21=>
 bO (
 cO v21
 (
 some (S_ (S_ (skE (peakE (S_ n) (fO (S_ cs)) (S_ b) (S_ m) (S_ ls)) (peakV (S_ n) (fO (S_ cs)) (S_ b) (S_ ls)))==S_ (chkT n (fO cs) b m ls))))
 (
 some false)) fun v22=>
 bO (
 cO v22
 (
 some true)
 (
 some false)) fun v23=>
 some ([RLeaf.v (AV.bool v23)]))
 (
 bO (
 cO (S_ (S_ (skV (seekE (S_ n) (fO (S_ cs)) (S_ b) (S_ m) (S_ ls) f o) (firstH (fun j=>geS ((fO (S_ cs)).getD j none) o) (S_ n-f.toNat) f.toNat))==(0:Int)))
 (
 some (S_ (S_ (skE (seekE (S_ n) (fO (S_ cs)) (S_ b) (S_ m) (S_ ls) f o) (firstH (fun j=>geS ((fO (S_ cs)).getD j none) o) (S_ n-f.toNat) f.toNat))==S_ (chkT n (fO cs) b m ls))))
 (
 some false)) fun v16=>
 bO (
 cO v16
 (
 some (S_ (S_ (skV (seekE (S_ n) (fO (S_ cs)) (S_ b) (S_ m) (S_ ls) f o) (firstH (riseS (fO (S_ cs)) o) (S_ n-f.toNat) f.toNat))==(0:Int))))
 (
 some false)) fun v17=>
 bO (
 cO v17
 (
 some (S_ (S_ (skE (seekE (S_ n) (fO (S_ cs)) (S_ b) (S_ m) (S_ ls) f o) (firstH (riseS (fO (S_ cs)) o) (S_ n-f.toNat) f.toNat))==S_ (chkT n (fO cs) b m ls))))
 (
 some false)) fun v18=>
 bO (
 cO v18
 (
 some (S_ (S_ (skV (peakE (S_ n) (fO (S_ cs)) (S_ b) (S_ m) (S_ ls)) (peakV (S_ n) (fO (S_ cs)) (S_ b) (S_ ls)))==(0:Int))))
 (
 some false)) fun v19=>
 bO (
 cO v19
 (
 some (S_ (S_ (skE (peakE (S_ n) (fO (S_ cs)) (S_ b) (S_ m) (S_ ls)) (peakV (S_ n) (fO (S_ cs)) (S_ b) (S_ ls)))==S_ (chkT n (fO cs) b m ls))))
 (
 some false)) fun v20=>
 bO (
 cO v20
 (
 some true)
 (
 some false)) fun v21=>
 some ([RLeaf.v (AV.bool v21)])))))):=by kernel_rfl
end Go.Abs
end
