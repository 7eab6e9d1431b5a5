/- Part 37 of the library that the proof of the statement uses: an abstract run of the program, proved right, and what its functions give. -/
import Derived.Test.YtkloadomnblkeaaGreatDoorRg20
import Derived.Test.YtkloadomnblkeaaGreatDoorRg36
set_option linter.unusedVariables false
set_option linter.unusedSimpArgs false

set_option maxRecDepth 100000
noncomputable section
namespace Go.Abs
open Go.Proofs Classical
theorem run_5 (N n:Nat) (cs:List AV) (b:Int) (m:Nat) (ls:List AV) (f t c:Int) (o:Option Nat):(fsM mzR waysQ N 12).call (List RLeaf) 5 [.ofB (.list n cs),.s (.agg [.b (.int .i64 b),.b (.list m ls)]),.s (.agg [.b (.int .i64 f),.b (.int .i64 t),.b (.int .i64 c),.b (.flo .f32 o)])] [] (resK [false])=(
 bO (
 cO (!S_ (lenB (↑n:Int) (64:Int) (4096:Int)))
 (
 some true)
 (
 gO (S_ (decide (LvsW m ls)))<|
 some (!S_ (shortT m ls)))) fun v0=>
 cO v0
 (
 some ([RLeaf.v (AV.bool true)]))
 (
 gO (S_ (decide (Flos n cs/\n<=100000000)))<|
 gO (S_ (decide (Lvs m ls)))<|
 gO (S_ (decide (Flos (S_ n) (S_ cs)/\Lvs (S_ m) (S_ ls))))<|
 gO (S_ (decide (Flos n cs/\n<=100000000)))<|
 gO (S_ (decide (Lvs m ls)))<|
 gO (S_ (decide (Flos (S_ n) (S_ cs)/\Lvs (S_ m) (S_ ls))))<|
 gO (S_ (decide (Flos n cs/\n<=100000000)))<|
 gO (S_ (decide (Lvs m ls)))<|
 gO (S_ (decide (Flos (S_ n) (S_ cs)/\Lvs (S_ m) (S_ ls))))<|
 gO (S_ (decide (Flos n cs/\Lvs m ls)))<|
 cO (S_ (S_ (chkT n (fO cs) b m ls)==(0:Int)))
 (
 cO (S_ (S_ (if f<(0:Int)\/f>(↑n:Int)\/t<(0:Int)\/t>(↑n:Int) then (3:Int) else if t<f then (11:Int) else (0:Int))==(0:Int)))
 (
 cO (S_ (decide (f<t)))
 (
 gO (S_ (decide ((0:Int)<=f/\f<=t/\t<=(↑n:Int))))<|
 gO (S_ (decide (n*1=cs.length)))<|
 gO (S_ (decide (Flos (t.toNat-f.toNat) (List.take ((t.toNat-f.toNat)*1) (List.drop (f.toNat*1) cs))/\0<t.toNat-f.toNat)))<|
 bO (
 cO (S_ (S_ (if c<(1:Int)\/c>(2048:Int) then (3:Int) else (0:Int))==(0:Int)))
 (
 some (S_ (decide (S_ (IntKind.i64.wrap (t-f))<c))))
 (
 some false)) fun v18=>
 cO v18
 (
 cO (S_ (finB o))
 (
 gO (S_ (decide ((0:Int)<=f/\f<=t/\t<=(↑n:Int))))<|
 gO (S_ (decide (n*1=cs.length)))<|
 gO (S_ (decide (Flos (t.toNat-f.toNat) (List.take ((t.toNat-f.toNat)*1) (List.drop (f.toNat*1) cs)))))<|
 bO (
 cO (S_ (S_ (ordO .f32 (S_ (ext35V (S_ n) (fO (S_ cs)) (S_ b) (S_ m) (S_ ls) f t).fst) (S_ (extV Ordering.lt ((fO (List.take ((t.toNat-f.toNat)*1) (List.drop (f.toNat*1) cs))).getD 0 none) (fO (List.take ((t.toNat-f.toNat)*1) (List.drop (f.toNat*1) cs)))))==some .eq)&&(S_ (ordO .f32 (S_ (ext35V (S_ n) (fO (S_ cs)) (S_ b) (S_ m) (S_ ls) f t).snd) (S_ (extV Ordering.gt ((fO (List.take ((t.toNat-f.toNat)*1) (List.drop (f.toNat*1) cs))).getD 0 none) (fO (List.take ((t.toNat-f.toNat)*1) (List.drop (f.toNat*1) cs)))))==some .eq)&&true)))
 (
 some (S_ (S_ (ext35E (S_ n) (fO (S_ cs)) (S_ b) (S_ m) (S_ ls) f t)==(0:Int))))
 (
 some false)) fun v24=>
 bO (
 cO v24
 (
 gO (S_ (decide (Flos (2*S_ ((zoomV (S_ n) (fO (S_ cs)) (S_ b) (S_ m) (S_ ls) f t c).length / 2)) (S_ (flosL (zoomV (S_ n) (fO (S_ cs)) (S_ b) (S_ m) (S_ ls) f t c)))/\S_ ((zoomV (S_ n) (fO (S_ cs)) (S_ b) (S_ m) (S_ ls) f t c).length / 2)<=100000)))<|
 gO (S_ (decide (FPrs (S_ (S_ ((zoomV (S_ n) (fO (S_ cs)) (S_ b) (S_ m) (S_ ls) f t c).length / 2))) (S_ (S_ (flosL (zoomV (S_ n) (fO (S_ cs)) (S_ b) (S_ m) (S_ ls) f t c))))/\FPrs 0 [])))<|
 some (S_ (sameF (fO (S_ (S_ (flosL (zoomV (S_ n) (fO (S_ cs)) (S_ b) (S_ m) (S_ ls) f t c))))) (fO []))))
 (
 some false)) fun v25=>
 bO (
 cO v25
 (
 some (S_ (S_ (zoomE (S_ n) (fO (S_ cs)) (S_ b) (S_ m) (S_ ls) f t c)==(16:Int))))
 (
 some false)) fun v26=>
 bO (
 cO v26
 (
 some (S_ (S_ (↑(cntV (S_ n) (fO (S_ cs)) (S_ b) (S_ m) (S_ ls) f t o):Int)==S_ (↑(cntL o (fO (List.take ((t.toNat-f.toNat)*1) (List.drop (f.toNat*1) cs)))):Int))))
 (
 some false)) fun v27=>
 bO (
 cO v27
 (
 some (S_ (S_ (cntE (S_ n) (fO (S_ cs)) (S_ b) (S_ m) (S_ ls) f t o)==(0:Int))))
 (
 some false)) fun v28=>
 bO (
 cO v28
 (
 some true)
 (
 some false)) fun v29=>
 some ([RLeaf.v (AV.bool v29)]))
 (
 bO (
 cO (S_ (S_ (ordO .f32 (S_ (ext35V (S_ n) (fO (S_ cs)) (S_ b) (S_ m) (S_ ls) f t).fst) (S_ (extV Ordering.lt ((fO (List.take ((t.toNat-f.toNat)*1) (List.drop (f.toNat*1) cs))).getD 0 none) (fO (List.take ((t.toNat-f.toNat)*1) (List.drop (f.toNat*1) cs)))))==some .eq)&&(S_ (ordO .f32 (S_ (ext35V (S_ n) (fO (S_ cs)) (S_ b) (S_ m) (S_ ls) f t).snd) (S_ (extV Ordering.gt ((fO (List.take ((t.toNat-f.toNat)*1) (List.drop (f.toNat*1) cs))).getD 0 none) (fO (List.take ((t.toNat-f.toNat)*1) (List.drop (f.toNat*1) cs)))))==some .eq)&&true)))
 (
 some (S_ (S_ (ext35E (S_ n) (fO (S_ cs)) (S_ b) (S_ m) (S_ ls) f t)==(0:Int))))
 (
 some false)) fun v21=>
 bO (
 cO v21
 (
 gO (S_ (decide (Flos (2*S_ ((zoomV (S_ n) (fO (S_ cs)) (S_ b) (S_ m) (S_ ls) f t c).length / 2)) (S_ (flosL (zoomV (S_ n) (fO (S_ cs)) (S_ b) (S_ m) (S_ ls) f t c)))/\S_ ((zoomV (S_ n) (fO (S_ cs)) (S_ b) (S_ m) (S_ ls) f t c).length / 2)<=100000)))<|
 gO (S_ (decide (FPrs (S_ (S_ ((zoomV (S_ n) (fO (S_ cs)) (S_ b) (S_ m) (S_ ls) f t c).length / 2))) (S_ (S_ (flosL (zoomV (S_ n) (fO (S_ cs)) (S_ b) (S_ m) (S_ ls) f t c))))/\FPrs 0 [])))<|
 some (S_ (sameF (fO (S_ (S_ (flosL (zoomV (S_ n) (fO (S_ cs)) (S_ b) (S_ m) (S_ ls) f t c))))) (fO []))))
 (
 some false)) fun v22=>
 bO (
 cO v22
 (
 some (S_ (S_ (zoomE (S_ n) (fO (S_ cs)) (S_ b) (S_ m) (S_ ls) f t c)==(16:Int))))
 (
 some false)) fun v23=>
 bO (
 cO v23
 (
 some (S_ (S_ (↑(cntV (S_ n) (fO (S_ cs)) (S_ b) (S_ m) (S_ ls) f t o):Int)==(0:Int))))
 (
 some false)) fun v24=>
 bO (
 cO v24
 (
 some (S_ (S_ (cntE (S_ n) (fO (S_ cs)) (S_ b) (S_ m) (S_ ls) f t o)==(1:Int))))
 (
 some false)) fun v25=>
 bO (
 cO v25
 (
 some true)
 (
 some false)) fun v26=>
 some ([RLeaf.v (AV.bool v26)])))
 (
 cO (S_ (S_ (if c<(1:Int)\/c>(2048:Int) then (3:Int) else (0:Int))==(0:Int)))
 (
 gO (S_ (decide (Flos n cs/\n<=4096/\(0:Int)<=f/\f<=t/\t<=(↑n:Int)/\(1:Int)<=c/\c<=(2048:Int)/\c<=t-f)))<|
 cO (S_ (finB o))
 (
 gO (S_ (decide ((0:Int)<=f/\f<=t/\t<=(↑n:Int))))<|
 gO (S_ (decide (n*1=cs.length)))<|
 gO (S_ (decide (Flos (t.toNat-f.toNat) (List.take ((t.toNat-f.toNat)*1) (List.drop (f.toNat*1) cs)))))<|
 bO (
 cO (S_ (S_ (ordO .f32 (S_ (ext35V (S_ n) (fO (S_ cs)) (S_ b) (S_ m) (S_ ls) f t).fst) (S_ (extV Ordering.lt ((fO (List.take ((t.toNat-f.toNat)*1) (List.drop (f.toNat*1) cs))).getD 0 none) (fO (List.take ((t.toNat-f.toNat)*1) (List.drop (f.toNat*1) cs)))))==some .eq)&&(S_ (ordO .f32 (S_ (ext35V (S_ n) (fO (S_ cs)) (S_ b) (S_ m) (S_ ls) f t).snd) (S_ (extV Ordering.gt ((fO (List.take ((t.toNat-f.toNat)*1) (List.drop (f.toNat*1) cs))).getD 0 none) (fO (List.take ((t.toNat-f.toNat)*1) (List.drop (f.toNat*1) cs)))))==some .eq)&&true)))
 (
 some (S_ (S_ (ext35E (S_ n) (fO (S_ cs)) (S_ b) (S_ m) (S_ ls) f t)==(0:Int))))
 (
 some false)) fun v26=>
 bO (
 cO v26
 (
 gO (S_ (decide (Flos (2*S_ ((zoomV (S_ n) (fO (S_ cs)) (S_ b) (S_ m) (S_ ls) f t c).length / 2)) (S_ (flosL (zoomV (S_ n) (fO (S_ cs)) (S_ b) (S_ m) (S_ ls) f t c)))/\S_ ((zoomV (S_ n) (fO (S_ cs)) (S_ b) (S_ m) (S_ ls) f t c).length / 2)<=100000)))<|
 gO (S_ (decide (FPrs (S_ (S_ ((zoomV (S_ n) (fO (S_ cs)) (S_ b) (S_ m) (S_ ls) f t c).length / 2))) (S_ (S_ (flosL (zoomV (S_ n) (fO (S_ cs)) (S_ b) (S_ m) (S_ ls) f t c))))/\FPrs (S_ ((zoomF (fO cs) f.toNat (t-f).toNat c.toNat c.toNat 0).length / 2)) (S_ (flosL (zoomF (fO cs) f.toNat (t-f).toNat c.toNat c.toNat 0))))))<|
 some (S_ (sameF (fO (S_ (S_ (flosL (zoomV (S_ n) (fO (S_ cs)) (S_ b) (S_ m) (S_ ls) f t c))))) (fO (S_ (flosL (zoomF (fO cs) f.toNat (t-f).toNat c.toNat c.toNat 0)))))))
 (
 some false)) fun v27=>
 bO (
 cO v27
 (
 some (S_ (S_ (zoomE (S_ n) (fO (S_ cs)) (S_ b) (S_ m) (S_ ls) f t c)==S_ (if c<(1:Int)\/c>(2048:Int) then (3:Int) else (0:Int)))))
 (
 some false)) fun v28=>
 bO (
 cO v28
 (
 some (S_ (S_ (↑(cntV (S_ n) (fO (S_ cs)) (S_ b) (S_ m) (S_ ls) f t o):Int)==S_ (↑(cntL o (fO (List.take ((t.toNat-f.toNat)*1) (List.drop (f.toNat*1) cs)))):Int))))
 (
 some false)) fun v29=>
 bO (
 cO v29
 (
 some (S_ (S_ (cntE (S_ n) (fO (S_ cs)) (S_ b) (S_ m) (S_ ls) f t o)==(0:Int))))
 (
 some false)) fun v30=>
 bO (
 cO v30
 (
 some true)
 (
 some false)) fun v31=>
 some ([RLeaf.v (AV.bool v31)]))
 (
 bO (
 cO (S_ (S_ (ordO .f32 (S_ (ext35V (S_ n) (fO (S_ cs)) (S_ b) (S_ m) (S_ ls) f t).fst) (S_ (extV Ordering.lt ((fO (List.take ((t.toNat-f.toNat)*1) (List.drop (f.toNat*1) cs))).getD 0 none) (fO (List.take ((t.toNat-f.toNat)*1) (List.drop (f.toNat*1) cs)))))==some .eq)&&(S_ (ordO .f32 (S_ (ext35V (S_ n) (fO (S_ cs)) (S_ b) (S_ m) (S_ ls) f t).snd) (S_ (extV Ordering.gt ((fO (List.take ((t.toNat-f.toNat)*1) (List.drop (f.toNat*1) cs))).getD 0 none) (fO (List.take ((t.toNat-f.toNat)*1) (List.drop (f.toNat*1) cs)))))==some .eq)&&true)))
 (
 some (S_ (S_ (ext35E (S_ n) (fO (S_ cs)) (S_ b) (S_ m) (S_ ls) f t)==(0:Int))))
 (
 some false)) fun v23=>
 bO (
 cO v23
 (
 gO (S_ (decide (Flos (2*S_ ((zoomV (S_ n) (fO (S_ cs)) (S_ b) (S_ m) (S_ ls) f t c).length / 2)) (S_ (flosL (zoomV (S_ n) (fO (S_ cs)) (S_ b) (S_ m) (S_ ls) f t c)))/\S_ ((zoomV (S_ n) (fO (S_ cs)) (S_ b) (S_ m) (S_ ls) f t c).length / 2)<=100000)))<|
 gO (S_ (decide (FPrs (S_ (S_ ((zoomV (S_ n) (fO (S_ cs)) (S_ b) (S_ m) (S_ ls) f t c).length / 2))) (S_ (S_ (flosL (zoomV (S_ n) (fO (S_ cs)) (S_ b) (S_ m) (S_ ls) f t c))))/\FPrs (S_ ((zoomF (fO cs) f.toNat (t-f).toNat c.toNat c.toNat 0).length / 2)) (S_ (flosL (zoomF (fO cs) f.toNat (t-f).toNat c.toNat c.toNat 0))))))<|
 some (S_ (sameF (fO (S_ (S_ (flosL (zoomV (S_ n) (fO (S_ cs)) (S_ b) (S_ m) (S_ ls) f t c))))) (fO (S_ (flosL (zoomF (fO cs) f.toNat (t-f).toNat c.toNat c.toNat 0)))))))
 (
 some false)) fun v24=>
 bO (
 cO v24
 (
 some (S_ (S_ (zoomE (S_ n) (fO (S_ cs)) (S_ b) (S_ m) (S_ ls) f t c)==S_ (if c<(1:Int)\/c>(2048:Int) then (3:Int) else (0:Int)))))
 (
 some false)) fun v25=>
 bO (
 cO v25
 (
 some (S_ (S_ (↑(cntV (S_ n) (fO (S_ cs)) (S_ b) (S_ m) (S_ ls) f t o):Int)==(0:Int))))
 (
 some false)) fun v26=>
 bO (
 cO v26
 (
 some (S_ (S_ (cntE (S_ n) (fO (S_ cs)) (S_ b) (S_ m) (S_ ls) f t o)==(1:Int))))
 (
 some false)) fun v27=>
 bO (
 cO v27
 (
 some true)
 (
 some false)) fun v28=>
 some ([RLeaf.v (AV.bool v28)])))
 (
 cO (S_ (finB o))
 (
 gO (S_ (decide ((0:Int)<=f/\f<=t/\t<=(↑n:Int))))<|
 gO (S_ (decide (n*1=cs.length)))<|
 gO (S_ (decide (Flos (t.toNat-f.toNat) (List.take ((t.toNat-f.toNat)*1) (List.drop (f.toNat*1) cs)))))<|
 bO (
 cO (S_ (S_ (ordO .f32 (S_ (ext35V (S_ n) (fO (S_ cs)) (S_ b) (S_ m) (S_ ls) f t).fst) (S_ (extV Ordering.lt ((fO (List.take ((t.toNat-f.toNat)*1) (List.drop (f.toNat*1) cs))).getD 0 none) (fO (List.take ((t.toNat-f.toNat)*1) (List.drop (f.toNat*1) cs)))))==some .eq)&&(S_ (ordO .f32 (S_ (ext35V (S_ n) (fO (S_ cs)) (S_ b) (S_ m) (S_ ls) f t).snd) (S_ (extV Ordering.gt ((fO (List.take ((t.toNat-f.toNat)*1) (List.drop (f.toNat*1) cs))).getD 0 none) (fO (List.take ((t.toNat-f.toNat)*1) (List.drop (f.toNat*1) cs)))))==some .eq)&&true)))
 (
 some (S_ (S_ (ext35E (S_ n) (fO (S_ cs)) (S_ b) (S_ m) (S_ ls) f t)==(0:Int))))
 (
 some false)) fun v25=>
 bO (
 cO v25
 (
 gO (S_ (decide (Flos (2*S_ ((zoomV (S_ n) (fO (S_ cs)) (S_ b) (S_ m) (S_ ls) f t c).length / 2)) (S_ (flosL (zoomV (S_ n) (fO (S_ cs)) (S_ b) (S_ m) (S_ ls) f t c)))/\S_ ((zoomV (S_ n) (fO (S_ cs)) (S_ b) (S_ m) (S_ ls) f t c).length / 2)<=100000)))<|
 gO (S_ (decide (FPrs (S_ (S_ ((zoomV (S_ n) (fO (S_ cs)) (S_ b) (S_ m) (S_ ls) f t c).length / 2))) (S_ (S_ (flosL (zoomV (S_ n) (fO (S_ cs)) (S_ b) (S_ m) (S_ ls) f t c))))/\FPrs 0 [])))<|
 some (S_ (sameF (fO (S_ (S_ (flosL (zoomV (S_ n) (fO (S_ cs)) (S_ b) (S_ m) (S_ ls) f t c))))) (fO []))))
 (
 some false)) fun v26=>
 bO (
 cO v26
 (
 some (S_ (S_ (zoomE (S_ n) (fO (S_ cs)) (S_ b) (S_ m) (S_ ls) f t c)==S_ (if c<(1:Int)\/c>(2048:Int) then (3:Int) else (0:Int)))))
 (
 some false)) fun v27=>
 bO (
 cO v27
 (
 some (S_ (S_ (↑(cntV (S_ n) (fO (S_ cs)) (S_ b) (S_ m) (S_ ls) f t o):Int)==S_ (↑(cntL o (fO (List.take ((t.toNat-f.toNat)*1) (List.drop (f.toNat*1) cs)))):Int))))
 (
 some false)) fun v28=>
 bO (
 cO v28
 (
 some (S_ (S_ (cntE (S_ n) (fO (S_ cs)) (S_ b) (S_ m) (S_ ls) f t o)==(0:Int))))
 (
 some false)) fun v29=>
 bO (
 cO v29
 (
 some true)
 (
 some false)) fun v30=>
 some ([RLeaf.v (AV.bool v30)]))
 (
 bO (
 cO (S_ (S_ (ordO .f32 (S_ (ext35V (S_ n) (fO (S_ cs)) (S_ b) (S_ m) (S_ ls) f t).fst) (S_ (extV Ordering.lt ((fO (List.take ((t.toNat-f.toNat)*1) (List.drop (f.toNat*1) cs))).getD 0 none) (fO (List.take ((t.toNat-f.toNat)*1) (List.drop (f.toNat*1) cs)))))==some .eq)&&(S_ (ordO .f32 (S_ (ext35V (S_ n) (fO (S_ cs)) (S_ b) (S_ m) (S_ ls) f t).snd) (S_ (extV Ordering.gt ((fO (List.take ((t.toNat-f.toNat)*1) (List.drop (f.toNat*1) cs))).getD 0 none) (fO (List.take ((t.toNat-f.toNat)*1) (List.drop (f.toNat*1) cs)))))==some .eq)&&true)))
 (
 some (S_ (S_ (ext35E (S_ n) (fO (S_ cs)) (S_ b) (S_ m) (S_ ls) f t)==(0:Int))))
 (
 some false)) fun v22=>
 bO (
 cO v22
 (
 gO (S_ (decide (Flos (2*S_ ((zoomV (S_ n) (fO (S_ cs)) (S_ b) (S_ m) (S_ ls) f t c).length / 2)) (S_ (flosL (zoomV (S_ n) (fO (S_ cs)) (S_ b) (S_ m) (S_ ls) f t c)))/\S_ ((zoomV (S_ n) (fO (S_ cs)) (S_ b) (S_ m) (S_ ls) f t c).length / 2)<=100000)))<|
 gO (S_ (decide (FPrs (S_ (S_ ((zoomV (S_ n) (fO (S_ cs)) (S_ b) (S_ m) (S_ ls) f t c).length / 2))) (S_ (S_ (flosL (zoomV (S_ n) (fO (S_ cs)) (S_ b) (S_ m) (S_ ls) f t c))))/\FPrs 0 [])))<|
 some (S_ (sameF (fO (S_ (S_ (flosL (zoomV (S_ n) (fO (S_ cs)) (S_ b) (S_ m) (S_ ls) f t c))))) (fO []))))
 (
 some false)) fun v23=>
 bO (
 cO v23
 (
 some (S_ (S_ (zoomE (S_ n) (fO (S_ cs)) (S_ b) (S_ m) (S_ ls) f t c)==S_ (if c<(1:Int)\/c>(2048:Int) then (3:Int) else (0:Int)))))
 (
 some false)) fun v24=>
 bO (
 cO v24
 (
 some (S_ (S_ (↑(cntV (S_ n) (fO (S_ cs)) (S_ b) (S_ m) (S_ ls) f t o):Int)==(0:Int))))
 (
 some false)) fun v25=>
 bO (
 cO v25
 (
 some (S_ (S_ (cntE (S_ n) (fO (S_ cs)) (S_ b) (S_ m) (S_ ls) f t o)==(1:Int))))
 (
 some false)) fun v26=>
 bO (
 cO v26
 (
 some true)
 (
 some false)) fun v27=>
 some ([RLeaf.v (AV.bool v27)])))))
 (
 bO (
 cO (S_ (S_ (if c<(1:Int)\/c>(2048:Int) then (3:Int) else (0:Int))==(0:Int)))
 (
 some (S_ (decide (S_ (IntKind.i64.wrap (t-f))<c))))
 (
 some false)) fun v15=>
 cO v15
 (
 cO (S_ (finB o))
 (
 gO (S_ (decide ((0:Int)<=f/\f<=t/\t<=(↑n:Int))))<|
 gO (S_ (decide (n*1=cs.length)))<|
 gO (S_ (decide (Flos (t.toNat-f.toNat) (List.take ((t.toNat-f.toNat)*1) (List.drop (f.toNat*1) cs)))))<|
 bO (
 cO (S_ (S_ (ordO .f32 (S_ (ext35V (S_ n) (fO (S_ cs)) (S_ b) (S_ m) (S_ ls) f t).fst) (some 0)==some .eq)&&(S_ (ordO .f32 (S_ (ext35V (S_ n) (fO (S_ cs)) (S_ b) (S_ m) (S_ ls) f t).snd) (some 0)==some .eq)&&true)))
 (
 some (S_ (S_ (ext35E (S_ n) (fO (S_ cs)) (S_ b) (S_ m) (S_ ls) f t)==(12:Int))))
 (
 some false)) fun v21=>
 bO (
 cO v21
 (
 gO (S_ (decide (Flos (2*S_ ((zoomV (S_ n) (fO (S_ cs)) (S_ b) (S_ m) (S_ ls) f t c).length / 2)) (S_ (flosL (zoomV (S_ n) (fO (S_ cs)) (S_ b) (S_ m) (S_ ls) f t c)))/\S_ ((zoomV (S_ n) (fO (S_ cs)) (S_ b) (S_ m) (S_ ls) f t c).length / 2)<=100000)))<|
 gO (S_ (decide (FPrs (S_ (S_ ((zoomV (S_ n) (fO (S_ cs)) (S_ b) (S_ m) (S_ ls) f t c).length / 2))) (S_ (S_ (flosL (zoomV (S_ n) (fO (S_ cs)) (S_ b) (S_ m) (S_ ls) f t c))))/\FPrs 0 [])))<|
 some (S_ (sameF (fO (S_ (S_ (flosL (zoomV (S_ n) (fO (S_ cs)) (S_ b) (S_ m) (S_ ls) f t c))))) (fO []))))
 (
 some false)) fun v22=>
 bO (
 cO v22
 (
 some (S_ (S_ (zoomE (S_ n) (fO (S_ cs)) (S_ b) (S_ m) (S_ ls) f t c)==(16:Int))))
 (
 some false)) fun v23=>
 bO (
 cO v23
 (
 some (S_ (S_ (↑(cntV (S_ n) (fO (S_ cs)) (S_ b) (S_ m) (S_ ls) f t o):Int)==S_ (↑(cntL o (fO (List.take ((t.toNat-f.toNat)*1) (List.drop (f.toNat*1) cs)))):Int))))
 (
 some false)) fun v24=>
 bO (
 cO v24
 (
 some (S_ (S_ (cntE (S_ n) (fO (S_ cs)) (S_ b) (S_ m) (S_ ls) f t o)==(0:Int))))
 (
 some false)) fun v25=>
 bO (
 cO v25
 (
 some true)
 (
 some false)) fun v26=>
 some ([RLeaf.v (AV.bool v26)]))
 (
 bO (
 cO (S_ (S_ (ordO .f32 (S_ (ext35V (S_ n) (fO (S_ cs)) (S_ b) (S_ m) (S_ ls) f t).fst) (some 0)==some .eq)&&(S_ (ordO .f32 (S_ (ext35V (S_ n) (fO (S_ cs)) (S_ b) (S_ m) (S_ ls) f t).snd) (some 0)==some .eq)&&true)))
 (
 some (S_ (S_ (ext35E (S_ n) (fO (S_ cs)) (S_ b) (S_ m) (S_ ls) f t)==(12:Int))))
 (
 some false)) fun v18=>
 bO (
 cO v18
 (
 gO (S_ (decide (Flos (2*S_ ((zoomV (S_ n) (fO (S_ cs)) (S_ b) (S_ m) (S_ ls) f t c).length / 2)) (S_ (flosL (zoomV (S_ n) (fO (S_ cs)) (S_ b) (S_ m) (S_ ls) f t c)))/\S_ ((zoomV (S_ n) (fO (S_ cs)) (S_ b) (S_ m) (S_ ls) f t c).length / 2)<=100000)))<|
 gO (S_ (decide (FPrs (S_ (S_ ((zoomV (S_ n) (fO (S_ cs)) (S_ b) (S_ m) (S_ ls) f t c).length / 2))) (S_ (S_ (flosL (zoomV (S_ n) (fO (S_ cs)) (S_ b) (S_ m) (S_ ls) f t c))))/\FPrs 0 [])))<|
 some (S_ (sameF (fO (S_ (S_ (flosL (zoomV (S_ n) (fO (S_ cs)) (S_ b) (S_ m) (S_ ls) f t c))))) (fO []))))
 (
 some false)) fun v19=>
 bO (
 cO v19
 (
 some (S_ (S_ (zoomE (S_ n) (fO (S_ cs)) (S_ b) (S_ m) (S_ ls) f t c)==(16:Int))))
 (
 some false)) fun v20=>
 bO (
 cO v20
 (
 some (S_ (S_ (↑(cntV (S_ n) (fO (S_ cs)) (S_ b) (S_ m) (S_ ls) f t o):Int)==(0:Int))))
 (
 some false)) fun v21=>
 bO (
 cO v21
 (
 some (S_ (S_ (cntE (S_ n) (fO (S_ cs)) (S_ b) (S_ m) (S_ ls) f t o)==(1:Int))))
 (
 some false)) fun v22=>
 bO (
 cO v22
 (
 some true)
 (
 some false)) fun v23=>
 some ([RLeaf.v (AV.bool v23)])))
 (
 cO (S_ (S_ (if c<(1:Int)\/c>(2048:Int) then (3:Int) else (0:Int))==(0:Int)))
 (
 gO (S_ (decide (Flos n cs/\n<=4096/\(0:Int)<=f/\f<=t/\t<=(↑n:Int)/\(1:Int)<=c/\c<=(2048:Int)/\c<=t-f)))<|
 cO (S_ (finB o))
 (
 gO (S_ (decide ((0:Int)<=f/\f<=t/\t<=(↑n:Int))))<|
 gO (S_ (decide (n*1=cs.length)))<|
 gO (S_ (decide (Flos (t.toNat-f.toNat) (List.take ((t.toNat-f.toNat)*1) (List.drop (f.toNat*1) cs)))))<|
 bO (
 cO (S_ (S_ (ordO .f32 (S_ (ext35V (S_ n) (fO (S_ cs)) (S_ b) (S_ m) (S_ ls) f t).fst) (some 0)==some .eq)&&(S_ (ordO .f32 (S_ (ext35V (S_ n) (fO (S_ cs)) (S_ b) (S_ m) (S_ ls) f t).snd) (some 0)==some .eq)&&true)))
 (
 some (S_ (S_ (ext35E (S_ n) (fO (S_ cs)) (S_ b) (S_ m) (S_ ls) f t)==(12:Int))))
 (
 some false)) fun v23=>
 bO (
 cO v23
 (
 gO (S_ (decide (Flos (2*S_ ((zoomV (S_ n) (fO (S_ cs)) (S_ b) (S_ m) (S_ ls) f t c).length / 2)) (S_ (flosL (zoomV (S_ n) (fO (S_ cs)) (S_ b) (S_ m) (S_ ls) f t c)))/\S_ ((zoomV (S_ n) (fO (S_ cs)) (S_ b) (S_ m) (S_ ls) f t c).length / 2)<=100000)))<|
 gO (S_ (decide (FPrs (S_ (S_ ((zoomV (S_ n) (fO (S_ cs)) (S_ b) (S_ m) (S_ ls) f t c).length / 2))) (S_ (S_ (flosL (zoomV (S_ n) (fO (S_ cs)) (S_ b) (S_ m) (S_ ls) f t c))))/\FPrs (S_ ((zoomF (fO cs) f.toNat (t-f).toNat c.toNat c.toNat 0).length / 2)) (S_ (flosL (zoomF (fO cs) f.toNat (t-f).toNat c.toNat c.toNat 0))))))<|
 some (S_ (sameF (fO (S_ (S_ (flosL (zoomV (S_ n) (fO (S_ cs)) (S_ b) (S_ m) (S_ ls) f t c))))) (fO (S_ (flosL (zoomF (fO cs) f.toNat (t-f).toNat c.toNat c.toNat 0)))))))
 (
 some false)) fun v24=>
 bO (
 cO v24
 (
 some (S_ (S_ (zoomE (S_ n) (fO (S_ cs)) (S_ b) (S_ m) (S_ ls) f t c)==S_ (if c<(1:Int)\/c>(2048:Int) then (3:Int) else (0:Int)))))
 (
 some false)) fun v25=>
 bO (
 cO v25
 (
 some (S_ (S_ (↑(cntV (S_ n) (fO (S_ cs)) (S_ b) (S_ m) (S_ ls) f t o):Int)==S_ (↑(cntL o (fO (List.take ((t.toNat-f.toNat)*1) (List.drop (f.toNat*1) cs)))):Int))))
 (
 some false)) fun v26=>
 bO (
 cO v26
 (
 some (S_ (S_ (cntE (S_ n) (fO (S_ cs)) (S_ b) (S_ m) (S_ ls) f t o)==(0:Int))))
 (
 some false)) fun v27=>
 bO (
 cO v27
 (
 some true)
 (
 some false)) fun v28=>
 some ([RLeaf.v (AV.bool v28)]))
 (
 bO (
 cO (S_ (S_ (ordO .f32 (S_ (ext35V (S_ n) (fO (S_ cs)) (S_ b) (S_ m) (S_ ls) f t).fst) (some 0)==some .eq)&&(S_ (ordO .f32 (S_ (ext35V (S_ n) (fO (S_ cs)) (S_ b) (S_ m) (S_ ls) f t).snd) (some 0)==some .eq)&&true)))
 (
 some (S_ (S_ (ext35E (S_ n) (fO (S_ cs)) (S_ b) (S_ m) (S_ ls) f t)==(12:Int))))
 (
 some false)) fun v20=>
 bO (
 cO v20
 (
 gO (S_ (decide (Flos (2*S_ ((zoomV (S_ n) (fO (S_ cs)) (S_ b) (S_ m) (S_ ls) f t c).length / 2)) (S_ (flosL (zoomV (S_ n) (fO (S_ cs)) (S_ b) (S_ m) (S_ ls) f t c)))/\S_ ((zoomV (S_ n) (fO (S_ cs)) (S_ b) (S_ m) (S_ ls) f t c).length / 2)<=100000)))<|
 gO (S_ (decide (FPrs (S_ (S_ ((zoomV (S_ n) (fO (S_ cs)) (S_ b) (S_ m) (S_ ls) f t c).length / 2))) (S_ (S_ (flosL (zoomV (S_ n) (fO (S_ cs)) (S_ b) (S_ m) (S_ ls) f t c))))/\FPrs (S_ ((zoomF (fO cs) f.toNat (t-f).toNat c.toNat c.toNat 0).length / 2)) (S_ (flosL (zoomF (fO cs) f.toNat (t-f).toNat c.toNat c.toNat 0))))))<|
 some (S_ (sameF (fO (S_ (S_ (flosL (zoomV (S_ n) (fO (S_ cs)) (S_ b) (S_ m) (S_ ls) f t c))))) (fO (S_ (flosL (zoomF (fO cs) f.toNat (t-f).toNat c.toNat c.toNat 0)))))))
 (
 some false)) fun v21=>
 bO (
 cO v21
 (
 some (S_ (S_ (zoomE (S_ n) (fO (S_ cs)) (S_ b) (S_ m) (S_ ls) f t c)==S_ (if c<(1:Int)\/c>(2048:Int) then (3:Int) else (0:Int)))))
 (
 some false)) fun v22=>
 bO (
 cO v22
 (
 some (S_ (S_ (↑(cntV (S_ n) (fO (S_ cs)) (S_ b) (S_ m) (S_ ls) f t o):Int)==(0:Int))))
 (
 some false)) fun v23=>
 bO (
 cO v23
 (
 some (S_ (S_ (cntE (S_ n) (fO (S_ cs)) (S_ b) (S_ m) (S_ ls) f t o)==(1:Int))))
 (
 some false)) fun v24=>
 bO (
 cO v24
 (
 some true)
 (
 some false)) fun v25=>
 some ([RLeaf.v (AV.bool v25)])))
 (
 cO (S_ (finB o))
 (
 gO (S_ (decide ((0:Int)<=f/\f<=t/\t<=(↑n:Int))))<|
 gO (S_ (decide (n*1=cs.length)))<|
 gO (S_ (decide (Flos (t.toNat-f.toNat) (List.take ((t.toNat-f.toNat)*1) (List.drop (f.toNat*1) cs)))))<|
 bO (
 cO (S_ (S_ (ordO .f32 (S_ (ext35V (S_ n) (fO (S_ cs)) (S_ b) (S_ m) (S_ ls) f t).fst) (some 0)==some .eq)&&(S_ (ordO .f32 (S_ (ext35V (S_ n) (fO (S_ cs)) (S_ b) (S_ m) (S_ ls) f t).snd) (some 0)==some .eq)&&true)))
 (
 some (S_ (S_ (ext35E (S_ n) (fO (S_ cs)) (S_ b) (S_ m) (S_ ls) f t)==(12:Int))))
 (
 some false)) fun v22=>
 bO (
 cO v22
 (
 gO (S_ (decide (Flos (2*S_ ((zoomV (S_ n) (fO (S_ cs)) (S_ b) (S_ m) (S_ ls) f t c).length / 2)) (S_ (flosL (zoomV (S_ n) (fO (S_ cs)) (S_ b) (S_ m) (S_ ls) f t c)))/\S_ ((zoomV (S_ n) (fO (S_ cs)) (S_ b) (S_ m) (S_ ls) f t c).length / 2)<=100000)))<|
 gO (S_ (decide (FPrs (S_ (S_ ((zoomV (S_ n) (fO (S_ cs)) (S_ b) (S_ m) (S_ ls) f t c).length / 2))) (S_ (S_ (flosL (zoomV (S_ n) (fO (S_ cs)) (S_ b) (S_ m) (S_ ls) f t c))))/\FPrs 0 [])))<|
 some (S_ (sameF (fO (S_ (S_ (flosL (zoomV (S_ n) (fO (S_ cs)) (S_ b) (S_ m) (S_ ls) f t c))))) (fO []))))
 (
 some false)) fun v23=>
 bO (
 cO v23
 (
 some (S_ (S_ (zoomE (S_ n) (fO (S_ cs)) (S_ b) (S_ m) (S_ ls) f t c)==S_ (if c<(1:Int)\/c>(2048:Int) then (3:Int) else (0:Int)))))
 (
 some false)) fun v24=>
 bO (
 cO v24
 (
 some (S_ (S_ (↑(cntV (S_ n) (fO (S_ cs)) (S_ b) (S_ m) (S_ ls) f t o):Int)==S_ (↑(cntL o (fO (List.take ((t.toNat-f.toNat)*1) (List.drop (f.toNat*1) cs)))):Int))))
 (
 some false)) fun v25=>
 bO (
 cO v25
 (
 some (S_ (S_ (cntE (S_ n) (fO (S_ cs)) (S_ b) (S_ m) (S_ ls) f t o)==(0:Int))))
 (
 some false)) fun v26=>
 bO (
 cO v26
 (
 some true)
 (
 some false)) fun v27=>
 some ([RLeaf.v (AV.bool v27)]))
 (
 bO (
 cO (S_ (S_ (ordO .f32 (S_ (ext35V (S_ n) (fO (S_ cs)) (S_ b) (S_ m) (S_ ls) f t).fst) (some 0)==some .eq)&&(S_ (ordO .f32 (S_ (ext35V (S_ n) (fO (S_ cs)) (S_ b) (S_ m) (S_ ls) f t).snd) (some 0)==some .eq)&&true)))
 (
 some (S_ (S_ (ext35E (S_ n) (fO (S_ cs)) (S_ b) (S_ m) (S_ ls) f t)==(12:Int))))
 (
 some false)) fun v19=>
 bO (
 cO v19
 (
 gO (S_ (decide (Flos (2*S_ ((zoomV (S_ n) (fO (S_ cs)) (S_ b) (S_ m) (S_ ls) f t c).length / 2)) (S_ (flosL (zoomV (S_ n) (fO (S_ cs)) (S_ b) (S_ m) (S_ ls) f t c)))/\S_ ((zoomV (S_ n) (fO (S_ cs)) (S_ b) (S_ m) (S_ ls) f t c).length / 2)<=100000)))<|
 gO (S_ (decide (FPrs (S_ (S_ ((zoomV (S_ n) (fO (S_ cs)) (S_ b) (S_ m) (S_ ls) f t c).length / 2))) (S_ (S_ (flosL (zoomV (S_ n) (fO (S_ cs)) (S_ b) (S_ m) (S_ ls) f t c))))/\FPrs 0 [])))<|
 some (S_ (sameF (fO (S_ (S_ (flosL (zoomV (S_ n) (fO (S_ cs)) (S_ b) (S_ m) (S_ ls) f t c))))) (fO []))))
 (
 some false)) fun v20=>
 bO (
 cO v20
 (
 some (S_ (S_ (zoomE (S_ n) (fO (S_ cs)) (S_ b) (S_ m) (S_ ls) f t c)==S_ (if c<(1:Int)\/c>(2048:Int) then (3:Int) else (0:Int)))))
 (
 some false)) fun v21=>
 bO (
 cO v21
 (
 some (S_ (S_ (↑(cntV (S_ n) (fO (S_ cs)) (S_ b) (S_ m) (S_ ls) f t o):Int)==(0:Int))))
 (
 some false)) fun v22=>
 bO (
 cO v22
 (
 some (S_ (S_ (cntE (S_ n) (fO (S_ cs)) (S_ b) (S_ m) (S_ ls) f t o)==(1:Int))))
 (
 some false)) fun v23=>
 bO (
 cO v23
 (
 some true)
 (
 some false)) fun v24=>
 some ([RLeaf.v (AV.bool v24)]))))))
 (
 bO (
 cO (S_ (S_ (ordO .f32 (S_ (ext35V (S_ n) (fO (S_ cs)) (S_ b) (S_ m) (S_ ls) f t).fst) (some 0)==some .eq)&&(S_ (ordO .f32 (S_ (ext35V (S_ n) (fO (S_ cs)) (S_ b) (S_ m) (S_ ls) f t).snd) (some 0)==some .eq)&&true)))
 (
 some (S_ (S_ (ext35E (S_ n) (fO (S_ cs)) (S_ b) (S_ m) (S_ ls) f t)==S_ (if f<(0:Int)\/f>(↑n:Int)\/t<(0:Int)\/t>(↑n:Int) then (3:Int) else if t<f then (11:Int) else (0:Int)))))
 (
 some false)) fun v14=>
 bO (
 cO v14
 (
 gO (S_ (decide (Flos (2*S_ ((zoomV (S_ n) (fO (S_ cs)) (S_ b) (S_ m) (S_ ls) f t c).length / 2)) (S_ (flosL (zoomV (S_ n) (fO (S_ cs)) (S_ b) (S_ m) (S_ ls) f t c)))/\S_ ((zoomV (S_ n) (fO (S_ cs)) (S_ b) (S_ m) (S_ ls) f t c).length / 2)<=100000)))<|
 gO (S_ (decide (FPrs (S_ (S_ ((zoomV (S_ n) (fO (S_ cs)) (S_ b) (S_ m) (S_ ls) f t c).length / 2))) (S_ (S_ (flosL (zoomV (S_ n) (fO (S_ cs)) (S_ b) (S_ m) (S_ ls) f t c))))/\FPrs 0 [])))<|
 some (S_ (sameF (fO (S_ (S_ (flosL (zoomV (S_ n) (fO (S_ cs)) (S_ b) (S_ m) (S_ ls) f t c))))) (fO []))))
 (
 some false)) fun v15=>
 bO (
 cO v15
 (
 some (S_ (S_ (zoomE (S_ n) (fO (S_ cs)) (S_ b) (S_ m) (S_ ls) f t c)==S_ (if f<(0:Int)\/f>(↑n:Int)\/t<(0:Int)\/t>(↑n:Int) then (3:Int) else if t<f then (11:Int) else (0:Int)))))
 (
 some false)) fun v16=>
 bO (
 cO v16
 (
 some (S_ (S_ (↑(cntV (S_ n) (fO (S_ cs)) (S_ b) (S_ m) (S_ ls) f t o):Int)==(0:Int))))
 (
 some false)) fun v17=>
 bO (
 cO v17
 (
 some (S_ (S_ (cntE (S_ n) (fO (S_ cs)) (S_ b) (S_ m) (S_ ls) f t o)==S_ (if f<(0:Int)\/f>(↑n:Int)\/t<(0:Int)\/t>(↑n:Int) then (3:Int) else if t<f then (11:Int) else (0:Int)))))
 (
 some false)) fun v18=>
 bO (
 cO v18
 (
 some true)
 (
 some false)) fun v19=>
 some ([RLeaf.v (AV.bool v19)])))
 (
 cO (S_ (S_ (chkT n (fO cs) b m ls)==(0:Int)))
 (
 cO (S_ (decide (f<t)))
 (
 gO (S_ (decide ((0:Int)<=f/\f<=t/\t<=(↑n:Int))))<|
 gO (S_ (decide (n*1=cs.length)))<|
 gO (S_ (decide (Flos (t.toNat-f.toNat) (List.take ((t.toNat-f.toNat)*1) (List.drop (f.toNat*1) cs))/\0<t.toNat-f.toNat)))<|
 bO (
 cO (S_ (S_ (if c<(1:Int)\/c>(2048:Int) then (3:Int) else (0:Int))==(0:Int)))
 (
 some (S_ (decide (S_ (IntKind.i64.wrap (t-f))<c))))
 (
 some false)) fun v18=>
 cO v18
 (
 cO (S_ (finB o))
 (
 gO (S_ (decide ((0:Int)<=f/\f<=t/\t<=(↑n:Int))))<|
 gO (S_ (decide (n*1=cs.length)))<|
 gO (S_ (decide (Flos (t.toNat-f.toNat) (List.take ((t.toNat-f.toNat)*1) (List.drop (f.toNat*1) cs)))))<|
 bO (
 cO (S_ (S_ (ordO .f32 (S_ (ext35V (S_ n) (fO (S_ cs)) (S_ b) (S_ m) (S_ ls) f t).fst) (S_ (extV Ordering.lt ((fO (List.take ((t.toNat-f.toNat)*1) (List.drop (f.toNat*1) cs))).getD 0 none) (fO (List.take ((t.toNat-f.toNat)*1) (List.drop (f.toNat*1) cs)))))==some .eq)&&(S_ (ordO .f32 (S_ (ext35V (S_ n) (fO (S_ cs)) (S_ b) (S_ m) (S_ ls) f t).snd) (S_ (extV Ordering.gt ((fO (List.take ((t.toNat-f.toNat)*1) (List.drop (f.toNat*1) cs))).getD 0 none) (fO (List.take ((t.toNat-f.toNat)*1) (List.drop (f.toNat*1) cs)))))==some .eq)&&true)))
 (
 some (S_ (S_ (ext35E (S_ n) (fO (S_ cs)) (S_ b) (S_ m) (S_ ls) f t)==(0:Int))))
 (
 some false)) fun v24=>
 bO (
 cO v24
 (
 gO (S_ (decide (Flos (2*S_ ((zoomV (S_ n) (fO (S_ cs)) (S_ b) (S_ m) (S_ ls) f t c).length / 2)) (S_ (flosL (zoomV (S_ n) (fO (S_ cs)) (S_ b) (S_ m) (S_ ls) f t c)))/\S_ ((zoomV (S_ n) (fO (S_ cs)) (S_ b) (S_ m) (S_ ls) f t c).length / 2)<=100000)))<|
 gO (S_ (decide (FPrs (S_ (S_ ((zoomV (S_ n) (fO (S_ cs)) (S_ b) (S_ m) (S_ ls) f t c).length / 2))) (S_ (S_ (flosL (zoomV (S_ n) (fO (S_ cs)) (S_ b) (S_ m) (S_ ls) f t c))))/\FPrs 0 [])))<|
 some (S_ (sameF (fO (S_ (S_ (flosL (zoomV (S_ n) (fO (S_ cs)) (S_ b) (S_ m) (S_ ls) f t c))))) (fO []))))
 (
 some false)) fun v25=>
 bO (
 cO v25
 (
 some (S_ (S_ (zoomE (S_ n) (fO (S_ cs)) (S_ b) (S_ m) (S_ ls) f t c)==(16:Int))))
 (
 some false)) fun v26=>
 bO (
 cO v26
 (
 some (S_ (S_ (↑(cntV (S_ n) (fO (S_ cs)) (S_ b) (S_ m) (S_ ls) f t o):Int)==S_ (↑(cntL o (fO (List.take ((t.toNat-f.toNat)*1) (List.drop (f.toNat*1) cs)))):Int))))
 (
 some false)) fun v27=>
 bO (
 cO v27
 (
 some (S_ (S_ (cntE (S_ n) (fO (S_ cs)) (S_ b) (S_ m) (S_ ls) f t o)==(0:Int))))
 (
 some false)) fun v28=>
 bO (
 cO v28
 (
 some true)
 (
 some false)) fun v29=>
 some ([RLeaf.v (AV.bool v29)]))
 (
 bO (
 cO (S_ (S_ (ordO .f32 (S_ (ext35V (S_ n) (fO (S_ cs)) (S_ b) (S_ m) (S_ ls) f t).fst) (S_ (extV Ordering.lt ((fO (List.take ((t.toNat-f.toNat)*1) (List.drop (f.toNat*1) cs))).getD 0 none) (fO (List.take ((t.toNat-f.toNat)*1) (List.drop (f.toNat*1) cs)))))==some .eq)&&(S_ (ordO .f32 (S_ (ext35V (S_ n) (fO (S_ cs)) (S_ b) (S_ m) (S_ ls) f t).snd) (S_ (extV Ordering.gt ((fO (List.take ((t.toNat-f.toNat)*1) (List.drop (f.toNat*1) cs))).getD 0 none) (fO (List.take ((t.toNat-f.toNat)*1) (List.drop (f.toNat*1) cs)))))==some .eq)&&true)))
 (
 some (S_ (S_ (ext35E (S_ n) (fO (S_ cs)) (S_ b) (S_ m) (S_ ls) f t)==(0:Int))))
 (
 some false)) fun v21=>
 bO (
 cO v21
 (
 gO (S_ (decide (Flos (2*S_ ((zoomV (S_ n) (fO (S_ cs)) (S_ b) (S_ m) (S_ ls) f t c).length / 2)) (S_ (flosL (zoomV (S_ n) (fO (S_ cs)) (S_ b) (S_ m) (S_ ls) f t c)))/\S_ ((zoomV (S_ n) (fO (S_ cs)) (S_ b) (S_ m) (S_ ls) f t c).length / 2)<=100000)))<|
 gO (S_ (decide (FPrs (S_ (S_ ((zoomV (S_ n) (fO (S_ cs)) (S_ b) (S_ m) (S_ ls) f t c).length / 2))) (S_ (S_ (flosL (zoomV (S_ n) (fO (S_ cs)) (S_ b) (S_ m) (S_ ls) f t c))))/\FPrs 0 [])))<|
 some (S_ (sameF (fO (S_ (S_ (flosL (zoomV (S_ n) (fO (S_ cs)) (S_ b) (S_ m) (S_ ls) f t c))))) (fO []))))
 (
 some false)) fun v22=>
 bO (
 cO v22
 (
 some (S_ (S_ (zoomE (S_ n) (fO (S_ cs)) (S_ b) (S_ m) (S_ ls) f t c)==(16:Int))))
 (
 some false)) fun v23=>
 bO (
 cO v23
 (
 some (S_ (S_ (↑(cntV (S_ n) (fO (S_ cs)) (S_ b) (S_ m) (S_ ls) f t o):Int)==(0:Int))))
 (
 some false)) fun v24=>
 bO (
 cO v24
 (
 some (S_ (S_ (cntE (S_ n) (fO (S_ cs)) (S_ b) (S_ m) (S_ ls) f t o)==(1:Int))))
 (
 some false)) fun v25=>
 bO (
 cO v25
 (
 some true)
 (
 some false)) fun v26=>
 some ([RLeaf.v (AV.bool v26)])))
 (
 cO (S_ (S_ (if c<(1:Int)\/c>(2048:Int) then (3:Int) else (0:Int))==(0:Int)))
 (
 gO (S_ (decide (Flos n cs/\n<=4096/\(0:Int)<=f/\f<=t/\t<=(↑n:Int)/\(1:Int)<=c/\c<=(2048:Int)/\c<=t-f)))<|
 cO (S_ (finB o))
 (
 gO (S_ (decide ((0:Int)<=f/\f<=t/\t<=(↑n:Int))))<|
 gO (S_ (decide (n*1=cs.length)))<|
 gO (S_ (decide (Flos (t.toNat-f.toNat) (List.take ((t.toNat-f.toNat)*1) (List.drop (f.toNat*1) cs)))))<|
 bO (
 cO (S_ (S_ (ordO .f32 (S_ (ext35V (S_ n) (fO (S_ cs)) (S_ b) (S_ m) (S_ ls) f t).fst) (S_ (extV Ordering.lt ((fO (List.take ((t.toNat-f.toNat)*1) (List.drop (f.toNat*1) cs))).getD 0 none) (fO (List.take ((t.toNat-f.toNat)*1) (List.drop (f.toNat*1) cs)))))==some .eq)&&(S_ (ordO .f32 (S_ (ext35V (S_ n) (fO (S_ cs)) (S_ b) (S_ m) (S_ ls) f t).snd) (S_ (extV Ordering.gt ((fO (List.take ((t.toNat-f.toNat)*1) (List.drop (f.toNat*1) cs))).getD 0 none) (fO (List.take ((t.toNat-f.toNat)*1) (List.drop (f.toNat*1) cs)))))==some .eq)&&true)))
 (
 some (S_ (S_ (ext35E (S_ n) (fO (S_ cs)) (S_ b) (S_ m) (S_ ls) f t)==(0:Int))))
 (
 some false)) fun v26=>
 bO (
 cO v26
 (
 gO (S_ (decide (Flos (2*S_ ((zoomV (S_ n) (fO (S_ cs)) (S_ b) (S_ m) (S_ ls) f t c).length / 2)) (S_ (flosL (zoomV (S_ n) (fO (S_ cs)) (S_ b) (S_ m) (S_ ls) f t c)))/\S_ ((zoomV (S_ n) (fO (S_ cs)) (S_ b) (S_ m) (S_ ls) f t c).length / 2)<=100000)))<|
 gO (S_ (decide (FPrs (S_ (S_ ((zoomV (S_ n) (fO (S_ cs)) (S_ b) (S_ m) (S_ ls) f t c).length / 2))) (S_ (S_ (flosL (zoomV (S_ n) (fO (S_ cs)) (S_ b) (S_ m) (S_ ls) f t c))))/\FPrs (S_ ((zoomF (fO cs) f.toNat (t-f).toNat c.toNat c.toNat 0).length / 2)) (S_ (flosL (zoomF (fO cs) f.toNat (t-f).toNat c.toNat c.toNat 0))))))<|
 some (S_ (sameF (fO (S_ (S_ (flosL (zoomV (S_ n) (fO (S_ cs)) (S_ b) (S_ m) (S_ ls) f t c))))) (fO (S_ (flosL (zoomF (fO cs) f.toNat (t-f).toNat c.toNat c.toNat 0)))))))
 (
 some false)) fun v27=>
 bO (
 cO v27
 (
 some (S_ (S_ (zoomE (S_ n) (fO (S_ cs)) (S_ b) (S_ m) (S_ ls) f t c)==S_ (if c<(1:Int)\/c>(2048:Int) then (3:Int) else (0:Int)))))
 (
 some false)) fun v28=>
 bO (
 cO v28
 (
 some (S_ (S_ (↑(cntV (S_ n) (fO (S_ cs)) (S_ b) (S_ m) (S_ ls) f t o):Int)==S_ (↑(cntL o (fO (List.take ((t.toNat-f.toNat)*1) (List.drop (f.toNat*1) cs)))):Int))))
 (
 some false)) fun v29=>
 bO (
 cO v29
 (
 some (S_ (S_ (cntE (S_ n) (fO (S_ cs)) (S_ b) (S_ m) (S_ ls) f t o)==(0:Int))))
 (
 some false)) fun v30=>
 bO (
 cO v30
 (
 some true)
 (
 some false)) fun v31=>
 some ([RLeaf.v (AV.bool v31)]))
 (
 bO (
 cO (S_ (S_ (ordO .f32 (S_ (ext35V (S_ n) (fO (S_ cs)) (S_ b) (S_ m) (S_ ls) f t).fst) (S_ (extV Ordering.lt ((fO (List.take ((t.toNat-f.toNat)*1) (List.drop (f.toNat*1) cs))).getD 0 none) (fO (List.take ((t.toNat-f.toNat)*1) (List.drop (f.toNat*1) cs)))))==some .eq)&&(S_ (ordO .f32 (S_ (ext35V (S_ n) (fO (S_ cs)) (S_ b) (S_ m) (S_ ls) f t).snd) (S_ (extV Ordering.gt ((fO (List.take ((t.toNat-f.toNat)*1) (List.drop (f.toNat*1) cs))).getD 0 none) (fO (List.take ((t.toNat-f.toNat)*1) (List.drop (f.toNat*1) cs)))))==some .eq)&&true)))
 (
 some (S_ (S_ (ext35E (S_ n) (fO (S_ cs)) (S_ b) (S_ m) (S_ ls) f t)==(0:Int))))
 (
 some false)) fun v23=>
 bO (
 cO v23
 (
 gO (S_ (decide (Flos (2*S_ ((zoomV (S_ n) (fO (S_ cs)) (S_ b) (S_ m) (S_ ls) f t c).length / 2)) (S_ (flosL (zoomV (S_ n) (fO (S_ cs)) (S_ b) (S_ m) (S_ ls) f t c)))/\S_ ((zoomV (S_ n) (fO (S_ cs)) (S_ b) (S_ m) (S_ ls) f t c).length / 2)<=100000)))<|
 gO (S_ (decide (FPrs (S_ (S_ ((zoomV (S_ n) (fO (S_ cs)) (S_ b) (S_ m) (S_ ls) f t c).length / 2))) (S_ (S_ (flosL (zoomV (S_ n) (fO (S_ cs)) (S_ b) (S_ m) (S_ ls) f t c))))/\FPrs (S_ ((zoomF (fO cs) f.toNat (t-f).toNat c.toNat c.toNat 0).length / 2)) (S_ (flosL (zoomF (fO cs) f.toNat (t-f).toNat c.toNat c.toNat 0))))))<|
 some (S_ (sameF (fO (S_ (S_ (flosL (zoomV (S_ n) (fO (S_ cs)) (S_ b) (S_ m) (S_ ls) f t c))))) (fO (S_ (flosL (zoomF (fO cs) f.toNat (t-f).toNat c.toNat c.toNat 0)))))))
 (
 some false)) fun v24=>
 bO (
 cO v24
 (
 some (S_ (S_ (zoomE (S_ n) (fO (S_ cs)) (S_ b) (S_ m) (S_ ls) f t c)==S_ (if c<(1:Int)\/c>(2048:Int) then (3:Int) else (0:Int)))))
 (
 some false)) fun v25=>
 bO (
 cO v25
 (
 some (S_ (S_ (↑(cntV (S_ n) (fO (S_ cs)) (S_ b) (S_ m) (S_ ls) f t o):Int)==(0:Int))))
 (
 some false)) fun v26=>
 bO (
 cO v26
 (
 some (S_ (S_ (cntE (S_ n) (fO (S_ cs)) (S_ b) (S_ m) (S_ ls) f t o)==(1:Int))))
 (
 some false)) fun v27=>
 bO (
 cO v27
 (
 some true)
 (
 some false)) fun v28=>
 some ([RLeaf.v (AV.bool v28)])))
 (
 cO (S_ (finB o))
 (
 gO (S_ (decide ((0:Int)<=f/\f<=t/\t<=(↑n:Int))))<|
 gO (S_ (decide (n*1=cs.length)))<|
 gO (S_ (decide (Flos (t.toNat-f.toNat) (List.take ((t.toNat-f.toNat)*1) (List.drop (f.toNat*1) cs)))))<|
 bO (
 cO (S_ (S_ (ordO .f32 (S_ (ext35V (S_ n) (fO (S_ cs)) (S_ b) (S_ m) (S_ ls) f t).fst) (S_ (extV Ordering.lt ((fO (List.take ((t.toNat-f.toNat)*1) (List.drop (f.toNat*1) cs))).getD 0 none) (fO (List.take ((t.toNat-f.toNat)*1) (List.drop (f.toNat*1) cs)))))==some .eq)&&(S_ (ordO .f32 (S_ (ext35V (S_ n) (fO (S_ cs)) (S_ b) (S_ m) (S_ ls) f t).snd) (S_ (extV Ordering.gt ((fO (List.take ((t.toNat-f.toNat)*1) (List.drop (f.toNat*1) cs))).getD 0 none) (fO (List.take ((t.toNat-f.toNat)*1) (List.drop (f.toNat*1) cs)))))==some .eq)&&true)))
 (
 some (S_ (S_ (ext35E (S_ n) (fO (S_ cs)) (S_ b) (S_ m) (S_ ls) f t)==(0:Int))))
 (
 some false)) fun v25=>
 bO (
 cO v25
 (
 gO (S_ (decide (Flos (2*S_ ((zoomV (S_ n) (fO (S_ cs)) (S_ b) (S_ m) (S_ ls) f t c).length / 2)) (S_ (flosL (zoomV (S_ n) (fO (S_ cs)) (S_ b) (S_ m) (S_ ls) f t c)))/\S_ ((zoomV (S_ n) (fO (S_ cs)) (S_ b) (S_ m) (S_ ls) f t c).length / 2)<=100000)))<|
 gO (S_ (decide (FPrs (S_ (S_ ((zoomV (S_ n) (fO (S_ cs)) (S_ b) (S_ m) (S_ ls) f t c).length / 2))) (S_ (S_ (flosL (zoomV (S_ n) (fO (S_ cs)) (S_ b) (S_ m) (S_ ls) f t c))))/\FPrs 0 [])))<|
 some (S_ (sameF (fO (S_ (S_ (flosL (zoomV (S_ n) (fO (S_ cs)) (S_ b) (S_ m) (S_ ls) f t c))))) (fO []))))
 (
 some false)) fun v26=>
 bO (
 cO v26
 (
 some (S_ (S_ (zoomE (S_ n) (fO (S_ cs)) (S_ b) (S_ m) (S_ ls) f t c)==S_ (if c<(1:Int)\/c>(2048:Int) then (3:Int) else (0:Int)))))
 (
 some false)) fun v27=>
 bO (
 cO v27
 (
 some (S_ (S_ (↑(cntV (S_ n) (fO (S_ cs)) (S_ b) (S_ m) (S_ ls) f t o):Int)==S_ (↑(cntL o (fO (List.take ((t.toNat-f.toNat)*1) (List.drop (f.toNat*1) cs)))):Int))))
 (
 some false)) fun v28=>
 bO (
 cO v28
 (
 some (S_ (S_ (cntE (S_ n) (fO (S_ cs)) (S_ b) (S_ m) (S_ ls) f t o)==(0:Int))))
 (
 some false)) fun v29=>
 bO (
 cO v29
 (
 some true)
 (
 some false)) fun v30=>
 some ([RLeaf.v (AV.bool v30)]))
 (
 bO (
 cO (S_ (S_ (ordO .f32 (S_ (ext35V (S_ n) (fO (S_ cs)) (S_ b) (S_ m) (S_ ls) f t).fst) (S_ (extV Ordering.lt ((fO (List.take ((t.toNat-f.toNat)*1) (List.drop (f.toNat*1) cs))).getD 0 none) (fO (List.take ((t.toNat-f.toNat)*1) (List.drop (f.toNat*1) cs)))))==some .eq)&&(S_ (ordO .f32 (S_ (ext35V (S_ n) (fO (S_ cs)) (S_ b) (S_ m) (S_ ls) f t).snd) (S_ (extV Ordering.gt ((fO (List.take ((t.toNat-f.toNat)*1) (List.drop (f.toNat*1) cs))).getD 0 none) (fO (List.take ((t.toNat-f.toNat)*1) (List.drop (f.toNat*1) cs)))))==some .eq)&&true)))
 (
 some (S_ (S_ (ext35E (S_ n) (fO (S_ cs)) (S_ b) (S_ m) (S_ ls) f t)==(0:Int))))
 (
 some false)) fun v22=>
 bO (
 cO v22
 (
 gO (S_ (decide (Flos (2*S_ ((zoomV (S_ n) (fO (S_ cs)) (S_ b) (S_ m) (S_ ls) f t c).length / 2)) (S_ (flosL (zoomV (S_ n) (fO (S_ cs)) (S_ b) (S_ m) (S_ ls) f t c)))/\S_ ((zoomV (S_ n) (fO (S_ cs)) (S_ b) (S_ m) (S_ ls) f t c).length / 2)<=100000)))<|
 gO (S_ (decide (FPrs (S_ (S_ ((zoomV (S_ n) (fO (S_ cs)) (S_ b) (S_ m) (S_ ls) f t c).length / 2))) (S_ (S_ (flosL (zoomV (S_ n) (fO (S_ cs)) (S_ b) (S_ m) (S_ ls) f t c))))/\FPrs 0 [])))<|
 some (S_ (sameF (fO (S_ (S_ (flosL (zoomV (S_ n) (fO (S_ cs)) (S_ b) (S_ m) (S_ ls) f t c))))) (fO []))))
 (
 some false)) fun v23=>
 bO (
 cO v23
 (
 some (S_ (S_ (zoomE (S_ n) (fO (S_ cs)) (S_ b) (S_ m) (S_ ls) f t c)==S_ (if c<(1:Int)\/c>(2048:Int) then (3:Int) else (0:Int)))))
 (
 some false)) fun v24=>
 bO (
 cO v24
 (
 some (S_ (S_ (↑(cntV (S_ n) (fO (S_ cs)) (S_ b) (S_ m) (S_ ls) f t o):Int)==(0:Int))))
 (
 some false)) fun v25=>
 bO (
 cO v25
 (
 some (S_ (S_ (cntE (S_ n) (fO (S_ cs)) (S_ b) (S_ m) (S_ ls) f t o)==(1:Int))))
 (
 some false)) fun v26=>
 bO (
 cO v26
 (
 some true)
 (
 some false)) fun v27=>
 some ([RLeaf.v (AV.bool v27)])))))
 (
 bO (
 cO (S_ (S_ (if c<(1:Int)\/c>(2048:Int) then (3:Int) else (0:Int))==(0:Int)))
 (
 some (S_ (decide (S_ (IntKind.i64.wrap (t-f))<c))))
 (
 some false)) fun v15=>
 cO v15
 (
 cO (S_ (finB o))
 (
 gO (S_ (decide ((0:Int)<=f/\f<=t/\t<=(↑n:Int))))<|
 gO (S_ (decide (n*1=cs.length)))<|
 gO (S_ (decide (Flos (t.toNat-f.toNat) (List.take ((t.toNat-f.toNat)*1) (List.drop (f.toNat*1) cs)))))<|
 bO (
 cO (S_ (S_ (ordO .f32 (S_ (ext35V (S_ n) (fO (S_ cs)) (S_ b) (S_ m) (S_ ls) f t).fst) (some 0)==some .eq)&&(S_ (ordO .f32 (S_ (ext35V (S_ n) (fO (S_ cs)) (S_ b) (S_ m) (S_ ls) f t).snd) (some 0)==some .eq)&&true)))
 (
 some (S_ (S_ (ext35E (S_ n) (fO (S_ cs)) (S_ b) (S_ m) (S_ ls) f t)==(12:Int))))
 (
 some false)) fun v21=>
 bO (
 cO v21
 (
 gO (S_ (decide (Flos (2*S_ ((zoomV (S_ n) (fO (S_ cs)) (S_ b) (S_ m) (S_ ls) f t c).length / 2)) (S_ (flosL (zoomV (S_ n) (fO (S_ cs)) (S_ b) (S_ m) (S_ ls) f t c)))/\S_ ((zoomV (S_ n) (fO (S_ cs)) (S_ b) (S_ m) (S_ ls) f t c).length / 2)<=100000)))<|
 gO (S_ (decide (FPrs (S_ (S_ ((zoomV (S_ n) (fO (S_ cs)) (S_ b) (S_ m) (S_ ls) f t c).length / 2))) (S_ (S_ (flosL (zoomV (S_ n) (fO (S_ cs)) (S_ b) (S_ m) (S_ ls) f t c))))/\FPrs 0 [])))<|
 some (S_ (sameF (fO (S_ (S_ (flosL (zoomV (S_ n) (fO (S_ cs)) (S_ b) (S_ m) (S_ ls) f t c))))) (fO []))))
 (
 some false)) fun v22=>
 bO (
 cO v22
 (
 some (S_ (S_ (zoomE (S_ n) (fO (S_ cs)) (S_ b) (S_ m) (S_ ls) f t c)==(16:Int))))
 (
 some false)) fun v23=>
 bO (
 cO v23
 (
 some (S_ (S_ (↑(cntV (S_ n) (fO (S_ cs)) (S_ b) (S_ m) (S_ ls) f t o):Int)==S_ (↑(cntL o (fO (List.take ((t.toNat-f.toNat)*1) (List.drop (f.toNat*1) cs)))):Int))))
 (
 some false)) fun v24=>
 bO (
 cO v24
 (
 some (S_ (S_ (cntE (S_ n) (fO (S_ cs)) (S_ b) (S_ m) (S_ ls) f t o)==(0:Int))))
 (
 some false)) fun v25=>
 bO (
 cO v25
 (
 some true)
 (
 some false)) fun v26=>
 some ([RLeaf.v (AV.bool v26)]))
 (
 bO (
 cO (S_ (S_ (ordO .f32 (S_ (ext35V (S_ n) (fO (S_ cs)) (S_ b) (S_ m) (S_ ls) f t).fst) (some 0)==some .eq)&&(S_ (ordO .f32 (S_ (ext35V (S_ n) (fO (S_ cs)) (S_ b) (S_ m) (S_ ls) f t).snd) (some 0)==some .eq)&&true)))
 (
 some (S_ (S_ (ext35E (S_ n) (fO (S_ cs)) (S_ b) (S_ m) (S_ ls) f t)==(12:Int))))
 (
 some false)) fun v18=>
 bO (
 cO v18
 (
 gO (S_ (decide (Flos (2*S_ ((zoomV (S_ n) (fO (S_ cs)) (S_ b) (S_ m) (S_ ls) f t c).length / 2)) (S_ (flosL (zoomV (S_ n) (fO (S_ cs)) (S_ b) (S_ m) (S_ ls) f t c)))/\S_ ((zoomV (S_ n) (fO (S_ cs)) (S_ b) (S_ m) (S_ ls) f t c).length / 2)<=100000)))<|
 gO (S_ (decide (FPrs (S_ (S_ ((zoomV (S_ n) (fO (S_ cs)) (S_ b) (S_ m) (S_ ls) f t c).length / 2))) (S_ (S_ (flosL (zoomV (S_ n) (fO (S_ cs)) (S_ b) (S_ m) (S_ ls) f t c))))/\FPrs 0 [])))<|
 some (S_ (sameF (fO (S_ (S_ (flosL (zoomV (S_ n) (fO (S_ cs)) (S_ b) (S_ m) (S_ ls) f t c))))) (fO []))))
 (
 some false)) fun v19=>
 bO (
 cO v19
 (
 some (S_ (S_ (zoomE (S_ n) (fO (S_ cs)) (S_ b) (S_ m) (S_ ls) f t c)==(16:Int))))
 (
 some false)) fun v20=>
 bO (
 cO v20
 (
 some (S_ (S_ (↑(cntV (S_ n) (fO (S_ cs)) (S_ b) (S_ m) (S_ ls) f t o):Int)==(0:Int))))
 (
 some false)) fun v21=>
 bO (
 cO v21
 (
 some (S_ (S_ (cntE (S_ n) (fO (S_ cs)) (S_ b) (S_ m) (S_ ls) f t o)==(1:Int))))
 (
 some false)) fun v22=>
 bO (
 cO v22
 (
 some true)
 (
 some false)) fun v23=>
 some ([RLeaf.v (AV.bool v23)])))
 (
 cO (S_ (S_ (if c<(1:Int)\/c>(2048:Int) then (3:Int) else (0:Int))==(0:Int)))
 (
 gO (S_ (decide (Flos n cs/\n<=4096/\(0:Int)<=f/\f<=t/\t<=(↑n:Int)/\(1:Int)<=c/\c<=(2048:Int)/\c<=t-f)))<|
 cO (S_ (finB o))
 (
 gO (S_ (decide ((0:Int)<=f/\f<=t/\t<=(↑n:Int))))<|
 gO (S_ (decide (n*1=cs.length)))<|
 gO (S_ (decide (Flos (t.toNat-f.toNat) (List.take ((t.toNat-f.toNat)*1) (List.drop (f.toNat*1) cs)))))<|
 bO (
 cO (S_ (S_ (ordO .f32 (S_ (ext35V (S_ n) (fO (S_ cs)) (S_ b) (S_ m) (S_ ls) f t).fst) (some 0)==some .eq)&&(S_ (ordO .f32 (S_ (ext35V (S_ n) (fO (S_ cs)) (S_ b) (S_ m) (S_ ls) f t).snd) (some 0)==some .eq)&&true)))
 (
 some (S_ (S_ (ext35E (S_ n) (fO (S_ cs)) (S_ b) (S_ m) (S_ ls) f t)==(12:Int))))
 (
 some false)) fun v23=>
 bO (
 cO v23
 (
 gO (S_ (decide (Flos (2*S_ ((zoomV (S_ n) (fO (S_ cs)) (S_ b) (S_ m) (S_ ls) f t c).length / 2)) (S_ (flosL (zoomV (S_ n) (fO (S_ cs)) (S_ b) (S_ m) (S_ ls) f t c)))/\S_ ((zoomV (S_ n) (fO (S_ cs)) (S_ b) (S_ m) (S_ ls) f t c).length / 2)<=100000)))<|
 gO (S_ (decide (FPrs (S_ (S_ ((zoomV (S_ n) (fO (S_ cs)) (S_ b) (S_ m) (S_ ls) f t c).length / 2))) (S_ (S_ (flosL (zoomV (S_ n) (fO (S_ cs)) (S_ b) (S_ m) (S_ ls) f t c))))/\FPrs (S_ ((zoomF (fO cs) f.toNat (t-f).toNat c.toNat c.toNat 0).length / 2)) (S_ (flosL (zoomF (fO cs) f.toNat (t-f).toNat c.toNat c.toNat 0))))))<|
 some (S_ (sameF (fO (S_ (S_ (flosL (zoomV (S_ n) (fO (S_ cs)) (S_ b) (S_ m) (S_ ls) f t c))))) (fO (S_ (flosL (zoomF (fO cs) f.toNat (t-f).toNat c.toNat c.toNat 0)))))))
 (
 some false)) fun v24=>
 bO (
 cO v24
 (
 some (S_ (S_ (zoomE (S_ n) (fO (S_ cs)) (S_ b) (S_ m) (S_ ls) f t c)==S_ (if c<(1:Int)\/c>(2048:Int) then (3:Int) else (0:Int)))))
 (
 some false)) fun v25=>
 bO (
 cO v25
 (
 some (S_ (S_ (↑(cntV (S_ n) (fO (S_ cs)) (S_ b) (S_ m) (S_ ls) f t o):Int)==S_ (↑(cntL o (fO (List.take ((t.toNat-f.toNat)*1) (List.drop (f.toNat*1) cs)))):Int))))
 (
 some false)) fun v26=>
 bO (
 cO v26
 (
 some (S_ (S_ (cntE (S_ n) (fO (S_ cs)) (S_ b) (S_ m) (S_ ls) f t o)==(0:Int))))
 (
 some false)) fun v27=>
 bO (
 cO v27
 (
 some true)
 (
 some false)) fun v28=>
 some ([RLeaf.v (AV.bool v28)]))
 (
 bO (
 cO (S_ (S_ (ordO .f32 (S_ (ext35V (S_ n) (fO (S_ cs)) (S_ b) (S_ m) (S_ ls) f t).fst) (some 0)==some .eq)&&(S_ (ordO .f32 (S_ (ext35V (S_ n) (fO (S_ cs)) (S_ b) (S_ m) (S_ ls) f t).snd) (some 0)==some .eq)&&true)))
 (
 some (S_ (S_ (ext35E (S_ n) (fO (S_ cs)) (S_ b) (S_ m) (S_ ls) f t)==(12:Int))))
 (
 some false)) fun v20=>
 bO (
 cO v20
 (
 gO (S_ (decide (Flos (2*S_ ((zoomV (S_ n) (fO (S_ cs)) (S_ b) (S_ m) (S_ ls) f t c).length / 2)) (S_ (flosL (zoomV (S_ n) (fO (S_ cs)) (S_ b) (S_ m) (S_ ls) f t c)))/\S_ ((zoomV (S_ n) (fO (S_ cs)) (S_ b) (S_ m) (S_ ls) f t c).length / 2)<=100000)))<|
 gO (S_ (decide (FPrs (S_ (S_ ((zoomV (S_ n) (fO (S_ cs)) (S_ b) (S_ m) (S_ ls) f t c).length / 2))) (S_ (S_ (flosL (zoomV (S_ n) (fO (S_ cs)) (S_ b) (S_ m) (S_ ls) f t c))))/\FPrs (S_ ((zoomF (fO cs) f.toNat (t-f).toNat c.toNat c.toNat 0).length / 2)) (S_ (flosL (zoomF (fO cs) f.toNat (t-f).toNat c.toNat c.toNat 0))))))<|
 some (S_ (sameF (fO (S_ (S_ (flosL (zoomV (S_ n) (fO (S_ cs)) (S_ b) (S_ m) (S_ ls) f t c))))) (fO (S_ (flosL (zoomF (fO cs) f.toNat (t-f).toNat c.toNat c.toNat 0)))))))
 (
 some false)) fun v21=>
 bO (
 cO v21
 (
 some (S_ (S_ (zoomE (S_ n) (fO (S_ cs)) (S_ b) (S_ m) (S_ ls) f t c)==S_ (if c<(1:Int)\/c>(2048:Int) then (3:Int) else (0:Int)))))
 (
 some false)) fun v22=>
 bO (
 cO v22
 (
 some (S_ (S_ (↑(cntV (S_ n) (fO (S_ cs)) (S_ b) (S_ m) (S_ ls) f t o):Int)==(0:Int))))
 (
 some false)) fun v23=>
 bO (
 cO v23
 (
 some (S_ (S_ (cntE (S_ n) (fO (S_ cs)) (S_ b) (S_ m) (S_ ls) f t o)==(1:Int))))
 (
 some false)) fun v24=>
 bO (
 cO v24
 (
 some true)
 (
 some false)) fun v25=>
 some ([RLeaf.v (AV.bool v25)])))
 (
 cO (S_ (finB o))
 (
 gO (S_ (decide ((0:Int)<=f/\f<=t/\t<=(↑n:Int))))<|
 gO (S_ (decide (n*1=cs.length)))<|
 gO (S_ (decide (Flos (t.toNat-f.toNat) (List.take ((t.toNat-f.toNat)*1) (List.drop (f.toNat*1) cs)))))<|
 bO (
 cO (S_ (S_ (ordO .f32 (S_ (ext35V (S_ n) (fO (S_ cs)) (S_ b) (S_ m) (S_ ls) f t).fst) (some 0)==some .eq)&&(S_ (ordO .f32 (S_ (ext35V (S_ n) (fO (S_ cs)) (S_ b) (S_ m) (S_ ls) f t).snd) (some 0)==some .eq)&&true)))
 (
 some (S_ (S_ (ext35E (S_ n) (fO (S_ cs)) (S_ b) (S_ m) (S_ ls) f t)==(12:Int))))
 (
 some false)) fun v22=>
 bO (
 cO v22
 (
 gO (S_ (decide (Flos (2*S_ ((zoomV (S_ n) (fO (S_ cs)) (S_ b) (S_ m) (S_ ls) f t c).length / 2)) (S_ (flosL (zoomV (S_ n) (fO (S_ cs)) (S_ b) (S_ m) (S_ ls) f t c)))/\S_ ((zoomV (S_ n) (fO (S_ cs)) (S_ b) (S_ m) (S_ ls) f t c).length / 2)<=100000)))<|
 gO (S_ (decide (FPrs (S_ (S_ ((zoomV (S_ n) (fO (S_ cs)) (S_ b) (S_ m) (S_ ls) f t c).length / 2))) (S_ (S_ (flosL (zoomV (S_ n) (fO (S_ cs)) (S_ b) (S_ m) (S_ ls) f t c))))/\FPrs 0 [])))<|
 some (S_ (sameF (fO (S_ (S_ (flosL (zoomV (S_ n) (fO (S_ cs)) (S_ b) (S_ m) (S_ ls) f t c))))) (fO []))))
 (
 some false)) fun v23=>
 bO (
 cO v23
 (
 some (S_ (S_ (zoomE (S_ n) (fO (S_ cs)) (S_ b) (S_ m) (S_ ls) f t c)==S_ (if c<(1:Int)\/c>(2048:Int) then (3:Int) else (0:Int)))))
 (
 some false)) fun v24=>
 bO (
 cO v24
 (
 some (S_ (S_ (↑(cntV (S_ n) (fO (S_ cs)) (S_ b) (S_ m) (S_ ls) f t o):Int)==S_ (↑(cntL o (fO (List.take ((t.toNat-f.toNat)*1) (List.drop (f.toNat*1) cs)))):Int))))
 (
 some false)) fun v25=>
 bO (
 cO v25
 (
 some (S_ (S_ (cntE (S_ n) (fO (S_ cs)) (S_ b) (S_ m) (S_ ls) f t o)==(0:Int))))
 (
 some false)) fun v26=>
 bO (
 cO v26
 (
 some true)
 (
 some false)) fun v27=>
 some ([RLeaf.v (AV.bool v27)]))
 (
 bO (
 cO (S_ (S_ (ordO .f32 (S_ (ext35V (S_ n) (fO (S_ cs)) (S_ b) (S_ m) (S_ ls) f t).fst) (some 0)==some .eq)&&(S_ (ordO .f32 (S_ (ext35V (S_ n) (fO (S_ cs)) (S_ b) (S_ m) (S_ ls) f t).snd) (some 0)==some .eq)&&true)))
 (
 some (S_ (S_ (ext35E (S_ n) (fO (S_ cs)) (S_ b) (S_ m) (S_ ls) f t)==(12:Int))))
 (
 some false)) fun v19=>
 bO (
 cO v19
 (
 gO (S_ (decide (Flos (2*S_ ((zoomV (S_ n) (fO (S_ cs)) (S_ b) (S_ m) (S_ ls) f t c).length / 2)) (S_ (flosL (zoomV (S_ n) (fO (S_ cs)) (S_ b) (S_ m) (S_ ls) f t c)))/\S_ ((zoomV (S_ n) (fO (S_ cs)) (S_ b) (S_ m) (S_ ls) f t c).length / 2)<=100000)))<|
 gO (S_ (decide (FPrs (S_ (S_ ((zoomV (S_ n) (fO (S_ cs)) (S_ b) (S_ m) (S_ ls) f t c).length / 2))) (S_ (S_ (flosL (zoomV (S_ n) (fO (S_ cs)) (S_ b) (S_ m) (S_ ls) f t c))))/\FPrs 0 [])))<|
 some (S_ (sameF (fO (S_ (S_ (flosL (zoomV (S_ n) (fO (S_ cs)) (S_ b) (S_ m) (S_ ls) f t c))))) (fO []))))
 (
 some false)) fun v20=>
 bO (
 cO v20
 (
 some (S_ (S_ (zoomE (S_ n) (fO (S_ cs)) (S_ b) (S_ m) (S_ ls) f t c)==S_ (if c<(1:Int)\/c>(2048:Int) then (3:Int) else (0:Int)))))
 (
 some false)) fun v21=>
 bO (
 cO v21
 (
 some (S_ (S_ (↑(cntV (S_ n) (fO (S_ cs)) (S_ b) (S_ m) (S_ ls) f t o):Int)==(0:Int))))
 (
 some false)) fun v22=>
 bO (
 cO v22
 (
 some (S_ (S_ (cntE (S_ n) (fO (S_ cs)) (S_ b) (S_ m) (S_ ls) f t o)==(1:Int))))
 (
 some false)) fun v23=>
 bO (
 cO v23
 (
 some true)
 (
 some false)) fun v24=>
 some ([RLeaf.v (AV.bool v24)]))))))
 (
 bO (
 cO (S_ (S_ (ordO .f32 (S_ (ext35V (S_ n) (fO (S_ cs)) (S_ b) (S_ m) (S_ ls) f t).fst) (some 0)==some .eq)&&(S_ (ordO .f32 (S_ (ext35V (S_ n) (fO (S_ cs)) (S_ b) (S_ m) (S_ ls) f t).snd) (some 0)==some .eq)&&true)))
 (
 some (S_ (S_ (ext35E (S_ n) (fO (S_ cs)) (S_ b) (S_ m) (S_ ls) f t)==S_ (chkT n (fO cs) b m ls))))
 (
 some false)) fun v14=>
 bO (
 cO v14
 (
 gO (S_ (decide (Flos (2*S_ ((zoomV (S_ n) (fO (S_ cs)) (S_ b) (S_ m) (S_ ls) f t c).length / 2)) (S_ (flosL (zoomV (S_ n) (fO (S_ cs)) (S_ b) (S_ m) (S_ ls) f t c)))/\S_ ((zoomV (S_ n) (fO (S_ cs)) (S_ b) (S_ m) (S_ ls) f t c).length / 2)<=100000)))<|
 gO (S_ (decide (FPrs (S_ (S_ ((zoomV (S_ n) (fO (S_ cs)) (S_ b) (S_ m) (S_ ls) f t c).length / 2))) (S_ (S_ (flosL (zoomV (S_ n) (fO (S_ cs)) (S_ b) (S_ m) (S_ ls) f t c))))/\FPrs 0 [])))<|
 some (S_ (sameF (fO (S_ (S_ (flosL (zoomV (S_ n) (fO (S_ cs)) (S_ b) (S_ m) (S_ ls) f t c))))) (fO []))))
 (
 some false)) fun v15=>
 bO (
 cO v15
 (
 some (S_ (S_ (zoomE (S_ n) (fO (S_ cs)) (S_ b) (S_ m) (S_ ls) f t c)==S_ (chkT n (fO cs) b m ls))))
 (
 some false)) fun v16=>
 bO (
 cO v16
 (
 some (S_ (S_ (↑(cntV (S_ n) (fO (S_ cs)) (S_ b) (S_ m) (S_ ls) f t o):Int)==(0:Int))))
 (
 some false)) fun v17=>
 bO (
 cO v17
 (
 some (S_ (S_ (cntE (S_ n) (fO (S_ cs)) (S_ b) (S_ m) (S_ ls) f t o)==S_ (chkT n (fO cs) b m ls))))
 (
 some false)) fun v18=>
 bO (
 cO v18
 (
 some true)
 (
 some false)) fun v19=>
 some ([RLeaf.v (AV.bool v19)]))))):=by kernel_rfl
end Go.Abs
end
