/- Part 40 of the library of the proof: an abstract run of the program. -/
import Derived.Test.YtkloadomnblkeaaGreatDoorAp38
import Derived.Test.YtkloadomnblkeaaGreatDoorAp39
set_option linter.unusedVariables false
set_option linter.unusedSimpArgs false

set_option maxRecDepth 100000
noncomputable section
namespace Go.Abs
open Go.Proofs Classical
theorem run_15 (N n:Nat) (cs:List AV) (b:Int) (m:Nat) (ls:List AV) (q:Nat) (ds:List AV):(fsM mzAq waysA N 12).call (List RLeaf) 15 [.ofB (.list n cs),.s (.agg [.b (.int .i64 b),.b (.list m ls)]),.ofB (.list q ds)] [] (resK [false])=(
 bO (
 cO (!S_ (lenB (↑n:Int) (64:Int) (4096:Int)))
 (
 some true)
 (
 some (!S_ (lenB (↑q:Int) (64:Int) (4096:Int))))) fun v0=>
 bO (
 cO v0
 (
 some true)
 (
 gO (S_ (decide (LvsW m ls)))<|
 some (!S_ (shortT m ls)))) fun v1=>
 cO v1
 (
 some ([RLeaf.v (AV.bool true)]))
 (
 gO (S_ (decide (Flos n cs/\n<=100000000)))<|
 gO (S_ (decide (Lvs m ls)))<|
 gO (S_ (decide (Flos q ds/\q<=100000000)))<|
 gO (S_ (decide (Flos (S_ n) (S_ cs)/\Lvs (S_ m) (S_ ls)/\Flos (S_ q) (S_ ds))))<|
 gO (S_ (decide (Flos n cs/\Lvs m ls)))<|
 cO (S_ (S_ (chkT n (fO cs) b m ls)==(0:Int)))
 (
 gO (S_ (decide (Flos q ds)))<|
 cO (S_ (S_ (sampErr q (fO ds))==(0:Int)))
 (
 gO (S_ (decide (cs.length=n*1)))<|
 gO (S_ (decide ((0+n)*5<=549755813888)))<|
 gO (S_ (decide (ds.length=q*1)))<|
 gO (S_ (decide ((0+n+q)*5<=549755813888)))<|
 (loopC N (fun (r_15:(Int->Int->Nat->List AV->Nat->List AV->Int->Nat->List AV->Nat->List AV->Nat->List AV->Int->Nat->List AV->Nat->List AV->Nat->List AV->Int->Nat->List AV->Int->Nat->List AV->Option (List RLeaf)) × PUnit.{1})=>(
 (fun a0 a1 a2 a3 a4 a5 a6 a7 a8 a9 a10 a11 a12 a13 a14 a15 a16 a17 a18 a19 a20 a21 a22 a23 a24 a25=>
 cO (S_ (decide ((↑a16:Int)>(0:Int))))
 (
 loopC N (fun r_17 (b0 b1 b2:Int) (b3:Nat) (b4:List AV) (b5:Nat) (b6:List AV) (b7:Int) (b8:Nat) (b9:List AV) (b10:Nat) (b11:List AV) (b12:Nat) (b13:List AV) (b14:Int) (b15:Nat) (b16:List AV) (b17:Nat) (b18:List AV) (b19:Nat) (b20:List AV) (b21:Int) (b22:Nat) (b23:List AV) (b24:Int) (b25:Nat) (b26:List AV) (b27:Nat) (b28:List AV)=>
 cO (S_ (decide (b1<(↑b17:Int))))
 (
 gO (S_ (decide ((0:Int)<=b1/\b1<=S_ (if (↑b17:Int)<S_ (IntKind.i64.wrap (b1+b0)) then (↑b17:Int) else S_ (IntKind.i64.wrap (b1+b0)))/\S_ (if (↑b17:Int)<S_ (IntKind.i64.wrap (b1+b0)) then (↑b17:Int) else S_ (IntKind.i64.wrap (b1+b0)))<=(↑b17:Int))))<|
 gO (S_ (decide (Flos ((S_ (if (↑b17:Int)<S_ (IntKind.i64.wrap (b1+b0)) then (↑b17:Int) else S_ (IntKind.i64.wrap (b1+b0)))).toNat-b1.toNat) (List.take (((S_ (if (↑b17:Int)<S_ (IntKind.i64.wrap (b1+b0)) then (↑b17:Int) else S_ (IntKind.i64.wrap (b1+b0)))).toNat-b1.toNat)*1) (List.drop (b1.toNat*1) b18))/\0<(S_ (if (↑b17:Int)<S_ (IntKind.i64.wrap (b1+b0)) then (↑b17:Int) else S_ (IntKind.i64.wrap (b1+b0)))).toNat-b1.toNat)))<|
 gO (S_ (decide ((b27+1)*9<=549755813888)))<|
 r_17 b0 (S_ (IntKind.i64.wrap (b1+b0))) b2 b3 b4 b5 b6 b7 b8 b9 b10 b11 b12 b13 b14 b15 b16 b17 b18 b19 b20 b21 b22 b23 b24 b25 b26 (b27+1) (b28++putCells (zrow (nlZero Tryz.prog 70 (ofV (Go.Value.agg #[Go.Value.float .f32 0,Go.Value.float .f32 0]))).cells 2) 0 [AV.flo .f32 (S_ (extV Ordering.lt ((fO (List.take (((S_ (if (↑b17:Int)<S_ (IntKind.i64.wrap (b1+b0)) then (↑b17:Int) else S_ (IntKind.i64.wrap (b1+b0)))).toNat-b1.toNat)*1) (List.drop (b1.toNat*1) b18))).getD 0 none) (fO (List.take (((S_ (if (↑b17:Int)<S_ (IntKind.i64.wrap (b1+b0)) then (↑b17:Int) else S_ (IntKind.i64.wrap (b1+b0)))).toNat-b1.toNat)*1) (List.drop (b1.toNat*1) b18))))),AV.flo .f32 (S_ (extV Ordering.gt ((fO (List.take (((S_ (if (↑b17:Int)<S_ (IntKind.i64.wrap (b1+b0)) then (↑b17:Int) else S_ (IntKind.i64.wrap (b1+b0)))).toNat-b1.toNat)*1) (List.drop (b1.toNat*1) b18))).getD 0 none) (fO (List.take (((S_ (if (↑b17:Int)<S_ (IntKind.i64.wrap (b1+b0)) then (↑b17:Int) else S_ (IntKind.i64.wrap (b1+b0)))).toNat-b1.toNat)*1) (List.drop (b1.toNat*1) b18)))))]))
 (
 gO (S_ (decide ((b25+1)*25<=549755813888)))<|
 cO (S_ ((↑b27:Int)==(1:Int)))
 (
 gO (S_ (decide (Flos (S_ (appV (S_ n) (fO (S_ cs)) (S_ b) (S_ m) (S_ ls) (S_ q) (fO (S_ ds))).fst.length) (S_ (flosL (appV (S_ n) (fO (S_ cs)) (S_ b) (S_ m) (S_ ls) (S_ q) (fO (S_ ds))).fst))/\Flos b17 b18)))<|
 cO (S_ (sameF (fO (S_ (flosL (appV (S_ n) (fO (S_ cs)) (S_ b) (S_ m) (S_ ls) (S_ q) (fO (S_ ds))).fst))) (fO b18)))
 (
 gO (S_ (decide (Lvs b8 b9)))<|
 gO (S_ (decide (Lvs (S_ b8) (S_ b9)/\Lvs (b25+1) (b26++putCells (zrow (nlZero Tryz.prog 71 (ofV (Go.Value.slice none 0 0))).cells 1) 0 [AV.list b27 b28]))))<|
 cO (S_ (decide (S_ b7=b24)&&decide (S_ b8=b25+1)&&sameT (S_ b8) (S_ b9) (b26++putCells (zrow (nlZero Tryz.prog 71 (ofV (Go.Value.slice none 0 0))).cells 1) 0 [AV.list b27 b28])))
 (
 cO (S_ (S_ (appE (S_ n) (fO (S_ cs)) (S_ b) (S_ m) (S_ ls) (S_ q) (fO (S_ ds)))==S_ (sampErr q (fO ds))))
 (
 some ([RLeaf.v (AV.bool true)]))
 (
 some ([RLeaf.v (AV.bool false)])))
 (
 some ([RLeaf.v (AV.bool false)])))
 (
 some ([RLeaf.v (AV.bool false)])))
 (
 r_15.1 (S_ (IntKind.i64.wrap ((2:Int)*b0))) b2 b3 b4 b5 b6 b7 b8 b9 b10 b11 b12 b13 b14 b15 b16 b17 b18 b19 b20 b21 b22 b23 b24 (b25+1) (b26++putCells (zrow (nlZero Tryz.prog 71 (ofV (Go.Value.slice none 0 0))).cells 1) 0 [AV.list b27 b28]))))
 (fun _ _ _ _ _ _ _ _ _ _ _ _ _ _ _ _ _ _ _ _ _ _ _ _ _ _ _ _ _=>none) a0 ((0:Int)) a1 a2 a3 a4 a5 a6 a7 a8 a9 a10 a11 a12 a13 a14 a15 a16 a17 a18 a19 a20 a21 a22 a23 a24 a25 0 ([]))
 (
 gO (S_ (decide (Flos (S_ (appV (S_ n) (fO (S_ cs)) (S_ b) (S_ m) (S_ ls) (S_ q) (fO (S_ ds))).fst.length) (S_ (flosL (appV (S_ n) (fO (S_ cs)) (S_ b) (S_ m) (S_ ls) (S_ q) (fO (S_ ds))).fst))/\Flos a16 a17)))<|
 cO (S_ (sameF (fO (S_ (flosL (appV (S_ n) (fO (S_ cs)) (S_ b) (S_ m) (S_ ls) (S_ q) (fO (S_ ds))).fst))) (fO a17)))
 (
 gO (S_ (decide (Lvs a7 a8)))<|
 gO (S_ (decide (Lvs (S_ a7) (S_ a8)/\Lvs a24 a25)))<|
 cO (S_ (decide (S_ a6=a23)&&decide (S_ a7=a24)&&sameT (S_ a7) (S_ a8) a25))
 (
 cO (S_ (S_ (appE (S_ n) (fO (S_ cs)) (S_ b) (S_ m) (S_ ls) (S_ q) (fO (S_ ds)))==S_ (sampErr q (fO ds))))
 (
 some ([RLeaf.v (AV.bool true)]))
 (
 some ([RLeaf.v (AV.bool false)])))
 (
 some ([RLeaf.v (AV.bool false)])))
 (
 some ([RLeaf.v (AV.bool false)])))),PUnit.unit))
 ((fun _ _ _ _ _ _ _ _ _ _ _ _ _ _ _ _ _ _ _ _ _ _ _ _ _ _=>none),PUnit.unit)).1 b b m ls 0 ([]) (S_ (appV (S_ n) (fO (S_ cs)) (S_ b) (S_ m) (S_ ls) (S_ q) (fO (S_ ds))).snd.fst) (S_ (appV (S_ n) (fO (S_ cs)) (S_ b) (S_ m) (S_ ls) (S_ q) (fO (S_ ds))).snd.snd.length) (S_ (lvCells (appV (S_ n) (fO (S_ cs)) (S_ b) (S_ m) (S_ ls) (S_ q) (fO (S_ ds))).snd.snd)) 0 ([]) 0 ([]) ((0:Int)) 0 ([]) (0+n+q) (zrow (ofV (Go.Value.float .f32 0)).cells 0++cs++ds) 0 ([]) ((0:Int)) 0 ([]) b 0 ([]))
 (
 gO (S_ (decide (Flos (S_ (appV (S_ n) (fO (S_ cs)) (S_ b) (S_ m) (S_ ls) (S_ q) (fO (S_ ds))).fst.length) (S_ (flosL (appV (S_ n) (fO (S_ cs)) (S_ b) (S_ m) (S_ ls) (S_ q) (fO (S_ ds))).fst))/\Flos 0 [])))<|
 cO (S_ (sameF (fO (S_ (flosL (appV (S_ n) (fO (S_ cs)) (S_ b) (S_ m) (S_ ls) (S_ q) (fO (S_ ds))).fst))) (fO [])))
 (
 gO (S_ (decide (Lvs (S_ (appV (S_ n) (fO (S_ cs)) (S_ b) (S_ m) (S_ ls) (S_ q) (fO (S_ ds))).snd.snd.length) (S_ (lvCells (appV (S_ n) (fO (S_ cs)) (S_ b) (S_ m) (S_ ls) (S_ q) (fO (S_ ds))).snd.snd)))))<|
 gO (S_ (decide (Lvs (S_ (S_ (appV (S_ n) (fO (S_ cs)) (S_ b) (S_ m) (S_ ls) (S_ q) (fO (S_ ds))).snd.snd.length)) (S_ (S_ (lvCells (appV (S_ n) (fO (S_ cs)) (S_ b) (S_ m) (S_ ls) (S_ q) (fO (S_ ds))).snd.snd)))/\Lvs 0 [])))<|
 cO (S_ (decide (S_ (S_ (appV (S_ n) (fO (S_ cs)) (S_ b) (S_ m) (S_ ls) (S_ q) (fO (S_ ds))).snd.fst)=(0:Int))&&decide (S_ (S_ (appV (S_ n) (fO (S_ cs)) (S_ b) (S_ m) (S_ ls) (S_ q) (fO (S_ ds))).snd.snd.length)=0)&&sameT (S_ (S_ (appV (S_ n) (fO (S_ cs)) (S_ b) (S_ m) (S_ ls) (S_ q) (fO (S_ ds))).snd.snd.length)) (S_ (S_ (lvCells (appV (S_ n) (fO (S_ cs)) (S_ b) (S_ m) (S_ ls) (S_ q) (fO (S_ ds))).snd.snd))) []))
 (
 cO (S_ (S_ (appE (S_ n) (fO (S_ cs)) (S_ b) (S_ m) (S_ ls) (S_ q) (fO (S_ ds)))==S_ (sampErr q (fO ds))))
 (
 some ([RLeaf.v (AV.bool true)]))
 (
 some ([RLeaf.v (AV.bool false)])))
 (
 some ([RLeaf.v (AV.bool false)])))
 (
 some ([RLeaf.v (AV.bool false)]))))
 (
 cO (S_ (S_ (chkT n (fO cs) b m ls)==(0:Int)))
 (
 gO (S_ (decide (cs.length=n*1)))<|
 gO (S_ (decide ((0+n)*5<=549755813888)))<|
 gO (S_ (decide (ds.length=q*1)))<|
 gO (S_ (decide ((0+n+q)*5<=549755813888)))<|
 (loopC N (fun (r_14:(Int->Int->Nat->List AV->Nat->List AV->Int->Nat->List AV->Nat->List AV->Nat->List AV->Int->Nat->List AV->Nat->List AV->Nat->List AV->Int->Nat->List AV->Int->Nat->List AV->Option (List RLeaf)) × PUnit.{1})=>(
 (fun c0 c1 c2 c3 c4 c5 c6 c7 c8 c9 c10 c11 c12 c13 c14 c15 c16 c17 c18 c19 c20 c21 c22 c23 c24 c25=>
 cO (S_ (decide ((↑c16:Int)>(0:Int))))
 (
 loopC N (fun r_16 (d0 d1 d2:Int) (d3:Nat) (d4:List AV) (d5:Nat) (d6:List AV) (d7:Int) (d8:Nat) (d9:List AV) (d10:Nat) (d11:List AV) (d12:Nat) (d13:List AV) (d14:Int) (d15:Nat) (d16:List AV) (d17:Nat) (d18:List AV) (d19:Nat) (d20:List AV) (d21:Int) (d22:Nat) (d23:List AV) (d24:Int) (d25:Nat) (d26:List AV) (d27:Nat) (d28:List AV)=>
 cO (S_ (decide (d1<(↑d17:Int))))
 (
 gO (S_ (decide ((0:Int)<=d1/\d1<=S_ (if (↑d17:Int)<S_ (IntKind.i64.wrap (d1+d0)) then (↑d17:Int) else S_ (IntKind.i64.wrap (d1+d0)))/\S_ (if (↑d17:Int)<S_ (IntKind.i64.wrap (d1+d0)) then (↑d17:Int) else S_ (IntKind.i64.wrap (d1+d0)))<=(↑d17:Int))))<|
 gO (S_ (decide (Flos ((S_ (if (↑d17:Int)<S_ (IntKind.i64.wrap (d1+d0)) then (↑d17:Int) else S_ (IntKind.i64.wrap (d1+d0)))).toNat-d1.toNat) (List.take (((S_ (if (↑d17:Int)<S_ (IntKind.i64.wrap (d1+d0)) then (↑d17:Int) else S_ (IntKind.i64.wrap (d1+d0)))).toNat-d1.toNat)*1) (List.drop (d1.toNat*1) d18))/\0<(S_ (if (↑d17:Int)<S_ (IntKind.i64.wrap (d1+d0)) then (↑d17:Int) else S_ (IntKind.i64.wrap (d1+d0)))).toNat-d1.toNat)))<|
 gO (S_ (decide ((d27+1)*9<=549755813888)))<|
 r_16 d0 (S_ (IntKind.i64.wrap (d1+d0))) d2 d3 d4 d5 d6 d7 d8 d9 d10 d11 d12 d13 d14 d15 d16 d17 d18 d19 d20 d21 d22 d23 d24 d25 d26 (d27+1) (d28++putCells (zrow (nlZero Tryz.prog 70 (ofV (Go.Value.agg #[Go.Value.float .f32 0,Go.Value.float .f32 0]))).cells 2) 0 [AV.flo .f32 (S_ (extV Ordering.lt ((fO (List.take (((S_ (if (↑d17:Int)<S_ (IntKind.i64.wrap (d1+d0)) then (↑d17:Int) else S_ (IntKind.i64.wrap (d1+d0)))).toNat-d1.toNat)*1) (List.drop (d1.toNat*1) d18))).getD 0 none) (fO (List.take (((S_ (if (↑d17:Int)<S_ (IntKind.i64.wrap (d1+d0)) then (↑d17:Int) else S_ (IntKind.i64.wrap (d1+d0)))).toNat-d1.toNat)*1) (List.drop (d1.toNat*1) d18))))),AV.flo .f32 (S_ (extV Ordering.gt ((fO (List.take (((S_ (if (↑d17:Int)<S_ (IntKind.i64.wrap (d1+d0)) then (↑d17:Int) else S_ (IntKind.i64.wrap (d1+d0)))).toNat-d1.toNat)*1) (List.drop (d1.toNat*1) d18))).getD 0 none) (fO (List.take (((S_ (if (↑d17:Int)<S_ (IntKind.i64.wrap (d1+d0)) then (↑d17:Int) else S_ (IntKind.i64.wrap (d1+d0)))).toNat-d1.toNat)*1) (List.drop (d1.toNat*1) d18)))))]))
 (
 gO (S_ (decide ((d25+1)*25<=549755813888)))<|
 cO (S_ ((↑d27:Int)==(1:Int)))
 (
 gO (S_ (decide (Flos (S_ (appV (S_ n) (fO (S_ cs)) (S_ b) (S_ m) (S_ ls) (S_ q) (fO (S_ ds))).fst.length) (S_ (flosL (appV (S_ n) (fO (S_ cs)) (S_ b) (S_ m) (S_ ls) (S_ q) (fO (S_ ds))).fst))/\Flos d17 d18)))<|
 cO (S_ (sameF (fO (S_ (flosL (appV (S_ n) (fO (S_ cs)) (S_ b) (S_ m) (S_ ls) (S_ q) (fO (S_ ds))).fst))) (fO d18)))
 (
 gO (S_ (decide (Lvs d8 d9)))<|
 gO (S_ (decide (Lvs (S_ d8) (S_ d9)/\Lvs (d25+1) (d26++putCells (zrow (nlZero Tryz.prog 71 (ofV (Go.Value.slice none 0 0))).cells 1) 0 [AV.list d27 d28]))))<|
 cO (S_ (decide (S_ d7=d24)&&decide (S_ d8=d25+1)&&sameT (S_ d8) (S_ d9) (d26++putCells (zrow (nlZero Tryz.prog 71 (ofV (Go.Value.slice none 0 0))).cells 1) 0 [AV.list d27 d28])))
 (
 cO (S_ (S_ (appE (S_ n) (fO (S_ cs)) (S_ b) (S_ m) (S_ ls) (S_ q) (fO (S_ ds)))==S_ (chkT n (fO cs) b m ls)))
 (
 some ([RLeaf.v (AV.bool true)]))
 (
 some ([RLeaf.v (AV.bool false)])))
 (
 some ([RLeaf.v (AV.bool false)])))
 (
 some ([RLeaf.v (AV.bool false)])))
 (
 r_14.1 (S_ (IntKind.i64.wrap ((2:Int)*d0))) d2 d3 d4 d5 d6 d7 d8 d9 d10 d11 d12 d13 d14 d15 d16 d17 d18 d19 d20 d21 d22 d23 d24 (d25+1) (d26++putCells (zrow (nlZero Tryz.prog 71 (ofV (Go.Value.slice none 0 0))).cells 1) 0 [AV.list d27 d28]))))
 (fun _ _ _ _ _ _ _ _ _ _ _ _ _ _ _ _ _ _ _ _ _ _ _ _ _ _ _ _ _=>none) c0 ((0:Int)) c1 c2 c3 c4 c5 c6 c7 c8 c9 c10 c11 c12 c13 c14 c15 c16 c17 c18 c19 c20 c21 c22 c23 c24 c25 0 ([]))
 (
 gO (S_ (decide (Flos (S_ (appV (S_ n) (fO (S_ cs)) (S_ b) (S_ m) (S_ ls) (S_ q) (fO (S_ ds))).fst.length) (S_ (flosL (appV (S_ n) (fO (S_ cs)) (S_ b) (S_ m) (S_ ls) (S_ q) (fO (S_ ds))).fst))/\Flos c16 c17)))<|
 cO (S_ (sameF (fO (S_ (flosL (appV (S_ n) (fO (S_ cs)) (S_ b) (S_ m) (S_ ls) (S_ q) (fO (S_ ds))).fst))) (fO c17)))
 (
 gO (S_ (decide (Lvs c7 c8)))<|
 gO (S_ (decide (Lvs (S_ c7) (S_ c8)/\Lvs c24 c25)))<|
 cO (S_ (decide (S_ c6=c23)&&decide (S_ c7=c24)&&sameT (S_ c7) (S_ c8) c25))
 (
 cO (S_ (S_ (appE (S_ n) (fO (S_ cs)) (S_ b) (S_ m) (S_ ls) (S_ q) (fO (S_ ds)))==S_ (chkT n (fO cs) b m ls)))
 (
 some ([RLeaf.v (AV.bool true)]))
 (
 some ([RLeaf.v (AV.bool false)])))
 (
 some ([RLeaf.v (AV.bool false)])))
 (
 some ([RLeaf.v (AV.bool false)])))),PUnit.unit))
 ((fun _ _ _ _ _ _ _ _ _ _ _ _ _ _ _ _ _ _ _ _ _ _ _ _ _ _=>none),PUnit.unit)).1 b b m ls 0 ([]) (S_ (appV (S_ n) (fO (S_ cs)) (S_ b) (S_ m) (S_ ls) (S_ q) (fO (S_ ds))).snd.fst) (S_ (appV (S_ n) (fO (S_ cs)) (S_ b) (S_ m) (S_ ls) (S_ q) (fO (S_ ds))).snd.snd.length) (S_ (lvCells (appV (S_ n) (fO (S_ cs)) (S_ b) (S_ m) (S_ ls) (S_ q) (fO (S_ ds))).snd.snd)) 0 ([]) 0 ([]) ((0:Int)) 0 ([]) (0+n+q) (zrow (ofV (Go.Value.float .f32 0)).cells 0++cs++ds) 0 ([]) ((0:Int)) 0 ([]) b 0 ([]))
 (
 gO (S_ (decide (Flos (S_ (appV (S_ n) (fO (S_ cs)) (S_ b) (S_ m) (S_ ls) (S_ q) (fO (S_ ds))).fst.length) (S_ (flosL (appV (S_ n) (fO (S_ cs)) (S_ b) (S_ m) (S_ ls) (S_ q) (fO (S_ ds))).fst))/\Flos 0 [])))<|
 cO (S_ (sameF (fO (S_ (flosL (appV (S_ n) (fO (S_ cs)) (S_ b) (S_ m) (S_ ls) (S_ q) (fO (S_ ds))).fst))) (fO [])))
 (
 gO (S_ (decide (Lvs (S_ (appV (S_ n) (fO (S_ cs)) (S_ b) (S_ m) (S_ ls) (S_ q) (fO (S_ ds))).snd.snd.length) (S_ (lvCells (appV (S_ n) (fO (S_ cs)) (S_ b) (S_ m) (S_ ls) (S_ q) (fO (S_ ds))).snd.snd)))))<|
 gO (S_ (decide (Lvs (S_ (S_ (appV (S_ n) (fO (S_ cs)) (S_ b) (S_ m) (S_ ls) (S_ q) (fO (S_ ds))).snd.snd.length)) (S_ (S_ (lvCells (appV (S_ n) (fO (S_ cs)) (S_ b) (S_ m) (S_ ls) (S_ q) (fO (S_ ds))).snd.snd)))/\Lvs 0 [])))<|
 cO (S_ (decide (S_ (S_ (appV (S_ n) (fO (S_ cs)) (S_ b) (S_ m) (S_ ls) (S_ q) (fO (S_ ds))).snd.fst)=(0:Int))&&decide (S_ (S_ (appV (S_ n) (fO (S_ cs)) (S_ b) (S_ m) (S_ ls) (S_ q) (fO (S_ ds))).snd.snd.length)=0)&&sameT (S_ (S_ (appV (S_ n) (fO (S_ cs)) (S_ b) (S_ m) (S_ ls) (S_ q) (fO (S_ ds))).snd.snd.length)) (S_ (S_ (lvCells (appV (S_ n) (fO (S_ cs)) (S_ b) (S_ m) (S_ ls) (S_ q) (fO (S_ ds))).snd.snd))) []))
 (
 cO (S_ (S_ (appE (S_ n) (fO (S_ cs)) (S_ b) (S_ m) (S_ ls) (S_ q) (fO (S_ ds)))==S_ (chkT n (fO cs) b m ls)))
 (
 some ([RLeaf.v (AV.bool true)]))
 (
 some ([RLeaf.v (AV.bool false)])))
 (
 some ([RLeaf.v (AV.bool false)])))
 (
 some ([RLeaf.v (AV.bool false)])))))):=by kernel_rfl
end Go.Abs
end
