/- Part 26 of the library of the proof: an abstract run of the program. -/
import Derived.Test.YtkloadomnblkeaaGreatDoorHt20
import Derived.Test.YtkloadomnblkeaaGreatDoorHt25
set_option linter.unusedVariables false
set_option linter.unusedSimpArgs false

set_option maxRecDepth 100000
noncomputable section
namespace Go.Abs
open Go.Proofs Classical
theorem XY (N n:Nat) (cs:List AV) (b:Int):(dA H8 cQ N 12).call (List aa) 24 [.aT (.list n cs),.aT (.int .i64 b)] [] (bp [false])=(
 (bg N (fun (uB:(Nat->List AV->Int->Nat->List AV->Int->Nat->List AV->Int->Nat->List AV->Option (List aa)) × PUnit.{1})=>(
 (fun a0 a1 a2 a3 a4 a5 a6 a7 a8 a9 qQ=>
 cO (S_ (decide ((↑a0:Int)>(0:Int))))
 (
 bg N (fun r_2 (b0:Nat) (b1:List AV) (b2 b3:Int) (b4:Nat) (b5:List AV) (b6:Int) (b7:Nat) (b8:List AV) (b9:Int) (nn:Nat) (oZ:List AV) (qi:Nat) (qR:List AV)=>
 cO (S_ (decide (b3<(↑b0:Int))))
 (
 gO (S_ (decide ((0:Int)<=b3/\b3<=S_ (if (↑b0:Int)<S_ (IntKind.i64.wrap (b3+b2)) then (↑b0:Int) else S_ (IntKind.i64.wrap (b3+b2)))/\S_ (if (↑b0:Int)<S_ (IntKind.i64.wrap (b3+b2)) then (↑b0:Int) else S_ (IntKind.i64.wrap (b3+b2)))<=(↑b0:Int))))<|
 gO (S_ (decide (b0*1=b1.length)))<|
 gO (S_ (decide (bu ((S_ (if (↑b0:Int)<S_ (IntKind.i64.wrap (b3+b2)) then (↑b0:Int) else S_ (IntKind.i64.wrap (b3+b2)))).toNat-b3.toNat) (List.take (((S_ (if (↑b0:Int)<S_ (IntKind.i64.wrap (b3+b2)) then (↑b0:Int) else S_ (IntKind.i64.wrap (b3+b2)))).toNat-b3.toNat)*1) (List.drop (b3.toNat*1) b1))/\0<(S_ (if (↑b0:Int)<S_ (IntKind.i64.wrap (b3+b2)) then (↑b0:Int) else S_ (IntKind.i64.wrap (b3+b2)))).toNat-b3.toNat)))<|
 gO (S_ (decide ((qi+1)*9<=549755813888)))<|
 r_2 b0 b1 b2 (S_ (IntKind.i64.wrap (b3+b2))) b4 b5 b6 b7 b8 b9 nn oZ (qi+1) (qR++ag (aX (cM (Go.Value.agg #[Go.Value.float .f32 0,Go.Value.float .f32 0])).cells 2) 0 [AV.aL .f32 (S_ (gK Ordering.lt ((fO (List.take (((S_ (if (↑b0:Int)<S_ (IntKind.i64.wrap (b3+b2)) then (↑b0:Int) else S_ (IntKind.i64.wrap (b3+b2)))).toNat-b3.toNat)*1) (List.drop (b3.toNat*1) b1))).getD 0 none) (fO (List.take (((S_ (if (↑b0:Int)<S_ (IntKind.i64.wrap (b3+b2)) then (↑b0:Int) else S_ (IntKind.i64.wrap (b3+b2)))).toNat-b3.toNat)*1) (List.drop (b3.toNat*1) b1))))),AV.aL .f32 (S_ (gK Ordering.gt ((fO (List.take (((S_ (if (↑b0:Int)<S_ (IntKind.i64.wrap (b3+b2)) then (↑b0:Int) else S_ (IntKind.i64.wrap (b3+b2)))).toNat-b3.toNat)*1) (List.drop (b3.toNat*1) b1))).getD 0 none) (fO (List.take (((S_ (if (↑b0:Int)<S_ (IntKind.i64.wrap (b3+b2)) then (↑b0:Int) else S_ (IntKind.i64.wrap (b3+b2)))).toNat-b3.toNat)*1) (List.drop (b3.toNat*1) b1)))))]))
 (
 gO (S_ (decide ((nn+1)*25<=549755813888)))<|
 cO (S_ ((↑qi:Int)==(1:Int)))
 (
 some ([aa.v (AV.agg [AV.int .i64 b9,AV.list (nn+1) (oZ++ag (aX (cM (Go.Value.slice none 0 0)).cells 1) 0 [AV.list qi qR])])]))
 (
 uB.1 b0 b1 (S_ (IntKind.i64.wrap ((2:Int)*b2))) b4 b5 b6 b7 b8 b9 (nn+1) (oZ++ag (aX (cM (Go.Value.slice none 0 0)).cells 1) 0 [AV.list qi qR]))))
 (fun _ _ _ _ _ _ _ _ _ _ _ _ _ _=>none) a0 a1 a2 ((0:Int)) a3 a4 a5 a6 a7 a8 a9 qQ 0 ([]))
 (
 some ([aa.v (AV.agg [AV.int .i64 a8,AV.list a9 qQ])]))),PUnit.unit))
 ((fun _ _ _ _ _ _ _ _ _ _ _=>none),PUnit.unit)).1 n cs b 0 ([]) ((0:Int)) 0 ([]) b 0 ([])):=by kernel_rfl
theorem XW (N:Nat) (b:Int) (m:Nat) (ls:List AV):(dA H8 cQ N 12).call (List aa) 26 [.s (.agg [.b (.int .i64 b),.b (.list m ls)])] [] (bp [false])=(
 (bg N (fun (uB:(Nat->List AV->Int->Int->Int->Nat->List AV->Nat->List AV->Int->Nat->List AV->Int->Nat->List AV->Option (List aa)) × PUnit.{1})=>(
 (fun a0 a1 a2 a3 a4 a5 a6 a7 a8 a9 qQ zV a12 Ey FG=>
 cO (S_ (decide (a3<a2)))
 (
 gO (S_ (decide ((0:Int)<=a3/\a3<(↑a0:Int)/\0<a1.length)))<|
 bO (cZ (a1.getD (a3.toNat*1) AV.top)) fun v3=>
 gO (S_ (decide (bu (2*v3.fst) v3.snd/\v3.fst<=100000)))<|
 gO (S_ (decide ((Ey+1)*25<=549755813888)))<|
 uB.1 a0 a1 a2 (S_ (IntKind.i64.wrap (a3+(1:Int)))) a4 a5 a6 a7 a8 a9 qQ zV a12 (Ey+1) (FG++ag (aX (cM (Go.Value.slice none 0 0)).cells 1) 0 [AV.list (S_ v3.fst) (S_ v3.snd)]))
 (
 some ([aa.v (AV.agg [AV.int .i64 a12,AV.list Ey FG])]))),PUnit.unit))
 ((fun _ _ _ _ _ _ _ _ _ _ _ _ _ _ _=>none),PUnit.unit)).1 m ls ((↑m:Int)) ((0:Int)) b m ls 0 ([]) ((0:Int)) 0 ([]) b 0 ([])):=by kernel_rfl
theorem XX (N:Nat) (b:Int) (m:Nat) (ls:List AV):(dA H8 cQ N 12).call (List aa) 28 [.s (.agg [.b (.int .i64 b),.b (.list m ls)])] [] (bp [false])=(
 (bg N (fun (uB:(Nat->List AV->Int->Int->Int->Nat->List AV->Nat->List AV->Int->Nat->List AV->Int->Nat->List AV->Option (List aa)) × PUnit.{1})=>(
 (fun a0 a1 a2 a3 a4 a5 a6 a7 a8 a9 qQ zV a12 Ey FG=>
 cO (S_ (decide (a3<a2)))
 (
 gO (S_ (decide ((0:Int)<=a3/\a3<(↑a0:Int)/\0<a1.length)))<|
 bO (cZ (a1.getD (a3.toNat*1) AV.top)) fun v3=>
 bg N (fun V' (b0:Nat) (b1:List AV) (b2 b3:Int) (b4:Nat) (b5:List AV) (b6 b7 b8:Int) (b9:Nat) (nn:List AV) (oZ:Nat) (qi:List AV) (qR:Int) (uC:Nat) (uD:List AV) (tP:Int) (tQ:Nat) (uE:List AV) (vg:Nat) (w8:List AV)=>
 cO (S_ (decide (b7<b6)))
 (
 gO (S_ (decide ((0:Int)<=b7/\b7<(↑b4:Int)/\0<b5.length)))<|
 gO (S_ (decide (b7.toNat*2+2<=b5.length)))<|
 bO (aq .f32 (b5.getD (b7.toNat*2) AV.top)) fun v8=>
 bO (aq .f32 (b5.getD (b7.toNat*2+1) AV.top)) fun v9=>
 gO (S_ (decide ((vg+1)*9<=549755813888)))<|
 V' b0 b1 b2 b3 b4 b5 b6 (S_ (IntKind.i64.wrap (b7+(1:Int)))) b8 b9 nn oZ qi qR uC uD tP tQ uE (vg+1) (w8++ag (aX (cM (Go.Value.agg #[Go.Value.float .f32 0,Go.Value.float .f32 0])).cells 2) 0 [AV.aL .f32 v8,AV.aL .f32 v9]))
 (
 gO (S_ (decide ((tQ+1)*25<=549755813888)))<|
 uB.1 b0 b1 b2 (S_ (IntKind.i64.wrap (b3+(1:Int)))) b8 b9 nn oZ qi qR uC uD tP (tQ+1) (uE++ag (aX (cM (Go.Value.slice none 0 0)).cells 1) 0 [AV.list vg w8])))
 (fun _ _ _ _ _ _ _ _ _ _ _ _ _ _ _ _ _ _ _ _ _=>none) a0 a1 a2 a3 (v3.fst) (v3.snd) ((↑v3.fst:Int)) ((0:Int)) a4 a5 a6 a7 a8 a9 qQ zV a12 Ey FG 0 ([]))
 (
 some ([aa.v (AV.agg [AV.int .i64 a12,AV.list Ey FG])]))),PUnit.unit))
 ((fun _ _ _ _ _ _ _ _ _ _ _ _ _ _ _=>none),PUnit.unit)).1 m ls ((↑m:Int)) ((0:Int)) b m ls 0 ([]) ((0:Int)) 0 ([]) b 0 ([])):=by kernel_rfl
theorem XV (N n:Nat) (cs:List AV) (b:Int):(dA H8 cQ N 12).call (List aa) 20 [.aT (.list n cs),.aT (.int .i64 b)] [] (bp [false,false])=(
 gO (S_ (decide (bu n cs)))<|
 gO (S_ (decide (jD 2 (ag (ag (aX (cM (Go.Value.int IntKind.i64 (0:Int))).cells 2) 0 [AV.int .i64 (S_ (aY n (fO cs)))]) 1 [AV.int .i64 (S_ (if b<(1:Int)\/b>(256:Int) then (3:Int) else (0:Int)))]))))<|
 cO (S_ (S_ (bR (aB (ag (ag (aX (cM (Go.Value.int IntKind.i64 (0:Int))).cells 2) 0 [AV.int .i64 (S_ (aY n (fO cs)))]) 1 [AV.int .i64 (S_ (if b<(1:Int)\/b>(256:Int) then (3:Int) else (0:Int)))]))) != (0:Int)))
 (
 some ([aa.v (AV.agg [AV.int .i64 (0:Int),AV.list 0 []]),aa.v (AV.int .i64 (S_ (bR (aB (ag (ag (aX (cM (Go.Value.int IntKind.i64 (0:Int))).cells 2) 0 [AV.int .i64 (S_ (aY n (fO cs)))]) 1 [AV.int .i64 (S_ (if b<(1:Int)\/b>(256:Int) then (3:Int) else (0:Int)))])))))]))
 (
 gO (S_ (decide (bu n cs/\n<=5000/\cG (fO cs)/\(1:Int)<=b/\b<=(100000:Int))))<|
 some ([aa.v (AV.agg [AV.int .i64 b,AV.list (S_ (aN (fO cs) b.toNat).length) (S_ (an (aN (fO cs) b.toNat)))]),aa.v (AV.int .i64 (0:Int))]))):=by kernel_rfl
theorem X3 (N n:Nat) (cs:List AV) (b:Int) (m:Nat) (ls:List AV):(dA H8 cQ N 12).call (List aa) 27 [.aT (.list n cs),.s (.agg [.b (.int .i64 b),.b (.list m ls)])] [] (bp [false])=(
 gO (S_ (decide (bu n cs)))<|
 gO (S_ (decide (jD 2 (ag (ag (aX (cM (Go.Value.int IntKind.i64 (0:Int))).cells 2) 0 [AV.int .i64 (S_ (aY n (fO cs)))]) 1 [AV.int .i64 (S_ (if b<(1:Int)\/b>(256:Int) then (3:Int) else (0:Int)))]))))<|
 cO (S_ (S_ (bR (aB (ag (ag (aX (cM (Go.Value.int IntKind.i64 (0:Int))).cells 2) 0 [AV.int .i64 (S_ (aY n (fO cs)))]) 1 [AV.int .i64 (S_ (if b<(1:Int)\/b>(256:Int) then (3:Int) else (0:Int)))]))) != (0:Int)))
 (
 some ([aa.v (AV.int .i64 (S_ (bR (aB (ag (ag (aX (cM (Go.Value.int IntKind.i64 (0:Int))).cells 2) 0 [AV.int .i64 (S_ (aY n (fO cs)))]) 1 [AV.int .i64 (S_ (if b<(1:Int)\/b>(256:Int) then (3:Int) else (0:Int)))])))))]))
 (
 gO (S_ (decide (bu n cs/\n<=5000/\cG (fO cs)/\(1:Int)<=b/\b<=(100000:Int))))<|
 cO (S_ ((↑m:Int) != (↑(S_ (aN (fO cs) b.toNat).length):Int)))
 (
 some ([aa.v (AV.int .i64 (2:Int))]))
 (
 bg N (fun Jz (a0:Nat) (a1:List AV) (a2:Nat) (a3:List AV) (a4 a5 a6:Int) (a7:Nat) (a8:List AV) (a9:Nat) (qQ:List AV)=>
 cO (S_ (decide (a5<a4)))
 (
 gO (S_ (decide ((0:Int)<=a5/\a5<(↑a2:Int)/\0<a3.length)))<|
 bO (cZ (a3.getD (a5.toNat*1) AV.top)) fun v8=>
 gO (S_ (decide ((0:Int)<=a5/\a5<(↑a7:Int)/\0<a8.length)))<|
 bO (cZ (a8.getD (a5.toNat*1) AV.top)) fun v10=>
 cO (S_ ((↑v10.fst:Int) != (↑v8.fst:Int)))
 (
 some ([aa.v (AV.int .i64 (2:Int))]))
 (
 Jz a0 a1 a2 a3 a4 (S_ (IntKind.i64.wrap (a5+(1:Int)))) a6 a7 a8 a9 qQ))
 (
 bg N (fun C3 (b0:Int) (b1:Nat) (b2:List AV) (b3 b4 b5:Int) (b6:Nat) (b7:List AV) (b8:Nat) (b9:List AV)=>
 cO (S_ (decide (b4<b3)))
 (
 gO (S_ (decide ((0:Int)<=b4/\b4<(↑b1:Int)/\0<b2.length)))<|
 bO (cZ (b2.getD (b4.toNat*1) AV.top)) fun v10=>
 bg N (fun Yi (c0 c1:Int) (c2:Nat) (c3:List AV) (c4 c5:Int) (c6:Nat) (c7:List AV) (c8 c9 GX:Int) (FF:Nat) (zW:List AV) (Ex:Nat) (Lv:List AV)=>
 cO (S_ (decide (c9<c8)))
 (
 gO (S_ (decide ((0:Int)<=c9/\c9<(↑c6:Int)/\0<c7.length)))<|
 gO (S_ (decide (c9.toNat*2+2<=c7.length)))<|
 bO (aq .f32 (c7.getD (c9.toNat*2) AV.top)) fun ve=>
 bO (aq .f32 (c7.getD (c9.toNat*2+1) AV.top)) fun C4=>
 gO (S_ (decide ((0:Int)<=c1/\c1<(↑FF:Int)/\0<zW.length)))<|
 bO (cZ (zW.getD (c1.toNat*1) AV.top)) fun yf=>
 gO (S_ (decide ((0:Int)<=c9/\c9<(↑yf.fst:Int)/\0<yf.snd.length)))<|
 gO (S_ (decide (c9.toNat*2+2<=yf.snd.length)))<|
 bO (aq .f32 (yf.snd.getD (c9.toNat*2) AV.top)) fun v21=>
 bO (aq .f32 (yf.snd.getD (c9.toNat*2+1) AV.top)) fun SI=>
 bO (
 cO (!S_ (aJ v21))
 (
 some true)
 (
 some (!S_ (aJ SI)))) fun H_=>
 cO H_
 (
 some ([aa.v (AV.int .i64 (1:Int))]))
 (
 gO (S_ (decide (jD 2 (ag (ag (aX (cM (Go.Value.int IntKind.i64 (0:Int))).cells 2) 0 [AV.int .i64 c0]) 1 [AV.int .i64 (S_ (if (S_ !(S_ (aM .f32 v21 ve==some .eq)&&(S_ (aM .f32 SI C4==some .eq)&&true)))=true then (21:Int) else (0:Int)))]))))<|
 Yi (S_ (bR (aB (ag (ag (aX (cM (Go.Value.int IntKind.i64 (0:Int))).cells 2) 0 [AV.int .i64 c0]) 1 [AV.int .i64 (S_ (if (S_ !(S_ (aM .f32 v21 ve==some .eq)&&(S_ (aM .f32 SI C4==some .eq)&&true)))=true then (21:Int) else (0:Int)))])))) c1 c2 c3 c4 c5 c6 c7 c8 (S_ (IntKind.i64.wrap (c9+(1:Int)))) GX FF zW Ex Lv))
 (
 C3 c0 c2 c3 c4 (S_ (IntKind.i64.wrap (c5+(1:Int)))) GX FF zW Ex Lv))
 (fun _ _ _ _ _ _ _ _ _ _ _ _ _ _ _=>none) b0 b4 b1 b2 b3 b4 (v10.fst) (v10.snd) ((↑v10.fst:Int)) ((0:Int)) b5 b6 b7 b8 b9)
 (
 some ([aa.v (AV.int .i64 b0)])))
 (fun _ _ _ _ _ _ _ _ _ _=>none) ((0:Int)) a0 a1 ((↑a0:Int)) ((0:Int)) a6 a7 a8 a9 qQ))
 (fun _ _ _ _ _ _ _ _ _ _ _=>none) (S_ (aN (fO cs) b.toNat).length) (S_ (an (aN (fO cs) b.toNat))) (S_ (aN (fO cs) b.toNat).length) (S_ (an (aN (fO cs) b.toNat))) ((↑(S_ (aN (fO cs) b.toNat).length):Int)) ((0:Int)) b m ls 2 (ag (ag (aX (cM (Go.Value.int IntKind.i64 (0:Int))).cells 2) 0 [AV.int .i64 (S_ (aY n (fO cs)))]) 1 [AV.int .i64 (S_ (if b<(1:Int)\/b>(256:Int) then (3:Int) else (0:Int)))])))):=by kernel_rfl
theorem XZ (N:Nat) (b:Int) (m:Nat) (ls:List AV) (c:Int) (q:Nat) (ks:List AV):(dA H8 cQ N 12).call (List aa) 25 [.s (.agg [.b (.int .i64 b),.b (.list m ls)]),.s (.agg [.b (.int .i64 c),.b (.list q ks)])] [] (bp [false])=(
 bO (
 cO (S_ (b != c))
 (
 some true)
 (
 some (S_ ((↑m:Int) != (↑q:Int))))) fun v0=>
 cO v0
 (
 some ([aa.v (AV.bool false)]))
 (
 bg N (fun r_2 (a0 a1:Int) (a2:Nat) (a3:List AV) (a4:Int) (a5:Nat) (a6:List AV)=>
 cO (S_ (decide (a0<(↑a2:Int))))
 (
 gO (S_ (decide ((0:Int)<=a0/\a0<(↑a2:Int)/\0<a3.length)))<|
 bO (cZ (a3.getD (a0.toNat*1) AV.top)) fun v5=>
 gO (S_ (decide ((0:Int)<=a0/\a0<(↑a5:Int)/\0<a6.length)))<|
 bO (cZ (a6.getD (a0.toNat*1) AV.top)) fun v7=>
 cO (S_ ((↑v5.fst:Int) != (↑v7.fst:Int)))
 (
 some ([aa.v (AV.bool false)]))
 (
 bg N (fun OM (b0:Nat) (b1:List AV) (b2:Nat) (b3:List AV) (b4 b5:Int) (b6:Nat) (b7:List AV) (b8:Int) (b9:Nat) (nn:List AV)=>
 cO (S_ (decide (b4<(↑b0:Int))))
 (
 gO (S_ (decide ((0:Int)<=b4/\b4<(↑b0:Int)/\0<b1.length)))<|
 gO (S_ (decide (b4.toNat*2+2<=b1.length)))<|
 bO (aq .f32 (b1.getD (b4.toNat*2) AV.top)) fun UP=>
 bO (aq .f32 (b1.getD (b4.toNat*2+1) AV.top)) fun tO=>
 gO (S_ (decide ((0:Int)<=b4/\b4<(↑b2:Int)/\0<b3.length)))<|
 gO (S_ (decide (b4.toNat*2+2<=b3.length)))<|
 bO (aq .f32 (b3.getD (b4.toNat*2) AV.top)) fun uF=>
 bO (aq .f32 (b3.getD (b4.toNat*2+1) AV.top)) fun yf=>
 cO (S_ !(S_ (aM .f32 UP uF==some .eq)&&(S_ (aM .f32 tO yf==some .eq)&&true)))
 (
 some ([aa.v (AV.bool false)]))
 (
 OM b0 b1 b2 b3 (S_ (IntKind.i64.wrap (b4+(1:Int)))) b5 b6 b7 b8 b9 nn))
 (
 r_2 (S_ (IntKind.i64.wrap (a0+(1:Int)))) b5 b6 b7 b8 b9 nn))
 (fun _ _ _ _ _ _ _ _ _ _ _=>none) (v5.fst) (v5.snd) (v7.fst) (v7.snd) ((0:Int)) a1 a2 a3 a4 a5 a6))
 (
 some ([aa.v (AV.bool true)])))
 (fun _ _ _ _ _ _ _=>none) ((0:Int)) b m ls c q ks)):=by kernel_rfl
theorem X0 (N:Nat) (b:Int) (m:Nat) (ls:List AV):(dA H8 cQ N 12).call (List aa) 18 [.s (.agg [.b (.int .i64 b),.b (.list m ls)])] [] (bp [false])=(
 cO (S_ (decide ((↑m:Int)>(12:Int))))
 (
 some ([aa.v (AV.bool false)]))
 (
 bg N (fun x_ (a0 a1:Int) (a2:Nat) (a3:List AV)=>
 cO (S_ (decide (a0<(↑a2:Int))))
 (
 gO (S_ (decide ((0:Int)<=a0/\a0<(↑a2:Int)/\0<a3.length)))<|
 bO (cZ (a3.getD (a0.toNat*1) AV.top)) fun v4=>
 cO (S_ (decide ((↑v4.fst:Int)>(80:Int))))
 (
 some ([aa.v (AV.bool false)]))
 (
 x_ (S_ (IntKind.i64.wrap (a0+(1:Int)))) a1 a2 a3))
 (
 some ([aa.v (AV.bool true)])))
 (fun _ _ _ _=>none) ((0:Int)) b m ls)):=by kernel_rfl
end Go.Abs
end
