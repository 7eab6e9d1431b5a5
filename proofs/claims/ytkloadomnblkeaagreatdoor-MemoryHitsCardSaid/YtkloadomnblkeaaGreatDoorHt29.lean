/- Part 29 of the library of the proof: an abstract run of the program. -/
import Derived.Test.YtkloadomnblkeaaGreatDoorHt20
import Derived.Test.YtkloadomnblkeaaGreatDoorHt28
set_option linter.unusedVariables false
set_option linter.unusedSimpArgs false

set_option maxRecDepth 100000
noncomputable section
namespace Go.Abs
open Go.Proofs Classical
theorem X1 (N n:Nat) (cs:List AV) (b:Int) (m:Nat) (ls:List AV):(dA mzM cQ N 12).call (List aa) 29 [.aT (.list n cs),.s (.agg [.b (.int .i64 b),.b (.list m ls)])] [] (bp [false])=(
 gO (S_ (decide (bu n cs)))<|
 cO (S_ (S_ (aY n (fO cs))==(0:Int)))
 (
 cO (S_ (S_ (if b<(1:Int)\/b>(256:Int) then (3:Int) else (0:Int)) != (0:Int)))
 (
 some ([aa.v (AV.int .i64 (S_ (if b<(1:Int)\/b>(256:Int) then (3:Int) else (0:Int))))]))
 (
 gO (S_ (decide (bu n cs/\n<=5000/\(1:Int)<=b/\b<=(10000:Int))))<|
 cO (S_ ((↑(S_ (eG (fO cs) b.toNat).length):Int) != (↑m:Int)))
 (
 some ([aa.v (AV.int .i64 (2:Int))]))
 (
 bg N (fun Jz (a0 a1:Int) (a2:Nat) (a3:List AV) (a4:Nat) (a5:List AV) (a6:Int) (a7:Nat) (a8:List AV)=>
 cO (S_ (decide (a0<(↑a7:Int))))
 (
 gO (S_ (decide ((0:Int)<=a0/\a0<(↑a7:Int)/\0<a8.length)))<|
 bO (cZ (a8.getD (a0.toNat*1) AV.top)) fun v8=>
 gO (S_ (decide ((0:Int)<=a0/\a0<(↑a2:Int)/\0<a3.length)))<|
 bO (cZ (a3.getD (a0.toNat*1) AV.top)) fun v10=>
 cO (S_ ((↑v8.fst:Int) != (↑v10.fst:Int)))
 (
 some ([aa.v (AV.int .i64 (2:Int))]))
 (
 Jz (S_ (IntKind.i64.wrap (a0+(1:Int)))) a1 a2 a3 a4 a5 a6 a7 a8))
 (
 bg N (fun C3 (b0 b1:Int) (b2:Nat) (b3:List AV) (b4:Nat) (b5:List AV) (b6:Int) (b7:Nat) (b8:List AV)=>
 cO (S_ (decide (b0<(↑b2:Int))))
 (
 bg N (fun OM (c0 c1 c2:Int) (c3:Nat) (c4:List AV) (c5:Nat) (c6:List AV) (c7:Int) (c8:Nat) (c9:List AV)=>
 gO (S_ (decide ((0:Int)<=c0/\c0<(↑c3:Int)/\0<c4.length)))<|
 bO (cZ (c4.getD (c0.toNat*1) AV.top)) fun v11=>
 cO (S_ (decide (c1<(↑v11.fst:Int))))
 (
 dy N (
 (fun (mL o3:Int) (km:Bool) (kn:Int) (ko:Nat) (kp:List AV) (kq:Nat) (ku:List AV) (kx:Int) (ky:Nat) (gw:List AV)=>
 cO km
 (
 some ([aa.v (AV.int .i64 (1:Int))]))
 (
 OM mL (S_ (IntKind.i64.wrap (o3+(1:Int)))) kn ko kp kq ku kx ky gw)),PUnit.unit) fun rq=>
 gO (S_ (decide ((0:Int)<=c0/\c0<(↑c3:Int)/\0<c4.length)))<|
 bO (cZ (c4.getD (c0.toNat*1) AV.top)) fun ve=>
 gO (S_ (decide ((0:Int)<=c1/\c1<(↑ve.fst:Int)/\0<ve.snd.length)))<|
 bO (aq .f32 (ve.snd.getD (c1.toNat*2+0) AV.top)) fun uF=>
 bO (
 cO (!S_ (aJ uF))
 (
 some true)
 (
 gO (S_ (decide ((0:Int)<=c0/\c0<(↑c3:Int)/\0<c4.length)))<|
 bO (cZ (c4.getD (c0.toNat*1) AV.top)) fun v21=>
 gO (S_ (decide ((0:Int)<=c1/\c1<(↑v21.fst:Int)/\0<v21.snd.length)))<|
 bO (aq .f32 (v21.snd.getD (c1.toNat*2+1) AV.top)) fun H_=>
 some (!S_ (aJ H_)))) fun yf=>
 rq.1 c0 c1 yf c2 c3 c4 c5 c6 c7 c8 c9)
 (
 C3 (S_ (IntKind.i64.wrap (c0+(1:Int)))) c2 c3 c4 c5 c6 c7 c8 c9))
 (fun _ _ _ _ _ _ _ _ _ _=>none) b0 ((0:Int)) b1 b2 b3 b4 b5 b6 b7 b8)
 (
 gO (S_ (decide (qd b7 b8/\qd b2 b3)))<|
 cO (!S_ (decide (b6=b1)&&decide (b7=b2)&&wZ b7 b8 b3))
 (
 some ([aa.v (AV.int .i64 (21:Int))]))
 (
 some ([aa.v (AV.int .i64 (0:Int))]))))
 (fun _ _ _ _ _ _ _ _ _=>none) ((0:Int)) a1 a2 a3 a4 a5 a6 a7 a8))
 (fun _ _ _ _ _ _ _ _ _=>none) ((0:Int)) b m ls 0 ([]) (S_ b) (S_ (eG (fO cs) b.toNat).length) (S_ (an (eG (fO cs) b.toNat))))))
 (
 cO (S_ (S_ (aY n (fO cs)) != (0:Int)))
 (
 some ([aa.v (AV.int .i64 (S_ (aY n (fO cs))))]))
 (
 gO (S_ (decide (bu n cs/\n<=5000/\(1:Int)<=b/\b<=(10000:Int))))<|
 cO (S_ ((↑(S_ (eG (fO cs) b.toNat).length):Int) != (↑m:Int)))
 (
 some ([aa.v (AV.int .i64 (2:Int))]))
 (
 bg N (fun Jz (a0 a1:Int) (a2:Nat) (a3:List AV) (a4:Nat) (a5:List AV) (a6:Int) (a7:Nat) (a8:List AV)=>
 cO (S_ (decide (a0<(↑a7:Int))))
 (
 gO (S_ (decide ((0:Int)<=a0/\a0<(↑a7:Int)/\0<a8.length)))<|
 bO (cZ (a8.getD (a0.toNat*1) AV.top)) fun v8=>
 gO (S_ (decide ((0:Int)<=a0/\a0<(↑a2:Int)/\0<a3.length)))<|
 bO (cZ (a3.getD (a0.toNat*1) AV.top)) fun v10=>
 cO (S_ ((↑v8.fst:Int) != (↑v10.fst:Int)))
 (
 some ([aa.v (AV.int .i64 (2:Int))]))
 (
 Jz (S_ (IntKind.i64.wrap (a0+(1:Int)))) a1 a2 a3 a4 a5 a6 a7 a8))
 (
 bg N (fun C3 (b0 b1:Int) (b2:Nat) (b3:List AV) (b4:Nat) (b5:List AV) (b6:Int) (b7:Nat) (b8:List AV)=>
 cO (S_ (decide (b0<(↑b2:Int))))
 (
 bg N (fun OM (c0 c1 c2:Int) (c3:Nat) (c4:List AV) (c5:Nat) (c6:List AV) (c7:Int) (c8:Nat) (c9:List AV)=>
 gO (S_ (decide ((0:Int)<=c0/\c0<(↑c3:Int)/\0<c4.length)))<|
 bO (cZ (c4.getD (c0.toNat*1) AV.top)) fun v11=>
 cO (S_ (decide (c1<(↑v11.fst:Int))))
 (
 dy N (
 (fun (mL o3:Int) (km:Bool) (kn:Int) (ko:Nat) (kp:List AV) (kq:Nat) (ku:List AV) (kx:Int) (ky:Nat) (gw:List AV)=>
 cO km
 (
 some ([aa.v (AV.int .i64 (1:Int))]))
 (
 OM mL (S_ (IntKind.i64.wrap (o3+(1:Int)))) kn ko kp kq ku kx ky gw)),PUnit.unit) fun rq=>
 gO (S_ (decide ((0:Int)<=c0/\c0<(↑c3:Int)/\0<c4.length)))<|
 bO (cZ (c4.getD (c0.toNat*1) AV.top)) fun ve=>
 gO (S_ (decide ((0:Int)<=c1/\c1<(↑ve.fst:Int)/\0<ve.snd.length)))<|
 bO (aq .f32 (ve.snd.getD (c1.toNat*2+0) AV.top)) fun uF=>
 bO (
 cO (!S_ (aJ uF))
 (
 some true)
 (
 gO (S_ (decide ((0:Int)<=c0/\c0<(↑c3:Int)/\0<c4.length)))<|
 bO (cZ (c4.getD (c0.toNat*1) AV.top)) fun v21=>
 gO (S_ (decide ((0:Int)<=c1/\c1<(↑v21.fst:Int)/\0<v21.snd.length)))<|
 bO (aq .f32 (v21.snd.getD (c1.toNat*2+1) AV.top)) fun H_=>
 some (!S_ (aJ H_)))) fun yf=>
 rq.1 c0 c1 yf c2 c3 c4 c5 c6 c7 c8 c9)
 (
 C3 (S_ (IntKind.i64.wrap (c0+(1:Int)))) c2 c3 c4 c5 c6 c7 c8 c9))
 (fun _ _ _ _ _ _ _ _ _ _=>none) b0 ((0:Int)) b1 b2 b3 b4 b5 b6 b7 b8)
 (
 gO (S_ (decide (qd b7 b8/\qd b2 b3)))<|
 cO (!S_ (decide (b6=b1)&&decide (b7=b2)&&wZ b7 b8 b3))
 (
 some ([aa.v (AV.int .i64 (21:Int))]))
 (
 some ([aa.v (AV.int .i64 (0:Int))]))))
 (fun _ _ _ _ _ _ _ _ _=>none) ((0:Int)) a1 a2 a3 a4 a5 a6 a7 a8))
 (fun _ _ _ _ _ _ _ _ _=>none) ((0:Int)) b m ls 0 ([]) (S_ b) (S_ (eG (fO cs) b.toNat).length) (S_ (an (eG (fO cs) b.toNat))))))):=by kernel_rfl
end Go.Abs
end
