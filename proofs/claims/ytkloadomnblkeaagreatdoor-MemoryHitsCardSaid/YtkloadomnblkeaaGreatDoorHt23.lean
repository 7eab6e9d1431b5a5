/- Part 23 of the library of the proof: an abstract run of the program. -/
import Derived.Test.YtkloadomnblkeaaGreatDoorHt14
set_option linter.unusedVariables false
set_option linter.unusedSimpArgs false

set_option maxRecDepth 100000
noncomputable section
namespace Go.Abs
open Go.Proofs Classical
theorem XL (N n:Nat) (cs:List AV) (o:Option Nat):(dA FE aK N 12).call (List aa) 53 [.aT (.list n cs),.aT (.aL .f32 o)] [] (bp [false,false])=(
 gO (S_ (decide (bu n cs)))<|
 gO (S_ (decide (jD 2 (ag (ag (aX (cM (Go.Value.int IntKind.i64 (0:Int))).cells 2) 0 [AV.int .i64 (S_ (aY n (fO cs)))]) 1 [AV.int .i64 (S_ (if (!S_ (aJ o))=true then (1:Int) else (0:Int)))]))))<|
 cO (S_ (S_ (bR (aB (ag (ag (aX (cM (Go.Value.int IntKind.i64 (0:Int))).cells 2) 0 [AV.int .i64 (S_ (aY n (fO cs)))]) 1 [AV.int .i64 (S_ (if (!S_ (aJ o))=true then (1:Int) else (0:Int)))]))) != (0:Int)))
 (
 some ([aa.v (AV.agg [AV.int .i64 (0:Int),AV.int .i64 (0:Int)]),aa.v (AV.int .i64 (S_ (bR (aB (ag (ag (aX (cM (Go.Value.int IntKind.i64 (0:Int))).cells 2) 0 [AV.int .i64 (S_ (aY n (fO cs)))]) 1 [AV.int .i64 (S_ (if (!S_ (aJ o))=true then (1:Int) else (0:Int)))])))))]))
 (
 bg N (fun Qv (a0:Option Nat) (a1:Int) (a2:Nat) (a3:List AV) (a4 a5 a6 a7:Int) (a8:Nat) (a9:List AV) (qQ zV:Int)=>
 cO (S_ (decide (a5<a4)))
 (
 gO (S_ (decide ((0:Int)<=a5/\a5<(↑a2:Int)/\0<a3.length)))<|
 bO (aq .f32 (a3.getD (a5.toNat*1) AV.top)) fun v6=>
 cO (S_ (aM .f32 v6 a0==some .lt))
 (
 Qv a0 (S_ (IntKind.i64.wrap (a5+(1:Int)))) a2 a3 a4 (S_ (IntKind.i64.wrap (a5+(1:Int)))) a6 a7 a8 a9 qQ zV)
 (
 gO (S_ (decide ((0:Int)<=(1:Int)/\(1:Int)<(↑2:Int))))<|
 gO (S_ (decide ((0:Int)<=(0:Int)/\(0:Int)<(↑2:Int))))<|
 cO (S_ (decide (S_ (IntKind.i64.wrap (S_ (IntKind.i64.wrap (a5+(1:Int)))-a1))>S_ (IntKind.i64.wrap (zV-qQ)))))
 (
 Qv a0 a1 a2 a3 a4 (S_ (IntKind.i64.wrap (a5+(1:Int)))) a6 a7 a8 a9 a1 (S_ (IntKind.i64.wrap (a5+(1:Int)))))
 (
 Qv a0 a1 a2 a3 a4 (S_ (IntKind.i64.wrap (a5+(1:Int)))) a6 a7 a8 a9 qQ zV)))
 (
 gO (S_ (decide ((0:Int)<=(0:Int)/\(0:Int)<(↑2:Int))))<|
 gO (S_ (decide ((0:Int)<=(1:Int)/\(1:Int)<(↑2:Int))))<|
 some ([aa.v (AV.agg [AV.int .i64 qQ,AV.int .i64 zV]),aa.v (AV.int .i64 (S_ (if S_ (qQ==zV)=true then (7:Int) else (0:Int))))])))
 (fun _ _ _ _ _ _ _ _ _ _ _ _=>none) o ((0:Int)) n cs ((↑n:Int)) ((0:Int)) ((0:Int)) ((0:Int)) 2 (ag (ag (aX (cM (Go.Value.int IntKind.i64 (0:Int))).cells 2) 0 [AV.int .i64 (S_ (aY n (fO cs)))]) 1 [AV.int .i64 (S_ (if (!S_ (aJ o))=true then (1:Int) else (0:Int)))]) ((0:Int)) ((0:Int)))):=by kernel_rfl
theorem XN (N n:Nat) (cs:List AV) (m:Nat) (ds:List AV):(dA FE aK N 12).call (List aa) 54 [.aT (.list n cs),.aT (.list m ds)] [] (bp [true,false])=(
 gO (S_ (decide (bu n cs)))<|
 gO (S_ (decide (jD 3 (ag (ag (ag (aX (cM (Go.Value.int IntKind.i64 (0:Int))).cells 3) 0 [AV.int .i64 (S_ (aY n (fO cs)))]) 1 [AV.int .i64 (S_ (if S_ ((↑m:Int)==(0:Int))=true then (12:Int) else (0:Int)))]) 2 [AV.int .i64 (S_ (if S_ (decide ((↑m:Int)>(64:Int)))=true then (5:Int) else (0:Int)))]))))<|
 cO (S_ (S_ (bR (aB (ag (ag (ag (aX (cM (Go.Value.int IntKind.i64 (0:Int))).cells 3) 0 [AV.int .i64 (S_ (aY n (fO cs)))]) 1 [AV.int .i64 (S_ (if S_ ((↑m:Int)==(0:Int))=true then (12:Int) else (0:Int)))]) 2 [AV.int .i64 (S_ (if S_ (decide ((↑m:Int)>(64:Int)))=true then (5:Int) else (0:Int)))]))) != (0:Int)))
 (
 some ([aa.fz 0 [],aa.v (AV.int .i64 (S_ (bR (aB (ag (ag (ag (aX (cM (Go.Value.int IntKind.i64 (0:Int))).cells 3) 0 [AV.int .i64 (S_ (aY n (fO cs)))]) 1 [AV.int .i64 (S_ (if S_ ((↑m:Int)==(0:Int))=true then (12:Int) else (0:Int)))]) 2 [AV.int .i64 (S_ (if S_ (decide ((↑m:Int)>(64:Int)))=true then (5:Int) else (0:Int)))])))))]))
 (
 bg N (fun Qv (a0:Nat) (a1:List AV) (a2:Nat) (a3:List AV) (a4:Nat) (a5:List AV) (a6 a7:Int) (a8:Nat) (a9:List AV) (qQ:Nat) (zV:List AV)=>
 cO (S_ (decide (a7<a6)))
 (
 gO (S_ (decide ((0:Int)<=a7/\a7<(↑a4:Int)/\0<a5.length)))<|
 bO (aq .f32 (a5.getD (a7.toNat*1) AV.top)) fun v6=>
 bO (
 cO (S_ (decide (a7>(0:Int))))
 (
 gO (S_ (decide ((0:Int)<=S_ (if S_ (IntKind.i64.wrap (a7-(1:Int)))>(0:Int) then S_ (IntKind.i64.wrap (a7-(1:Int))) else (0:Int))/\S_ (if S_ (IntKind.i64.wrap (a7-(1:Int)))>(0:Int) then S_ (IntKind.i64.wrap (a7-(1:Int))) else (0:Int))<(↑a2:Int)/\0<a3.length)))<|
 bO (aq .f32 (a3.getD ((S_ (if S_ (IntKind.i64.wrap (a7-(1:Int)))>(0:Int) then S_ (IntKind.i64.wrap (a7-(1:Int))) else (0:Int))).toNat*1) AV.top)) fun v10=>
 some (S_ (aM .f32 v6 v10==some .lt||aM .f32 v6 v10==some .eq)))
 (
 some false)) fun v7=>
 gO (S_ (decide (jD 2 (ag (ag (aX (cM (Go.Value.int IntKind.i64 (0:Int))).cells 2) 0 [AV.int .i64 (S_ (if (!S_ (aJ v6))=true then (1:Int) else (0:Int)))]) 1 [AV.int .i64 (S_ (if v7=true then (11:Int) else (0:Int)))]))))<|
 cO (S_ (S_ (bR (aB (ag (ag (aX (cM (Go.Value.int IntKind.i64 (0:Int))).cells 2) 0 [AV.int .i64 (S_ (if (!S_ (aJ v6))=true then (1:Int) else (0:Int)))]) 1 [AV.int .i64 (S_ (if v7=true then (11:Int) else (0:Int)))]))) != (0:Int)))
 (
 some ([aa.fz 0 [],aa.v (AV.int .i64 (S_ (bR (aB (ag (ag (aX (cM (Go.Value.int IntKind.i64 (0:Int))).cells 2) 0 [AV.int .i64 (S_ (if (!S_ (aJ v6))=true then (1:Int) else (0:Int)))]) 1 [AV.int .i64 (S_ (if v7=true then (11:Int) else (0:Int)))])))))]))
 (
 Qv a0 a1 a2 a3 a4 a5 a6 (S_ (IntKind.i64.wrap (a7+(1:Int)))) a8 a9 qQ zV))
 (
 gO (S_ (decide ((0:Int)<=S_ (IntKind.i64.wrap ((↑a2:Int)+(1:Int)))/\S_ (IntKind.i64.wrap ((↑a2:Int)+(1:Int)))<=S_ (IntKind.i64.wrap ((↑a2:Int)+(1:Int)))/\S_ (IntKind.i64.wrap ((↑a2:Int)+(1:Int)))<=(281474976710656:Int)/\(↑8:Int)*S_ (IntKind.i64.wrap ((↑a2:Int)+(1:Int)))<=(281474976710656:Int))))<|
 bg N (fun r_6 (b0:Nat) (b1:List AV) (b2:Nat) (b3:List AV) (b4 b5:Int) (b6:Nat) (b7:List AV) (b8:Nat) (b9:List AV) (nn:Nat) (oZ:List AV)=>
 cO (S_ (decide (b5<b4)))
 (
 gO (S_ (decide ((0:Int)<=b5/\b5<(↑b2:Int)/\0<b3.length)))<|
 bO (aq .f32 (b3.getD (b5.toNat*1) AV.top)) fun v9=>
 bg N (fun afh (c0:Nat) (c1:List AV) (c2:Option Nat) (c3:Int) (c4:Nat) (c5:List AV) (c6 c7:Int) (c8:Nat) (c9:List AV) (GX:Nat) (FF:List AV) (zW:Nat) (Ex:List AV)=>
 bO (
 cO (S_ (decide (c3<(↑c0:Int))))
 (
 gO (S_ (decide ((0:Int)<=c3/\c3<(↑c0:Int)/\0<c1.length)))<|
 bO (aq .f32 (c1.getD (c3.toNat*1) AV.top)) fun tO=>
 some (S_ (aM .f32 c2 tO==some .gt||aM .f32 c2 tO==some .eq)))
 (
 some false)) fun v11=>
 cO v11
 (
 afh c0 c1 c2 (S_ (IntKind.i64.wrap (c3+(1:Int)))) c4 c5 c6 c7 c8 c9 GX FF zW Ex)
 (
 gO (S_ (decide ((0:Int)<=c3/\c3<(↑zW:Int))))<|
 gO (S_ !(false&&zW.beq (0:Nat)))<|
 bO (asInt IntKind.i64 (Ex.getD (c3.toNat*1) AV.top)) fun ve=>
 gO (S_ (decide ((0:Int)<=c3/\c3<(↑zW:Int))))<|
 gO (S_ !(false&&zW.beq (0:Nat)))<|
 gO (S_ (decide (c3.toNat*1+1<=Ex.length)))<|
 r_6 c0 c1 c4 c5 c6 (S_ (IntKind.i64.wrap (c7+(1:Int)))) c8 c9 GX FF zW (ag Ex (c3.toNat*1) [AV.int .i64 (S_ (IntKind.i64.wrap (ve+(1:Int))))])))
 (fun _ _ _ _ _ _ _ _ _ _ _ _ _ _=>none) b0 b1 v9 ((0:Int)) b2 b3 b4 b5 b6 b7 b8 b9 nn oZ)
 (
 some ([aa.fz nn oZ,aa.v (AV.int .i64 (0:Int))])))
 (fun _ _ _ _ _ _ _ _ _ _ _ _=>none) a2 a3 a0 a1 ((↑a0:Int)) ((0:Int)) a8 a9 qQ zV ((S_ (IntKind.i64.wrap ((↑a2:Int)+(1:Int)))).toNat) (aX (cM (Go.Value.int IntKind.i64 (0:Int))).cells ((S_ (IntKind.i64.wrap ((↑a2:Int)+(1:Int)))).toNat*1))))
 (fun _ _ _ _ _ _ _ _ _ _ _ _=>none) n cs m ds m ds ((↑m:Int)) ((0:Int)) 0 ([]) 3 (ag (ag (ag (aX (cM (Go.Value.int IntKind.i64 (0:Int))).cells 3) 0 [AV.int .i64 (S_ (aY n (fO cs)))]) 1 [AV.int .i64 (S_ (if S_ ((↑m:Int)==(0:Int))=true then (12:Int) else (0:Int)))]) 2 [AV.int .i64 (S_ (if S_ (decide ((↑m:Int)>(64:Int)))=true then (5:Int) else (0:Int)))]))):=by kernel_rfl
theorem XP (N n:Nat) (cs:List AV):(dA FE aK N 12).call (List aa) 38 [.aT (.list n cs)] [] (bp [false])=(
 gO (S_ (decide ((0:Int)<=(0:Int)/\(0:Int)<(↑n:Int)/\0<cs.length)))<|
 bO (aq .f32 (cs.getD 0 AV.top)) fun v1=>
 gO (S_ (decide ((0:Int)<=(0:Int)/\(0:Int)<(↑n:Int)/\0<cs.length)))<|
 bO (aq .f32 (cs.getD 0 AV.top)) fun v3=>
 bg N (fun V' (a0:Nat) (a1:List AV) (a2:Int) (a3 a4 a5 a6:Option Nat)=>
 cO (S_ (decide (a2<(↑a0:Int))))
 (
 gO (S_ (decide ((0:Int)<=a2/\a2<(↑a0:Int)/\0<a1.length)))<|
 bO (aq .f32 (a1.getD (a2.toNat*1) AV.top)) fun v7=>
 cO (S_ (aM .f32 v7 a5==some .lt))
 (
 gO (S_ (decide ((0:Int)<=a2/\a2<(↑a0:Int)/\0<a1.length)))<|
 bO (aq .f32 (a1.getD (a2.toNat*1) AV.top)) fun v10=>
 gO (S_ (decide ((0:Int)<=a2/\a2<(↑a0:Int)/\0<a1.length)))<|
 bO (aq .f32 (a1.getD (a2.toNat*1) AV.top)) fun v12=>
 cO (S_ (aM .f32 v12 a6==some .gt))
 (
 gO (S_ (decide ((0:Int)<=a2/\a2<(↑a0:Int)/\0<a1.length)))<|
 bO (aq .f32 (a1.getD (a2.toNat*1) AV.top)) fun ve=>
 V' a0 a1 (S_ (IntKind.i64.wrap (a2+(1:Int)))) a3 a4 v10 ve)
 (
 V' a0 a1 (S_ (IntKind.i64.wrap (a2+(1:Int)))) a3 a4 v10 a6))
 (
 gO (S_ (decide ((0:Int)<=a2/\a2<(↑a0:Int)/\0<a1.length)))<|
 bO (aq .f32 (a1.getD (a2.toNat*1) AV.top)) fun v10=>
 cO (S_ (aM .f32 v10 a6==some .gt))
 (
 gO (S_ (decide ((0:Int)<=a2/\a2<(↑a0:Int)/\0<a1.length)))<|
 bO (aq .f32 (a1.getD (a2.toNat*1) AV.top)) fun UP=>
 V' a0 a1 (S_ (IntKind.i64.wrap (a2+(1:Int)))) a3 a4 a5 UP)
 (
 V' a0 a1 (S_ (IntKind.i64.wrap (a2+(1:Int)))) a3 a4 a5 a6)))
 (
 some ([aa.v (AV.agg [AV.aL .f32 a5,AV.aL .f32 a6])])))
 (fun _ _ _ _ _ _ _=>none) n cs ((0:Int)) (some 0) (some 0) v1 v3):=by kernel_rfl
end Go.Abs
end
