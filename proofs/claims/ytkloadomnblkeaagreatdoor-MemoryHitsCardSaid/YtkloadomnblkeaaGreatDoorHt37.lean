/- Part 37 of the library of the proof: an abstract run of the program. -/
import Derived.Test.YtkloadomnblkeaaGreatDoorHt34
import Derived.Test.YtkloadomnblkeaaGreatDoorHt36
set_option linter.unusedVariables false
set_option linter.unusedSimpArgs false

set_option maxRecDepth 100000
noncomputable section
namespace Go.Abs
open Go.Proofs Classical
theorem X4 (N n:Nat) (cs:List AV) (b:Int) (m:Nat) (ls:List AV) (f:Int) (o:Option Nat):(dA Lp nP N 12).call (List aa) 45 [.aT (.list n cs),.s (.agg [.b (.int .i64 b),.b (.list m ls)]),.aT (.int .i64 f),.aT (.aL .f32 o)] [] (bp [false,false])=(
 gO (S_ (decide (bu n cs/\qd m ls)))<|
 gO (S_ (decide (jD 3 (ag (ag (ag (aX (cM (Go.Value.int IntKind.i64 (0:Int))).cells 3) 0 [AV.int .i64 (S_ (iK n (fO cs) b m ls))]) 1 [AV.int .i64 (S_ (if f<(0:Int)\/f>(↑n:Int) then (3:Int) else (0:Int)))]) 2 [AV.int .i64 (S_ (if (!S_ (aJ o))=true then (1:Int) else (0:Int)))]))))<|
 cO (S_ (S_ (bR (aB (ag (ag (ag (aX (cM (Go.Value.int IntKind.i64 (0:Int))).cells 3) 0 [AV.int .i64 (S_ (iK n (fO cs) b m ls))]) 1 [AV.int .i64 (S_ (if f<(0:Int)\/f>(↑n:Int) then (3:Int) else (0:Int)))]) 2 [AV.int .i64 (S_ (if (!S_ (aJ o))=true then (1:Int) else (0:Int)))]))) != (0:Int)))
 (
 some ([aa.v (AV.int .i64 (0:Int)),aa.v (AV.int .i64 (S_ (bR (aB (ag (ag (ag (aX (cM (Go.Value.int IntKind.i64 (0:Int))).cells 3) 0 [AV.int .i64 (S_ (iK n (fO cs) b m ls))]) 1 [AV.int .i64 (S_ (if f<(0:Int)\/f>(↑n:Int) then (3:Int) else (0:Int)))]) 2 [AV.int .i64 (S_ (if (!S_ (aJ o))=true then (1:Int) else (0:Int)))])))))]))
 (
 bg N (fun Qv (a0:Nat) (a1:List AV) (a2 a3:Int) (a4:Nat) (a5:List AV) (a6:Int) (a7:Nat) (a8:List AV) (a9:Option Nat) (qQ:Int) (zV:Nat) (a12:List AV) (Ey:Nat) (FG:List AV) (NB:Int) (Qw:Nat) (GY:List AV) (xN:Nat) (xO:List AV) (a20:Int) (a21:List (AV × AV × Nat)) (sU tR:Nat) (a24:List AV) (sV:Nat) (w9:List AV) (uG:Int)=>
 cO (S_ (decide (a3<a2)))
 (
 gO (S_ (decide ((0:Int)<=a3/\a3<(↑a0:Int)/\0<a1.length)))<|
 bO (cZ (a1.getD (a3.toNat*1) AV.top)) fun v6=>
 bg N (fun C3 (b0:Int) (b1:Nat) (b2:List AV) (b3 b4:Int) (b5:Nat) (b6:List AV) (b7 b8:Int) (b9:Nat) (nn:List AV) (oZ:Int) (qi:Nat) (qR:List AV) (uC:Option Nat) (uD:Int) (tP:Nat) (tQ:List AV) (uE:Nat) (vg:List AV) (w8:Int) (zX:Nat) (zY:List AV) (vh:Nat) (zZ:List AV) (w_:Int) (yg:List (AV × AV × Nat)) (xP z6:Nat) (C5:List AV) (m4:Nat) (mb:List AV) (o4:Int)=>
 cO (S_ (decide (b8<b7)))
 (
 gO (S_ (decide ((0:Int)<=b8/\b8<(↑b5:Int)/\0<b6.length)))<|
 gO (S_ (decide (b8.toNat*2+2<=b6.length)))<|
 bO (aq .f32 (b6.getD (b8.toNat*2) AV.top)) fun v11=>
 bO (aq .f32 (b6.getD (b8.toNat*2+1) AV.top)) fun v12=>
 gO (S_ (decide (aJ (S_ (az v11))=true/\aJ (S_ (az v11))=true/\aJ (S_ (az v12))=true/\aJ (S_ (az v12))=true)))<|
 bO (GW Tryz.prog 130 (AV.agg [AV.int .i64 b0,AV.int .i64 b8]) (AV.agg [AV.aL .f32 (S_ (gJ (S_ (az v11)) (S_ (az v12)))),AV.aL .f32 (S_ (gV (S_ (az v11)) (S_ (az v12))))]) yg xP) fun tO=>
 C3 b0 b1 b2 b3 b4 b5 b6 b7 (S_ (IntKind.i64.wrap (b8+(1:Int)))) b9 nn oZ qi qR uC uD tP tQ uE vg w8 zX zY vh zZ w_ (tO.fst) (tO.snd) z6 C5 m4 mb o4)
 (
 Qv b1 b2 b3 (S_ (IntKind.i64.wrap (b4+(1:Int)))) b9 nn oZ qi qR uC uD tP tQ uE vg w8 zX zY vh zZ w_ yg xP z6 C5 m4 mb o4))
 (fun _ _ _ _ _ _ _ _ _ _ _ _ _ _ _ _ _ _ _ _ _ _ _ _ _ _ _ _ _ _ _ _ _=>none) a3 a0 a1 a2 a3 (v6.fst) (v6.snd) ((↑v6.fst:Int)) ((0:Int)) a4 a5 a6 a7 a8 a9 qQ zV a12 Ey FG NB Qw GY xN xO a20 a21 sU tR a24 sV w9 uG)
 (
 bg N (fun Jz (c0:Int) (c1:Nat) (c2:List AV) (c3:Int) (c4:Nat) (c5:List AV) (c6:Option Nat) (c7:Int) (c8:Nat) (c9:List AV) (GX:Nat) (FF:List AV) (zW:Int) (Ex:Nat) (Lv:List AV) (Qx:Nat) (Qy:List AV) (Qz:Nat) (QA:List AV) (NC:Int) (QB:List (AV × AV × Nat)) (QC QD:Nat) (QE:List AV) (QF:Nat) (QG:List AV) (QH:Int) (QI:Nat) (QJ:List AV) (QK GZ z8 z_ Ez ND:Int)=>
 cO (S_ (decide (c0<ND)))
 (
 bg N (fun C3 (b0 b1 b2 b3:Int) (b4:Nat) (b5:List AV) (b6:Int) (b7:Nat) (b8:List AV) (b9:Option Nat) (nn:Int) (oZ:Nat) (qi:List AV) (qR:Nat) (uC:List AV) (uD:Int) (tP:Nat) (tQ:List AV) (uE:Nat) (vg:List AV) (w8:Nat) (zX:List AV) (zY:Int) (vh:List (AV × AV × Nat)) (zZ w_:Nat) (yg:List AV) (xP:Nat) (z6:List AV) (C5:Int) (m4:Nat) (mb:List AV) (o4 JA Ib mM Lw Ic xQ xR:Int)=>
 gO (S_ (decide (b3≠(0:Int))))<|
 bO (
 cO (S_ (S_ (b0.tmod b3)==(0:Int)))
 (
 some (S_ (decide (S_ (if S_ (IntKind.i64.wrap (b0+b3))<mM then S_ (IntKind.i64.wrap (b0+b3)) else mM)<=Ic))))
 (
 some false)) fun v9=>
 cO v9
 (
 gO (S_ (decide (b3≠(0:Int))))<|
 cO (S_ (decide (b3>=mM)))
 (
 dy N (
 (fun (mL:Int) (o3:Bool) (km:Nat) (kn:List AV) (ko:Int) (kp:Nat) (kq:List AV) (ku:Option Nat) (kx:Int) (ky:Nat) (gw:List AV) (kz:Nat) (kA:List AV) (kB:Int) (kC:Nat) (kD:List AV) (kE:Nat) (kF:List AV) (kG:Nat) (kH:List AV) (kI:Int) (kJ:List (AV × AV × Nat)) (kK kL:Nat) (kM:List AV) (kN:Nat) (kO:List AV) (kP:Int) (kQ:Nat) (kR:List AV) (iL kS kT kU kV kW np nq gx iM:Int)=>
 cO o3
 (
 Jz (S_ (if S_ (IntKind.i64.wrap (b0+b3))<mM then S_ (IntKind.i64.wrap (b0+b3)) else mM)) km kn ko kp kq ku kx ky gw kz kA kB kC kD kE kF kG kH kI kJ kK kL kM kN kO kP kQ kR iL kS kT kU kV kW)
 (
 dy N (
 (fun (C6 G0:Int) (Aa:Nat) (Ab:List AV) (Ac:Int) (Ad:Nat) (Ae:List AV) (Af:Option Nat) (Ag:Int) (Ah:Nat) (rr:List AV) (ry:Nat) (rz:List AV) (rA:Int) (rB:Nat) (rC:List AV) (rD:Nat) (rE:List AV) (rF:Nat) (rG:List AV) (rH:Int) (rI:List (AV × AV × Nat)) (rJ rK:Nat) (rL:List AV) (rM:Nat) (rN:List AV) (rO:Int) (rP:Nat) (rQ:List AV) (rR rS rT rU rV rW rX rY rZ r4:Int)=>
 bg N (fun JB (d0 d1:Int) (d2:Nat) (d3:List AV) (d4:Int) (d5:Nat) (d6:List AV) (d7:Option Nat) (d8:Int) (d9:Nat) (d10:List AV) (d11:Nat) (d12:List AV) (d13:Int) (d14:Nat) (d15:List AV) (d16:Nat) (d17:List AV) (d18:Nat) (d19:List AV) (d20:Int) (d21:List (AV × AV × Nat)) (d22 d23:Nat) (d24:List AV) (d25:Nat) (d26:List AV) (d27:Int) (d28:Nat) (d29:List AV) (d30 d31 d32 d33 d34 d35 d36 d37 d38 d39:Int)=>
 cO (S_ (decide (d1<d0)))
 (
 gO (S_ (decide ((0:Int)<=d1/\d1<(↑d2:Int)/\0<d3.length)))<|
 bO (aq .f32 (d3.getD (d1.toNat*1) AV.top)) fun EA=>
 cO (S_ (aM .f32 EA d7==some .gt||aM .f32 EA d7==some .eq))
 (
 some ([aa.v (AV.int .i64 (S_ (if d1<(0:Int) then (0:Int) else d1))),aa.v (AV.int .i64 (S_ (if d1<(0:Int) then (7:Int) else (0:Int))))]))
 (
 JB d0 (S_ (IntKind.i64.wrap (d1+(1:Int)))) d2 d3 d4 d5 d6 d7 d8 d9 d10 d11 d12 d13 d14 d15 d16 d17 d18 d19 d20 d21 d22 d23 d24 d25 d26 d27 d28 d29 d30 d31 d32 d33 d34 d35 d36 d37 d38 d39))
 (
 Jz (S_ (if S_ (IntKind.i64.wrap (b0+b3))<mM then S_ (IntKind.i64.wrap (b0+b3)) else mM)) d2 d3 d4 d5 d6 d7 d8 d9 d10 d11 d12 d13 d14 d15 d16 d17 d18 d19 d20 d21 d22 d23 d24 d25 d26 d27 d28 d29 d30 d31 d32 d33 d34 d35))
 (fun _ _ _ _ _ _ _ _ _ _ _ _ _ _ _ _ _ _ _ _ _ _ _ _ _ _ _ _ _ _ _ _ _ _ _ _ _ _ _ _=>none) C6 G0 Aa Ab Ac Ad Ae Af Ag Ah rr ry rz rA rB rC rD rE rF rG rH rI rJ rK rL rM rN rO rP rQ rR rS rT rU rV rW rX rY rZ r4),PUnit.unit) fun G1=>
 cO (S_ (decide (gx>=(0:Int))))
 (
 gO (S_ (decide ((0:Int)<=gx)))<|
 G1.1 mL (S_ (IntKind.i64.wrap (S_ (IntKind.i64.wrap (iM*iL))*(2:Int) ^ Min.min gx.toNat 64))) km kn ko kp kq ku kx ky gw kz kA kB kC kD kE kF kG kH kI kJ kK kL kM kN kO kP kQ kR iL kS kT kU kV kW np nq gx iM)
 (
 G1.1 mL iM km kn ko kp kq ku kx ky gw kz kA kB kC kD kE kF kG kH kI kJ kK kL kM kN kO kP kQ kR iL kS kT kU kV kW np nq gx iM))),PUnit.unit) fun rq=>
 cO (S_ (decide (b2<(0:Int))))
 (
 gO (S_ (decide ((0:Int)<=S_ (IntKind.i64.wrap (b0.tdiv b3))/\S_ (IntKind.i64.wrap (b0.tdiv b3))<(↑m4:Int)/\0<mb.length)))<|
 bO (aq .f32 (mb.getD ((S_ (IntKind.i64.wrap (b0.tdiv b3))).toNat*1) AV.top)) fun C4=>
 gO (S_ (decide (b2=b2)))<|
 gO (S_ (decide (S_ (IntKind.i64.wrap (b0.tdiv b3))=S_ (IntKind.i64.wrap (b0.tdiv b3)))))<|
 gO (S_ (decide (m4=m4/\mb=mb)))<|
 gO (S_ (decide (o4=o4)))<|
 rq.1 (S_ (if S_ (IntKind.i64.wrap (b0+b3))<mM then S_ (IntKind.i64.wrap (b0+b3)) else mM)) (!S_ (aM .f32 (S_ (az C4)) b9==some .gt||aM .f32 (S_ (az C4)) b9==some .eq)) b4 b5 b6 b7 b8 b9 nn oZ qi qR uC uD tP tQ uE vg w8 zX zY vh zZ w_ yg xP z6 C5 m4 mb o4 JA Ib mM Lw Ic b2 (S_ (IntKind.i64.wrap (b0.tdiv b3))) b2 (S_ (IntKind.i64.wrap (b0.tdiv b3))))
 (
 bO (iq Tryz.prog 130 62 (AV.agg [AV.int .i64 b2,AV.int .i64 (S_ (IntKind.i64.wrap (b0.tdiv b3)))]) vh) fun ve=>
 bO (asAgg ve.snd) fun C4=>
 gO (S_ (decide (C4.length=2)))<|
 bO (aq .f32 (C4.getD 0 AV.top)) fun yf=>
 bO (aq .f32 (C4.tail.getD 0 AV.top)) fun EA=>
 gO (S_ (decide (b2=b2)))<|
 gO (S_ (decide (S_ (IntKind.i64.wrap (b0.tdiv b3))=S_ (IntKind.i64.wrap (b0.tdiv b3)))))<|
 gO (S_ (decide (m4=m4/\mb=mb)))<|
 gO (S_ (decide (o4=o4)))<|
 rq.1 (S_ (if S_ (IntKind.i64.wrap (b0+b3))<mM then S_ (IntKind.i64.wrap (b0+b3)) else mM)) (!S_ (aM .f32 EA b9==some .gt||aM .f32 EA b9==some .eq)) b4 b5 b6 b7 b8 b9 nn oZ qi qR uC uD tP tQ uE vg w8 zX zY vh zZ w_ yg xP z6 C5 m4 mb o4 JA Ib mM Lw Ic b2 (S_ (IntKind.i64.wrap (b0.tdiv b3))) b2 (S_ (IntKind.i64.wrap (b0.tdiv b3)))))
 (
 C3 b0 (S_ (if S_ (IntKind.i64.wrap (b0+b3))<mM then S_ (IntKind.i64.wrap (b0+b3)) else mM)) (S_ (IntKind.i64.wrap (b2+(1:Int)))) (S_ (IntKind.i64.wrap ((2:Int)*b3))) b4 b5 b6 b7 b8 b9 nn oZ qi qR uC uD tP tQ uE vg w8 zX zY vh zZ w_ yg xP z6 C5 m4 mb o4 JA Ib mM Lw Ic b2 (S_ (IntKind.i64.wrap (b0.tdiv b3)))))
 (
 dy N (
 (fun (G2:Int) (QL:Bool) (Ai:Nat) (Aj:List AV) (Ak:Int) (Al:Nat) (Am:List AV) (An:Option Nat) (Ao:Int) (Ap:Nat) (r5:List AV) (r6:Nat) (r7:List AV) (r8:Int) (r9:Nat) (r_:List AV) (sa:Nat) (sb:List AV) (sc:Nat) (se:List AV) (sf:Int) (si:List (AV × AV × Nat)) (sj sk:Nat) (sm:List AV) (sn:Nat) (so:List AV) (sq:Int) (sr:Nat) (su:List AV) (nr sw sx sy sA sB Aq Ar kX ns:Int)=>
 cO QL
 (
 Jz b1 Ai Aj Ak Al Am An Ao Ap r5 r6 r7 r8 r9 r_ sa sb sc se sf si sj sk sm sn so sq sr su nr sw sx sy sA sB)
 (
 dy N (
 (fun (mL o3:Int) (km:Nat) (kn:List AV) (ko:Int) (kp:Nat) (kq:List AV) (ku:Option Nat) (kx:Int) (ky:Nat) (gw:List AV) (kz:Nat) (kA:List AV) (kB:Int) (kC:Nat) (kD:List AV) (kE:Nat) (kF:List AV) (kG:Nat) (kH:List AV) (kI:Int) (kJ:List (AV × AV × Nat)) (kK kL:Nat) (kM:List AV) (kN:Nat) (kO:List AV) (kP:Int) (kQ:Nat) (kR:List AV) (iL kS kT kU kV kW np nq gx iM:Int)=>
 bg N (fun QM (e0 e1:Int) (e2:Nat) (e3:List AV) (e4:Int) (e5:Nat) (e6:List AV) (e7:Option Nat) (e8:Int) (e9:Nat) (SJ:List AV) (SK:Nat) (SL:List AV) (SM:Int) (SN:Nat) (SO:List AV) (SP:Nat) (SQ:List AV) (SR:Nat) (SS:List AV) (SU:Int) (SW:List (AV × AV × Nat)) (SX SY:Nat) (SZ:List AV) (OL:Nat) (S0:List AV) (S4:Int) (S5:Nat) (S6:List AV) (S7 S8 S9 S' Ta Tb V_ Wa Wb Wc:Int)=>
 cO (S_ (decide (e1<e0)))
 (
 gO (S_ (decide ((0:Int)<=e1/\e1<(↑e2:Int)/\0<e3.length)))<|
 bO (aq .f32 (e3.getD (e1.toNat*1) AV.top)) fun uF=>
 cO (S_ (aM .f32 uF e7==some .gt||aM .f32 uF e7==some .eq))
 (
 some ([aa.v (AV.int .i64 (S_ (if e1<(0:Int) then (0:Int) else e1))),aa.v (AV.int .i64 (S_ (if e1<(0:Int) then (7:Int) else (0:Int))))]))
 (
 QM e0 (S_ (IntKind.i64.wrap (e1+(1:Int)))) e2 e3 e4 e5 e6 e7 e8 e9 SJ SK SL SM SN SO SP SQ SR SS SU SW SX SY SZ OL S0 S4 S5 S6 S7 S8 S9 S' Ta Tb V_ Wa Wb Wc))
 (
 Jz b1 e2 e3 e4 e5 e6 e7 e8 e9 SJ SK SL SM SN SO SP SQ SR SS SU SW SX SY SZ OL S0 S4 S5 S6 S7 S8 S9 S' Ta Tb))
 (fun _ _ _ _ _ _ _ _ _ _ _ _ _ _ _ _ _ _ _ _ _ _ _ _ _ _ _ _ _ _ _ _ _ _ _ _ _ _ _ _=>none) mL o3 km kn ko kp kq ku kx ky gw kz kA kB kC kD kE kF kG kH kI kJ kK kL kM kN kO kP kQ kR iL kS kT kU kV kW np nq gx iM),PUnit.unit) fun rq=>
 cO (S_ (decide (kX>=(0:Int))))
 (
 gO (S_ (decide ((0:Int)<=kX)))<|
 rq.1 G2 (S_ (IntKind.i64.wrap (S_ (IntKind.i64.wrap (ns*nr))*(2:Int) ^ Min.min kX.toNat 64))) Ai Aj Ak Al Am An Ao Ap r5 r6 r7 r8 r9 r_ sa sb sc se sf si sj sk sm sn so sq sr su nr sw sx sy sA sB Aq Ar kX ns)
 (
 rq.1 G2 ns Ai Aj Ak Al Am An Ao Ap r5 r6 r7 r8 r9 r_ sa sb sc se sf si sj sk sm sn so sq sr su nr sw sx sy sA sB Aq Ar kX ns))),PUnit.unit) fun QN=>
 cO (S_ (decide (xQ<(0:Int))))
 (
 gO (S_ (decide ((0:Int)<=xR/\xR<(↑m4:Int)/\0<mb.length)))<|
 bO (aq .f32 (mb.getD (xR.toNat*1) AV.top)) fun tO=>
 gO (S_ (decide (xQ=xQ)))<|
 gO (S_ (decide (xR=xR)))<|
 gO (S_ (decide (m4=m4/\mb=mb)))<|
 gO (S_ (decide (o4=o4)))<|
 QN.1 b1 (!S_ (aM .f32 (S_ (az tO)) b9==some .gt||aM .f32 (S_ (az tO)) b9==some .eq)) b4 b5 b6 b7 b8 b9 nn oZ qi qR uC uD tP tQ uE vg w8 zX zY vh zZ w_ yg xP z6 C5 m4 mb o4 JA Ib mM Lw Ic xQ xR xQ xR)
 (
 bO (iq Tryz.prog 130 62 (AV.agg [AV.int .i64 xQ,AV.int .i64 xR]) vh) fun UP=>
 bO (asAgg UP.snd) fun tO=>
 gO (S_ (decide (tO.length=2)))<|
 bO (aq .f32 (tO.getD 0 AV.top)) fun C4=>
 bO (aq .f32 (tO.tail.getD 0 AV.top)) fun uF=>
 gO (S_ (decide (xQ=xQ)))<|
 gO (S_ (decide (xR=xR)))<|
 gO (S_ (decide (m4=m4/\mb=mb)))<|
 gO (S_ (decide (o4=o4)))<|
 QN.1 b1 (!S_ (aM .f32 uF b9==some .gt||aM .f32 uF b9==some .eq)) b4 b5 b6 b7 b8 b9 nn oZ qi qR uC uD tP tQ uE vg w8 zX zY vh zZ w_ yg xP z6 C5 m4 mb o4 JA Ib mM Lw Ic xQ xR xQ xR)))
 (fun _ _ _ _ _ _ _ _ _ _ _ _ _ _ _ _ _ _ _ _ _ _ _ _ _ _ _ _ _ _ _ _ _ _ _ _ _ _ _ _=>none) c0 (S_ (IntKind.i64.wrap (c0+(1:Int)))) ((0:Int)) z8 c1 c2 c3 c4 c5 c6 c7 c8 c9 GX FF zW Ex Lv Qx Qy Qz QA NC QB QC QD QE QF QG QH QI QJ QK GZ z8 z_ Ez ND ((-1:Int)) c0)
 (
 some ([aa.v (AV.int .i64 (S_ (if GZ<(0:Int) then (0:Int) else GZ))),aa.v (AV.int .i64 (S_ (if GZ<(0:Int) then (7:Int) else (0:Int))))])))
 (fun _ _ _ _ _ _ _ _ _ _ _ _ _ _ _ _ _ _ _ _ _ _ _ _ _ _ _ _ _ _ _ _ _ _ _=>none) f a4 a5 a6 a7 a8 a9 qQ zV a12 Ey FG NB Qw GY xN xO sV w9 uG a21 sU tR a24 sV w9 uG sV w9 uG ((-1:Int)) uG ((↑sV:Int)) f ((↑sV:Int))))
 (fun _ _ _ _ _ _ _ _ _ _ _ _ _ _ _ _ _ _ _ _ _ _ _ _ _ _ _ _=>none) m ls ((↑m:Int)) ((0:Int)) n cs b m ls o b m ls 3 (ag (ag (ag (aX (cM (Go.Value.int IntKind.i64 (0:Int))).cells 3) 0 [AV.int .i64 (S_ (iK n (fO cs) b m ls))]) 1 [AV.int .i64 (S_ (if f<(0:Int)\/f>(↑n:Int) then (3:Int) else (0:Int)))]) 2 [AV.int .i64 (S_ (if (!S_ (aJ o))=true then (1:Int) else (0:Int)))]) b m ls 0 ([]) ((0:Int)) ([]) 0 0 ([]) n cs b)):=by kernel_rfl
theorem X7 (N n:Nat) (cs:List AV) (b:Int) (m:Nat) (ls:List AV) (f:Int) (o:Option Nat):(dA Lp nP N 12).call (List aa) 46 [.aT (.list n cs),.s (.agg [.b (.int .i64 b),.b (.list m ls)]),.aT (.int .i64 f),.aT (.aL .f32 o)] [] (bp [false,false])=(
 gO (S_ (decide (bu n cs/\qd m ls)))<|
 gO (S_ (decide (jD 3 (ag (ag (ag (aX (cM (Go.Value.int IntKind.i64 (0:Int))).cells 3) 0 [AV.int .i64 (S_ (iK n (fO cs) b m ls))]) 1 [AV.int .i64 (S_ (if f<(0:Int)\/f>(↑n:Int) then (3:Int) else (0:Int)))]) 2 [AV.int .i64 (S_ (if (!S_ (aJ o))=true then (1:Int) else (0:Int)))]))))<|
 cO (S_ (S_ (bR (aB (ag (ag (ag (aX (cM (Go.Value.int IntKind.i64 (0:Int))).cells 3) 0 [AV.int .i64 (S_ (iK n (fO cs) b m ls))]) 1 [AV.int .i64 (S_ (if f<(0:Int)\/f>(↑n:Int) then (3:Int) else (0:Int)))]) 2 [AV.int .i64 (S_ (if (!S_ (aJ o))=true then (1:Int) else (0:Int)))]))) != (0:Int)))
 (
 some ([aa.v (AV.int .i64 (0:Int)),aa.v (AV.int .i64 (S_ (bR (aB (ag (ag (ag (aX (cM (Go.Value.int IntKind.i64 (0:Int))).cells 3) 0 [AV.int .i64 (S_ (iK n (fO cs) b m ls))]) 1 [AV.int .i64 (S_ (if f<(0:Int)\/f>(↑n:Int) then (3:Int) else (0:Int)))]) 2 [AV.int .i64 (S_ (if (!S_ (aJ o))=true then (1:Int) else (0:Int)))])))))]))
 (
 bg N (fun Qv (a0:Nat) (a1:List AV) (a2 a3:Int) (a4:Nat) (a5:List AV) (a6:Int) (a7:Nat) (a8:List AV) (a9:Option Nat) (qQ:Int) (zV:Nat) (a12:List AV) (Ey:Nat) (FG:List AV) (NB:Int) (Qw:Nat) (GY:List AV) (xN:Nat) (xO:List AV) (a20:Int) (a21:List (AV × AV × Nat)) (sU tR:Nat) (a24:List AV) (sV:Nat) (w9:List AV) (uG:Int)=>
 cO (S_ (decide (a3<a2)))
 (
 gO (S_ (decide ((0:Int)<=a3/\a3<(↑a0:Int)/\0<a1.length)))<|
 bO (cZ (a1.getD (a3.toNat*1) AV.top)) fun v6=>
 bg N (fun C3 (b0:Int) (b1:Nat) (b2:List AV) (b3 b4:Int) (b5:Nat) (b6:List AV) (b7 b8:Int) (b9:Nat) (nn:List AV) (oZ:Int) (qi:Nat) (qR:List AV) (uC:Option Nat) (uD:Int) (tP:Nat) (tQ:List AV) (uE:Nat) (vg:List AV) (w8:Int) (zX:Nat) (zY:List AV) (vh:Nat) (zZ:List AV) (w_:Int) (yg:List (AV × AV × Nat)) (xP z6:Nat) (C5:List AV) (m4:Nat) (mb:List AV) (o4:Int)=>
 cO (S_ (decide (b8<b7)))
 (
 gO (S_ (decide ((0:Int)<=b8/\b8<(↑b5:Int)/\0<b6.length)))<|
 gO (S_ (decide (b8.toNat*2+2<=b6.length)))<|
 bO (aq .f32 (b6.getD (b8.toNat*2) AV.top)) fun v11=>
 bO (aq .f32 (b6.getD (b8.toNat*2+1) AV.top)) fun v12=>
 gO (S_ (decide (aJ (S_ (az v11))=true/\aJ (S_ (az v11))=true/\aJ (S_ (az v12))=true/\aJ (S_ (az v12))=true)))<|
 bO (GW Tryz.prog 130 (AV.agg [AV.int .i64 b0,AV.int .i64 b8]) (AV.agg [AV.aL .f32 (S_ (gJ (S_ (az v11)) (S_ (az v12)))),AV.aL .f32 (S_ (gV (S_ (az v11)) (S_ (az v12))))]) yg xP) fun tO=>
 C3 b0 b1 b2 b3 b4 b5 b6 b7 (S_ (IntKind.i64.wrap (b8+(1:Int)))) b9 nn oZ qi qR uC uD tP tQ uE vg w8 zX zY vh zZ w_ (tO.fst) (tO.snd) z6 C5 m4 mb o4)
 (
 Qv b1 b2 b3 (S_ (IntKind.i64.wrap (b4+(1:Int)))) b9 nn oZ qi qR uC uD tP tQ uE vg w8 zX zY vh zZ w_ yg xP z6 C5 m4 mb o4))
 (fun _ _ _ _ _ _ _ _ _ _ _ _ _ _ _ _ _ _ _ _ _ _ _ _ _ _ _ _ _ _ _ _ _=>none) a3 a0 a1 a2 a3 (v6.fst) (v6.snd) ((↑v6.fst:Int)) ((0:Int)) a4 a5 a6 a7 a8 a9 qQ zV a12 Ey FG NB Qw GY xN xO a20 a21 sU tR a24 sV w9 uG)
 (
 bg N (fun Jz (c0:Int) (c1:Nat) (c2:List AV) (c3:Int) (c4:Nat) (c5:List AV) (c6:Option Nat) (c7:Int) (c8:Nat) (c9:List AV) (GX:Nat) (FF:List AV) (zW:Int) (Ex:Nat) (Lv:List AV) (Qx:Nat) (Qy:List AV) (Qz:Nat) (QA:List AV) (NC:Int) (QB:List (AV × AV × Nat)) (QC QD:Nat) (QE:List AV) (QF:Nat) (QG:List AV) (QH:Int) (QI:Nat) (QJ:List AV) (QK GZ z8 z_ Ez ND:Int)=>
 cO (S_ (decide (c0<ND)))
 (
 bg N (fun C3 (b0 b1 b2 b3:Int) (b4:Nat) (b5:List AV) (b6:Int) (b7:Nat) (b8:List AV) (b9:Option Nat) (nn:Int) (oZ:Nat) (qi:List AV) (qR:Nat) (uC:List AV) (uD:Int) (tP:Nat) (tQ:List AV) (uE:Nat) (vg:List AV) (w8:Nat) (zX:List AV) (zY:Int) (vh:List (AV × AV × Nat)) (zZ w_:Nat) (yg:List AV) (xP:Nat) (z6:List AV) (C5:Int) (m4:Nat) (mb:List AV) (o4 JA Ib mM Lw Ic xQ xR:Int)=>
 gO (S_ (decide (b3≠(0:Int))))<|
 bO (
 cO (S_ (S_ (b0.tmod b3)==(0:Int)))
 (
 some (S_ (decide (S_ (if S_ (IntKind.i64.wrap (b0+b3))<mM then S_ (IntKind.i64.wrap (b0+b3)) else mM)<=Ic))))
 (
 some false)) fun v9=>
 cO v9
 (
 gO (S_ (decide (b3≠(0:Int))))<|
 cO (S_ (decide (b3>=mM)))
 (
 dy N (
 (fun (mL:Int) (o3:Bool) (km:Nat) (kn:List AV) (ko:Int) (kp:Nat) (kq:List AV) (ku:Option Nat) (kx:Int) (ky:Nat) (gw:List AV) (kz:Nat) (kA:List AV) (kB:Int) (kC:Nat) (kD:List AV) (kE:Nat) (kF:List AV) (kG:Nat) (kH:List AV) (kI:Int) (kJ:List (AV × AV × Nat)) (kK kL:Nat) (kM:List AV) (kN:Nat) (kO:List AV) (kP:Int) (kQ:Nat) (kR:List AV) (iL kS kT kU kV kW np nq gx iM:Int)=>
 cO o3
 (
 Jz (S_ (if S_ (IntKind.i64.wrap (b0+b3))<mM then S_ (IntKind.i64.wrap (b0+b3)) else mM)) km kn ko kp kq ku kx ky gw kz kA kB kC kD kE kF kG kH kI kJ kK kL kM kN kO kP kQ kR iL kS kT kU kV kW)
 (
 dy N (
 (fun (C6 G0:Int) (Aa:Nat) (Ab:List AV) (Ac:Int) (Ad:Nat) (Ae:List AV) (Af:Option Nat) (Ag:Int) (Ah:Nat) (rr:List AV) (ry:Nat) (rz:List AV) (rA:Int) (rB:Nat) (rC:List AV) (rD:Nat) (rE:List AV) (rF:Nat) (rG:List AV) (rH:Int) (rI:List (AV × AV × Nat)) (rJ rK:Nat) (rL:List AV) (rM:Nat) (rN:List AV) (rO:Int) (rP:Nat) (rQ:List AV) (rR rS rT rU rV rW rX rY rZ r4:Int)=>
 bg N (fun JB (d0 d1:Int) (d2:Nat) (d3:List AV) (d4:Int) (d5:Nat) (d6:List AV) (d7:Option Nat) (d8:Int) (d9:Nat) (d10:List AV) (d11:Nat) (d12:List AV) (d13:Int) (d14:Nat) (d15:List AV) (d16:Nat) (d17:List AV) (d18:Nat) (d19:List AV) (d20:Int) (d21:List (AV × AV × Nat)) (d22 d23:Nat) (d24:List AV) (d25:Nat) (d26:List AV) (d27:Int) (d28:Nat) (d29:List AV) (d30 d31 d32 d33 d34 d35 d36 d37 d38 d39:Int)=>
 cO (S_ (decide (d1<d0)))
 (
 cO (S_ (decide (d1>(0:Int))))
 (
 gO (S_ (decide ((0:Int)<=S_ (IntKind.i64.wrap (d1-(1:Int)))/\S_ (IntKind.i64.wrap (d1-(1:Int)))<(↑d2:Int)/\0<d3.length)))<|
 bO (aq .f32 (d3.getD ((S_ (IntKind.i64.wrap (d1-(1:Int)))).toNat*1) AV.top)) fun v20=>
 cO (S_ (aM .f32 v20 d7==some .lt))
 (
 gO (S_ (decide ((0:Int)<=d1/\d1<(↑d2:Int)/\0<d3.length)))<|
 bO (aq .f32 (d3.getD (d1.toNat*1) AV.top)) fun H_=>
 cO (S_ (aM .f32 H_ d7==some .gt||aM .f32 H_ d7==some .eq))
 (
 some ([aa.v (AV.int .i64 (S_ (if d1<(0:Int) then (0:Int) else d1))),aa.v (AV.int .i64 (S_ (if d1<(0:Int) then (7:Int) else (0:Int))))]))
 (
 JB d0 (S_ (IntKind.i64.wrap (d1+(1:Int)))) d2 d3 d4 d5 d6 d7 d8 d9 d10 d11 d12 d13 d14 d15 d16 d17 d18 d19 d20 d21 d22 d23 d24 d25 d26 d27 d28 d29 d30 d31 d32 d33 d34 d35 d36 d37 d38 d39))
 (
 JB d0 (S_ (IntKind.i64.wrap (d1+(1:Int)))) d2 d3 d4 d5 d6 d7 d8 d9 d10 d11 d12 d13 d14 d15 d16 d17 d18 d19 d20 d21 d22 d23 d24 d25 d26 d27 d28 d29 d30 d31 d32 d33 d34 d35 d36 d37 d38 d39))
 (
 JB d0 (S_ (IntKind.i64.wrap (d1+(1:Int)))) d2 d3 d4 d5 d6 d7 d8 d9 d10 d11 d12 d13 d14 d15 d16 d17 d18 d19 d20 d21 d22 d23 d24 d25 d26 d27 d28 d29 d30 d31 d32 d33 d34 d35 d36 d37 d38 d39))
 (
 Jz (S_ (if S_ (IntKind.i64.wrap (b0+b3))<mM then S_ (IntKind.i64.wrap (b0+b3)) else mM)) d2 d3 d4 d5 d6 d7 d8 d9 d10 d11 d12 d13 d14 d15 d16 d17 d18 d19 d20 d21 d22 d23 d24 d25 d26 d27 d28 d29 d30 d31 d32 d33 d34 d35))
 (fun _ _ _ _ _ _ _ _ _ _ _ _ _ _ _ _ _ _ _ _ _ _ _ _ _ _ _ _ _ _ _ _ _ _ _ _ _ _ _ _=>none) C6 G0 Aa Ab Ac Ad Ae Af Ag Ah rr ry rz rA rB rC rD rE rF rG rH rI rJ rK rL rM rN rO rP rQ rR rS rT rU rV rW rX rY rZ r4),PUnit.unit) fun G1=>
 cO (S_ (decide (gx>=(0:Int))))
 (
 gO (S_ (decide ((0:Int)<=gx)))<|
 G1.1 mL (S_ (IntKind.i64.wrap (S_ (IntKind.i64.wrap (iM*iL))*(2:Int) ^ Min.min gx.toNat 64))) km kn ko kp kq ku kx ky gw kz kA kB kC kD kE kF kG kH kI kJ kK kL kM kN kO kP kQ kR iL kS kT kU kV kW np nq gx iM)
 (
 G1.1 mL iM km kn ko kp kq ku kx ky gw kz kA kB kC kD kE kF kG kH kI kJ kK kL kM kN kO kP kQ kR iL kS kT kU kV kW np nq gx iM))),PUnit.unit) fun rq=>
 cO (S_ (decide (b2<(0:Int))))
 (
 gO (S_ (decide ((0:Int)<=S_ (IntKind.i64.wrap (b0.tdiv b3))/\S_ (IntKind.i64.wrap (b0.tdiv b3))<(↑m4:Int)/\0<mb.length)))<|
 bO (aq .f32 (mb.getD ((S_ (IntKind.i64.wrap (b0.tdiv b3))).toNat*1) AV.top)) fun C4=>
 gO (S_ (decide (b2=b2)))<|
 gO (S_ (decide (S_ (IntKind.i64.wrap (b0.tdiv b3))=S_ (IntKind.i64.wrap (b0.tdiv b3)))))<|
 gO (S_ (decide (m4=m4/\mb=mb)))<|
 gO (S_ (decide (o4=o4)))<|
 rq.1 (S_ (if S_ (IntKind.i64.wrap (b0+b3))<mM then S_ (IntKind.i64.wrap (b0+b3)) else mM)) (!S_ (aM .f32 (S_ (az C4)) b9==some .gt||aM .f32 (S_ (az C4)) b9==some .eq)) b4 b5 b6 b7 b8 b9 nn oZ qi qR uC uD tP tQ uE vg w8 zX zY vh zZ w_ yg xP z6 C5 m4 mb o4 JA Ib mM Lw Ic b2 (S_ (IntKind.i64.wrap (b0.tdiv b3))) b2 (S_ (IntKind.i64.wrap (b0.tdiv b3))))
 (
 bO (iq Tryz.prog 130 62 (AV.agg [AV.int .i64 b2,AV.int .i64 (S_ (IntKind.i64.wrap (b0.tdiv b3)))]) vh) fun ve=>
 bO (asAgg ve.snd) fun C4=>
 gO (S_ (decide (C4.length=2)))<|
 bO (aq .f32 (C4.getD 0 AV.top)) fun yf=>
 bO (aq .f32 (C4.tail.getD 0 AV.top)) fun EA=>
 gO (S_ (decide (b2=b2)))<|
 gO (S_ (decide (S_ (IntKind.i64.wrap (b0.tdiv b3))=S_ (IntKind.i64.wrap (b0.tdiv b3)))))<|
 gO (S_ (decide (m4=m4/\mb=mb)))<|
 gO (S_ (decide (o4=o4)))<|
 rq.1 (S_ (if S_ (IntKind.i64.wrap (b0+b3))<mM then S_ (IntKind.i64.wrap (b0+b3)) else mM)) (!S_ (aM .f32 EA b9==some .gt||aM .f32 EA b9==some .eq)) b4 b5 b6 b7 b8 b9 nn oZ qi qR uC uD tP tQ uE vg w8 zX zY vh zZ w_ yg xP z6 C5 m4 mb o4 JA Ib mM Lw Ic b2 (S_ (IntKind.i64.wrap (b0.tdiv b3))) b2 (S_ (IntKind.i64.wrap (b0.tdiv b3)))))
 (
 C3 b0 (S_ (if S_ (IntKind.i64.wrap (b0+b3))<mM then S_ (IntKind.i64.wrap (b0+b3)) else mM)) (S_ (IntKind.i64.wrap (b2+(1:Int)))) (S_ (IntKind.i64.wrap ((2:Int)*b3))) b4 b5 b6 b7 b8 b9 nn oZ qi qR uC uD tP tQ uE vg w8 zX zY vh zZ w_ yg xP z6 C5 m4 mb o4 JA Ib mM Lw Ic b2 (S_ (IntKind.i64.wrap (b0.tdiv b3)))))
 (
 dy N (
 (fun (G2:Int) (QL:Bool) (Ai:Nat) (Aj:List AV) (Ak:Int) (Al:Nat) (Am:List AV) (An:Option Nat) (Ao:Int) (Ap:Nat) (r5:List AV) (r6:Nat) (r7:List AV) (r8:Int) (r9:Nat) (r_:List AV) (sa:Nat) (sb:List AV) (sc:Nat) (se:List AV) (sf:Int) (si:List (AV × AV × Nat)) (sj sk:Nat) (sm:List AV) (sn:Nat) (so:List AV) (sq:Int) (sr:Nat) (su:List AV) (nr sw sx sy sA sB Aq Ar kX ns:Int)=>
 cO QL
 (
 Jz b1 Ai Aj Ak Al Am An Ao Ap r5 r6 r7 r8 r9 r_ sa sb sc se sf si sj sk sm sn so sq sr su nr sw sx sy sA sB)
 (
 dy N (
 (fun (mL o3:Int) (km:Nat) (kn:List AV) (ko:Int) (kp:Nat) (kq:List AV) (ku:Option Nat) (kx:Int) (ky:Nat) (gw:List AV) (kz:Nat) (kA:List AV) (kB:Int) (kC:Nat) (kD:List AV) (kE:Nat) (kF:List AV) (kG:Nat) (kH:List AV) (kI:Int) (kJ:List (AV × AV × Nat)) (kK kL:Nat) (kM:List AV) (kN:Nat) (kO:List AV) (kP:Int) (kQ:Nat) (kR:List AV) (iL kS kT kU kV kW np nq gx iM:Int)=>
 bg N (fun QM (e0 e1:Int) (e2:Nat) (e3:List AV) (e4:Int) (e5:Nat) (e6:List AV) (e7:Option Nat) (e8:Int) (e9:Nat) (SJ:List AV) (SK:Nat) (SL:List AV) (SM:Int) (SN:Nat) (SO:List AV) (SP:Nat) (SQ:List AV) (SR:Nat) (SS:List AV) (SU:Int) (SW:List (AV × AV × Nat)) (SX SY:Nat) (SZ:List AV) (OL:Nat) (S0:List AV) (S4:Int) (S5:Nat) (S6:List AV) (S7 S8 S9 S' Ta Tb V_ Wa Wb Wc:Int)=>
 cO (S_ (decide (e1<e0)))
 (
 cO (S_ (decide (e1>(0:Int))))
 (
 gO (S_ (decide ((0:Int)<=S_ (IntKind.i64.wrap (e1-(1:Int)))/\S_ (IntKind.i64.wrap (e1-(1:Int)))<(↑e2:Int)/\0<e3.length)))<|
 bO (aq .f32 (e3.getD ((S_ (IntKind.i64.wrap (e1-(1:Int)))).toNat*1) AV.top)) fun yf=>
 cO (S_ (aM .f32 yf e7==some .lt))
 (
 gO (S_ (decide ((0:Int)<=e1/\e1<(↑e2:Int)/\0<e3.length)))<|
 bO (aq .f32 (e3.getD (e1.toNat*1) AV.top)) fun v21=>
 cO (S_ (aM .f32 v21 e7==some .gt||aM .f32 v21 e7==some .eq))
 (
 some ([aa.v (AV.int .i64 (S_ (if e1<(0:Int) then (0:Int) else e1))),aa.v (AV.int .i64 (S_ (if e1<(0:Int) then (7:Int) else (0:Int))))]))
 (
 QM e0 (S_ (IntKind.i64.wrap (e1+(1:Int)))) e2 e3 e4 e5 e6 e7 e8 e9 SJ SK SL SM SN SO SP SQ SR SS SU SW SX SY SZ OL S0 S4 S5 S6 S7 S8 S9 S' Ta Tb V_ Wa Wb Wc))
 (
 QM e0 (S_ (IntKind.i64.wrap (e1+(1:Int)))) e2 e3 e4 e5 e6 e7 e8 e9 SJ SK SL SM SN SO SP SQ SR SS SU SW SX SY SZ OL S0 S4 S5 S6 S7 S8 S9 S' Ta Tb V_ Wa Wb Wc))
 (
 QM e0 (S_ (IntKind.i64.wrap (e1+(1:Int)))) e2 e3 e4 e5 e6 e7 e8 e9 SJ SK SL SM SN SO SP SQ SR SS SU SW SX SY SZ OL S0 S4 S5 S6 S7 S8 S9 S' Ta Tb V_ Wa Wb Wc))
 (
 Jz b1 e2 e3 e4 e5 e6 e7 e8 e9 SJ SK SL SM SN SO SP SQ SR SS SU SW SX SY SZ OL S0 S4 S5 S6 S7 S8 S9 S' Ta Tb))
 (fun _ _ _ _ _ _ _ _ _ _ _ _ _ _ _ _ _ _ _ _ _ _ _ _ _ _ _ _ _ _ _ _ _ _ _ _ _ _ _ _=>none) mL o3 km kn ko kp kq ku kx ky gw kz kA kB kC kD kE kF kG kH kI kJ kK kL kM kN kO kP kQ kR iL kS kT kU kV kW np nq gx iM),PUnit.unit) fun rq=>
 cO (S_ (decide (kX>=(0:Int))))
 (
 gO (S_ (decide ((0:Int)<=kX)))<|
 rq.1 G2 (S_ (IntKind.i64.wrap (S_ (IntKind.i64.wrap (ns*nr))*(2:Int) ^ Min.min kX.toNat 64))) Ai Aj Ak Al Am An Ao Ap r5 r6 r7 r8 r9 r_ sa sb sc se sf si sj sk sm sn so sq sr su nr sw sx sy sA sB Aq Ar kX ns)
 (
 rq.1 G2 ns Ai Aj Ak Al Am An Ao Ap r5 r6 r7 r8 r9 r_ sa sb sc se sf si sj sk sm sn so sq sr su nr sw sx sy sA sB Aq Ar kX ns))),PUnit.unit) fun QN=>
 cO (S_ (decide (xQ<(0:Int))))
 (
 gO (S_ (decide ((0:Int)<=xR/\xR<(↑m4:Int)/\0<mb.length)))<|
 bO (aq .f32 (mb.getD (xR.toNat*1) AV.top)) fun tO=>
 gO (S_ (decide (xQ=xQ)))<|
 gO (S_ (decide (xR=xR)))<|
 gO (S_ (decide (m4=m4/\mb=mb)))<|
 gO (S_ (decide (o4=o4)))<|
 QN.1 b1 (!S_ (aM .f32 (S_ (az tO)) b9==some .gt||aM .f32 (S_ (az tO)) b9==some .eq)) b4 b5 b6 b7 b8 b9 nn oZ qi qR uC uD tP tQ uE vg w8 zX zY vh zZ w_ yg xP z6 C5 m4 mb o4 JA Ib mM Lw Ic xQ xR xQ xR)
 (
 bO (iq Tryz.prog 130 62 (AV.agg [AV.int .i64 xQ,AV.int .i64 xR]) vh) fun UP=>
 bO (asAgg UP.snd) fun tO=>
 gO (S_ (decide (tO.length=2)))<|
 bO (aq .f32 (tO.getD 0 AV.top)) fun C4=>
 bO (aq .f32 (tO.tail.getD 0 AV.top)) fun uF=>
 gO (S_ (decide (xQ=xQ)))<|
 gO (S_ (decide (xR=xR)))<|
 gO (S_ (decide (m4=m4/\mb=mb)))<|
 gO (S_ (decide (o4=o4)))<|
 QN.1 b1 (!S_ (aM .f32 uF b9==some .gt||aM .f32 uF b9==some .eq)) b4 b5 b6 b7 b8 b9 nn oZ qi qR uC uD tP tQ uE vg w8 zX zY vh zZ w_ yg xP z6 C5 m4 mb o4 JA Ib mM Lw Ic xQ xR xQ xR)))
 (fun _ _ _ _ _ _ _ _ _ _ _ _ _ _ _ _ _ _ _ _ _ _ _ _ _ _ _ _ _ _ _ _ _ _ _ _ _ _ _ _=>none) c0 (S_ (IntKind.i64.wrap (c0+(1:Int)))) ((0:Int)) z8 c1 c2 c3 c4 c5 c6 c7 c8 c9 GX FF zW Ex Lv Qx Qy Qz QA NC QB QC QD QE QF QG QH QI QJ QK GZ z8 z_ Ez ND ((-1:Int)) c0)
 (
 some ([aa.v (AV.int .i64 (S_ (if GZ<(0:Int) then (0:Int) else GZ))),aa.v (AV.int .i64 (S_ (if GZ<(0:Int) then (7:Int) else (0:Int))))])))
 (fun _ _ _ _ _ _ _ _ _ _ _ _ _ _ _ _ _ _ _ _ _ _ _ _ _ _ _ _ _ _ _ _ _ _ _=>none) f a4 a5 a6 a7 a8 a9 qQ zV a12 Ey FG NB Qw GY xN xO sV w9 uG a21 sU tR a24 sV w9 uG sV w9 uG ((-1:Int)) uG ((↑sV:Int)) f ((↑sV:Int))))
 (fun _ _ _ _ _ _ _ _ _ _ _ _ _ _ _ _ _ _ _ _ _ _ _ _ _ _ _ _=>none) m ls ((↑m:Int)) ((0:Int)) n cs b m ls o b m ls 3 (ag (ag (ag (aX (cM (Go.Value.int IntKind.i64 (0:Int))).cells 3) 0 [AV.int .i64 (S_ (iK n (fO cs) b m ls))]) 1 [AV.int .i64 (S_ (if f<(0:Int)\/f>(↑n:Int) then (3:Int) else (0:Int)))]) 2 [AV.int .i64 (S_ (if (!S_ (aJ o))=true then (1:Int) else (0:Int)))]) b m ls 0 ([]) ((0:Int)) ([]) 0 0 ([]) n cs b)):=by kernel_rfl
end Go.Abs
end
