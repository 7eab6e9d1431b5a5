/- Part 40 of the library of the proof: an abstract run of the program. -/
import Derived.Test.YtkloadomnblkeaaGreatDoorHt34
import Derived.Test.YtkloadomnblkeaaGreatDoorHt36
set_option linter.unusedVariables false
set_option linter.unusedSimpArgs false

set_option maxRecDepth 100000
noncomputable section
namespace Go.Abs
open Go.Proofs Classical
theorem X9 (N n:Nat) (cs:List AV) (b:Int) (m:Nat) (ls:List AV):(dA Lp nP N 12).call (List aa) 47 [.aT (.list n cs),.s (.agg [.b (.int .i64 b),.b (.list m ls)])] [] (bp [false,false])=(
 gO (S_ (decide (bu n cs/\qd m ls)))<|
 gO (S_ (decide (jD 2 (ag (ag (aX (cM (Go.Value.int IntKind.i64 (0:Int))).cells 2) 0 [AV.int .i64 (S_ (iK n (fO cs) b m ls))]) 1 [AV.int .i64 (S_ (if S_ ((↑n:Int)==(0:Int))=true then (12:Int) else (0:Int)))]))))<|
 cO (S_ (S_ (bR (aB (ag (ag (aX (cM (Go.Value.int IntKind.i64 (0:Int))).cells 2) 0 [AV.int .i64 (S_ (iK n (fO cs) b m ls))]) 1 [AV.int .i64 (S_ (if S_ ((↑n:Int)==(0:Int))=true then (12:Int) else (0:Int)))]))) != (0:Int)))
 (
 some ([aa.v (AV.int .i64 (0:Int)),aa.v (AV.int .i64 (S_ (bR (aB (ag (ag (aX (cM (Go.Value.int IntKind.i64 (0:Int))).cells 2) 0 [AV.int .i64 (S_ (iK n (fO cs) b m ls))]) 1 [AV.int .i64 (S_ (if S_ ((↑n:Int)==(0:Int))=true then (12:Int) else (0:Int)))])))))]))
 (
 bg N (fun Qv (a0:Nat) (a1:List AV) (a2 a3:Int) (a4:Nat) (a5:List AV) (a6:Int) (a7:Nat) (a8:List AV) (a9:Nat) (qQ:List AV) (zV:Int) (a12:Nat) (Ey:List AV) (FG:Nat) (NB:List AV) (Qw:Int) (GY:List (AV × AV × Nat)) (xN xO:Nat) (a20:List AV) (a21:Nat) (sU:List AV) (tR:Int)=>
 cO (S_ (decide (a3<a2)))
 (
 gO (S_ (decide ((0:Int)<=a3/\a3<(↑a0:Int)/\0<a1.length)))<|
 bO (cZ (a1.getD (a3.toNat*1) AV.top)) fun v6=>
 bg N (fun C3 (b0:Int) (b1:Nat) (b2:List AV) (b3 b4:Int) (b5:Nat) (b6:List AV) (b7 b8:Int) (b9:Nat) (nn:List AV) (oZ:Int) (qi:Nat) (qR:List AV) (uC:Nat) (uD:List AV) (tP:Int) (tQ:Nat) (uE:List AV) (vg:Nat) (w8:List AV) (zX:Int) (zY:List (AV × AV × Nat)) (vh zZ:Nat) (w_:List AV) (yg:Nat) (xP:List AV) (z6:Int)=>
 cO (S_ (decide (b8<b7)))
 (
 gO (S_ (decide ((0:Int)<=b8/\b8<(↑b5:Int)/\0<b6.length)))<|
 gO (S_ (decide (b8.toNat*2+2<=b6.length)))<|
 bO (aq .f32 (b6.getD (b8.toNat*2) AV.top)) fun v11=>
 bO (aq .f32 (b6.getD (b8.toNat*2+1) AV.top)) fun v12=>
 gO (S_ (decide (aJ (S_ (az v11))=true/\aJ (S_ (az v11))=true/\aJ (S_ (az v12))=true/\aJ (S_ (az v12))=true)))<|
 bO (GW Tryz.prog 130 (AV.agg [AV.int .i64 b0,AV.int .i64 b8]) (AV.agg [AV.aL .f32 (S_ (gJ (S_ (az v11)) (S_ (az v12)))),AV.aL .f32 (S_ (gV (S_ (az v11)) (S_ (az v12))))]) zY vh) fun tO=>
 C3 b0 b1 b2 b3 b4 b5 b6 b7 (S_ (IntKind.i64.wrap (b8+(1:Int)))) b9 nn oZ qi qR uC uD tP tQ uE vg w8 zX (tO.fst) (tO.snd) zZ w_ yg xP z6)
 (
 Qv b1 b2 b3 (S_ (IntKind.i64.wrap (b4+(1:Int)))) b9 nn oZ qi qR uC uD tP tQ uE vg w8 zX zY vh zZ w_ yg xP z6))
 (fun _ _ _ _ _ _ _ _ _ _ _ _ _ _ _ _ _ _ _ _ _ _ _ _ _ _ _ _ _=>none) a3 a0 a1 a2 a3 (v6.fst) (v6.snd) ((↑v6.fst:Int)) ((0:Int)) a4 a5 a6 a7 a8 a9 qQ zV a12 Ey FG NB Qw GY xN xO a20 a21 sU tR)
 (
 gO (S_ (decide ((0:Int)<=(0:Int)/\(0:Int)<(↑a21:Int)/\0<sU.length)))<|
 bO (aq .f32 (sU.getD 0 AV.top)) fun v6=>
 bg N (fun C3 (b0:Int) (b1:Nat) (b2:List AV) (b3:Int) (b4:Nat) (b5:List AV) (b6:Nat) (b7:List AV) (b8:Int) (b9:Nat) (nn:List AV) (oZ:Nat) (qi:List AV) (qR:Nat) (uC:List AV) (uD:Int) (tP:List (AV × AV × Nat)) (tQ uE:Nat) (vg:List AV) (w8:Nat) (zX:List AV) (zY:Int) (vh:Nat) (zZ:List AV) (w_:Nat) (yg:List AV) (xP:Int) (z6:Nat) (C5:List AV) (m4:Int) (mb o4 JA Ib:Option Nat) (mM Lw Ic xQ:Int)=>
 cO (S_ (decide (b0<xQ)))
 (
 bg N (fun OM (c0 c1 c2 c3:Int) (c4:Nat) (c5:List AV) (c6:Int) (c7:Nat) (c8:List AV) (c9:Nat) (GX:List AV) (FF:Int) (zW:Nat) (Ex:List AV) (Lv:Nat) (Qx:List AV) (Qy:Nat) (Qz:List AV) (QA:Int) (NC:List (AV × AV × Nat)) (QB QC:Nat) (QD:List AV) (QE:Nat) (QF:List AV) (QG:Int) (QH:Nat) (QI:List AV) (QJ:Nat) (QK:List AV) (GZ:Int) (z8:Nat) (z_:List AV) (Ez:Int) (ND Yj EB EC:Option Nat) (Yk Ie Yl Wd We NF:Int)=>
 gO (S_ (decide (c3≠(0:Int))))<|
 bO (
 cO (S_ (S_ (c0.tmod c3)==(0:Int)))
 (
 some (S_ (decide (S_ (if S_ (IntKind.i64.wrap (c0+c3))<Ie then S_ (IntKind.i64.wrap (c0+c3)) else Ie)<=Wd))))
 (
 some false)) fun v11=>
 cO v11
 (
 gO (S_ (decide (c3≠(0:Int))))<|
 cO (S_ (decide (c3>=Ie)))
 (
 cO (S_ (decide (c2<(0:Int))))
 (
 gO (S_ (decide ((0:Int)<=S_ (IntKind.i64.wrap (c0.tdiv c3))/\S_ (IntKind.i64.wrap (c0.tdiv c3))<(↑z8:Int)/\0<z_.length)))<|
 bO (aq .f32 (z_.getD ((S_ (IntKind.i64.wrap (c0.tdiv c3))).toNat*1) AV.top)) fun uF=>
 gO (S_ (decide (c2=c2)))<|
 gO (S_ (decide (S_ (IntKind.i64.wrap (c0.tdiv c3))=S_ (IntKind.i64.wrap (c0.tdiv c3)))))<|
 gO (S_ (decide (z8=z8/\z_=z_)))<|
 gO (S_ (decide (Ez=Ez)))<|
 gO (S_ (decide (EB=EB)))<|
 gO (S_ (decide (EC=EC)))<|
 gO (S_ (decide (aJ EB=true/\aJ EC=true/\aJ (S_ (az uF))=true/\aJ (S_ (az uF))=true)))<|
 C3 (S_ (if S_ (IntKind.i64.wrap (c0+c3))<Ie then S_ (IntKind.i64.wrap (c0+c3)) else Ie)) c4 c5 c6 c7 c8 c9 GX FF zW Ex Lv Qx Qy Qz QA NC QB QC QD QE QF QG QH QI QJ QK GZ z8 z_ Ez ND Yj (S_ (gJ EB (S_ (az uF)))) (S_ (gV EC (S_ (az uF)))) Yk Ie Yl Wd)
 (
 bO (iq Tryz.prog 130 62 (AV.agg [AV.int .i64 c2,AV.int .i64 (S_ (IntKind.i64.wrap (c0.tdiv c3)))]) NC) fun C4=>
 bO (asAgg C4.snd) fun uF=>
 gO (S_ (decide (uF.length=2)))<|
 bO (aq .f32 (uF.getD 0 AV.top)) fun EA=>
 bO (aq .f32 (uF.tail.getD 0 AV.top)) fun v20=>
 gO (S_ (decide (c2=c2)))<|
 gO (S_ (decide (S_ (IntKind.i64.wrap (c0.tdiv c3))=S_ (IntKind.i64.wrap (c0.tdiv c3)))))<|
 gO (S_ (decide (z8=z8/\z_=z_)))<|
 gO (S_ (decide (Ez=Ez)))<|
 gO (S_ (decide (EB=EB)))<|
 gO (S_ (decide (EC=EC)))<|
 gO (S_ (decide (aJ EB=true/\aJ EC=true/\aJ EA=true/\aJ v20=true)))<|
 C3 (S_ (if S_ (IntKind.i64.wrap (c0+c3))<Ie then S_ (IntKind.i64.wrap (c0+c3)) else Ie)) c4 c5 c6 c7 c8 c9 GX FF zW Ex Lv Qx Qy Qz QA NC QB QC QD QE QF QG QH QI QJ QK GZ z8 z_ Ez ND Yj (S_ (gJ EB EA)) (S_ (gV EC v20)) Yk Ie Yl Wd))
 (
 OM c0 (S_ (if S_ (IntKind.i64.wrap (c0+c3))<Ie then S_ (IntKind.i64.wrap (c0+c3)) else Ie)) (S_ (IntKind.i64.wrap (c2+(1:Int)))) (S_ (IntKind.i64.wrap ((2:Int)*c3))) c4 c5 c6 c7 c8 c9 GX FF zW Ex Lv Qx Qy Qz QA NC QB QC QD QE QF QG QH QI QJ QK GZ z8 z_ Ez ND Yj EB EC Yk Ie Yl Wd c2 (S_ (IntKind.i64.wrap (c0.tdiv c3)))))
 (
 cO (S_ (decide (We<(0:Int))))
 (
 gO (S_ (decide ((0:Int)<=NF/\NF<(↑z8:Int)/\0<z_.length)))<|
 bO (aq .f32 (z_.getD (NF.toNat*1) AV.top)) fun ve=>
 gO (S_ (decide (We=We)))<|
 gO (S_ (decide (NF=NF)))<|
 gO (S_ (decide (z8=z8/\z_=z_)))<|
 gO (S_ (decide (Ez=Ez)))<|
 gO (S_ (decide (EB=EB)))<|
 gO (S_ (decide (EC=EC)))<|
 gO (S_ (decide (aJ EB=true/\aJ EC=true/\aJ (S_ (az ve))=true/\aJ (S_ (az ve))=true)))<|
 C3 c1 c4 c5 c6 c7 c8 c9 GX FF zW Ex Lv Qx Qy Qz QA NC QB QC QD QE QF QG QH QI QJ QK GZ z8 z_ Ez ND Yj (S_ (gJ EB (S_ (az ve)))) (S_ (gV EC (S_ (az ve)))) Yk Ie Yl Wd)
 (
 bO (iq Tryz.prog 130 62 (AV.agg [AV.int .i64 We,AV.int .i64 NF]) NC) fun tO=>
 bO (asAgg tO.snd) fun ve=>
 gO (S_ (decide (ve.length=2)))<|
 bO (aq .f32 (ve.getD 0 AV.top)) fun uF=>
 bO (aq .f32 (ve.tail.getD 0 AV.top)) fun yf=>
 gO (S_ (decide (We=We)))<|
 gO (S_ (decide (NF=NF)))<|
 gO (S_ (decide (z8=z8/\z_=z_)))<|
 gO (S_ (decide (Ez=Ez)))<|
 gO (S_ (decide (EB=EB)))<|
 gO (S_ (decide (EC=EC)))<|
 gO (S_ (decide (aJ EB=true/\aJ EC=true/\aJ uF=true/\aJ yf=true)))<|
 C3 c1 c4 c5 c6 c7 c8 c9 GX FF zW Ex Lv Qx Qy Qz QA NC QB QC QD QE QF QG QH QI QJ QK GZ z8 z_ Ez ND Yj (S_ (gJ EB uF)) (S_ (gV EC yf)) Yk Ie Yl Wd)))
 (fun _ _ _ _ _ _ _ _ _ _ _ _ _ _ _ _ _ _ _ _ _ _ _ _ _ _ _ _ _ _ _ _ _ _ _ _ _ _ _ _ _ _ _ _=>none) b0 (S_ (IntKind.i64.wrap (b0+(1:Int)))) ((0:Int)) mM b1 b2 b3 b4 b5 b6 b7 b8 b9 nn oZ qi qR uC uD tP tQ uE vg w8 zX zY vh zZ w_ yg xP z6 C5 m4 mb o4 JA Ib mM Lw Ic xQ ((-1:Int)) b0)
 (
 bg N (fun OM (c0:Int) (c1:Nat) (c2:List AV) (c3:Int) (c4:Nat) (c5:List AV) (c6:Nat) (c7:List AV) (c8:Int) (c9:Nat) (GX:List AV) (FF:Nat) (zW:List AV) (Ex:Nat) (Lv:List AV) (Qx:Int) (Qy:List (AV × AV × Nat)) (Qz QA:Nat) (NC:List AV) (QB:Nat) (QC:List AV) (QD:Int) (QE:Nat) (QF:List AV) (QG:Nat) (QH:List AV) (QI:Int) (QJ:Nat) (QK:List AV) (GZ:Int) (z8 z_ Ez ND:Option Nat) (Yj EB EC Yk:Int) (Ie:Option Nat) (Yl:Nat) (Wd:List AV) (We NF c44 c45 c46 c47:Int)=>
 cO (S_ (decide (c0<c47)))
 (
 bg N (fun Yi (d0 d1 d2 d3:Int) (d4:Nat) (d5:List AV) (d6:Int) (d7:Nat) (d8:List AV) (d9:Nat) (d10:List AV) (d11:Int) (d12:Nat) (d13:List AV) (d14:Nat) (d15:List AV) (d16:Nat) (d17:List AV) (d18:Int) (d19:List (AV × AV × Nat)) (d20 d21:Nat) (d22:List AV) (d23:Nat) (d24:List AV) (d25:Int) (d26:Nat) (d27:List AV) (d28:Nat) (d29:List AV) (d30:Int) (d31:Nat) (d32:List AV) (d33:Int) (d34 d35 d36 d37:Option Nat) (d38 d39 d40 d41:Int) (d42:Option Nat) (d43:Nat) (d44:List AV) (d45 d46 d47 d48 d49 d50 d51 d52:Int)=>
 gO (S_ (decide (d3≠(0:Int))))<|
 bO (
 cO (S_ (S_ (d0.tmod d3)==(0:Int)))
 (
 some (S_ (decide (S_ (if S_ (IntKind.i64.wrap (d0+d3))<d48 then S_ (IntKind.i64.wrap (d0+d3)) else d48)<=d50))))
 (
 some false)) fun UP=>
 cO UP
 (
 gO (S_ (decide (d3≠(0:Int))))<|
 cO (S_ (decide (d3>=d48)))
 (
 dy N (
 (fun (Lx:Int) (QO:Bool) (G3:Nat) (G4:List AV) (G5:Int) (G6:Nat) (G7:List AV) (G8:Nat) (G9:List AV) (G_:Int) (As:Nat) (At:List AV) (Au:Nat) (Av:List AV) (Aw:Nat) (Ax:List AV) (Ay:Int) (Az:List (AV × AV × Nat)) (AA AB:Nat) (AD:List AV) (AE:Nat) (AF:List AV) (AG:Int) (AH:Nat) (AI:List AV) (AJ:Nat) (AK:List AV) (AM:Int) (AN:Nat) (AO:List AV) (AP:Int) (AQ AR AS AT:Option Nat) (AU AW AX AY:Int) (AZ:Option Nat) (A2:Nat) (A3:List AV) (vi A4 A5 A6 A7 A8 ED EE sC vj:Int)=>
 cO QO
 (
 OM (S_ (if S_ (IntKind.i64.wrap (d0+d3))<d48 then S_ (IntKind.i64.wrap (d0+d3)) else d48)) G3 G4 G5 G6 G7 G8 G9 G_ As At Au Av Aw Ax Ay Az AA AB AD AE AF AG AH AI AJ AK AM AN AO AP AQ AR AS AT AU AW AX AY AZ A2 A3 vi A4 A5 A6 A7 A8)
 (
 dy N (
 (fun (acn aco:Int) (acp:Nat) (acq:List AV) (acr:Int) (acs:Nat) (acu:List AV) (acv:Nat) (acw:List AV) (acx:Int) (Ym:Nat) (Yn:List AV) (Yo:Nat) (Yp:List AV) (Yq:Nat) (Yr:List AV) (Ys:Int) (Yt:List (AV × AV × Nat)) (Yu Yv:Nat) (Yw:List AV) (Yx:Nat) (Yy:List AV) (Yz:Int) (YA:Nat) (YB:List AV) (YC:Nat) (YD:List AV) (YE:Int) (YF:Nat) (YG:List AV) (YH:Int) (YI YJ YK YL:Option Nat) (YM YN YO YP:Int) (YQ:Option Nat) (YR:Nat) (YS:List AV) (YT YU YV YW YX YY YZ Y0 Y1 Y2:Int)=>
 bg N (fun afi (e0 e1:Int) (e2:Nat) (e3:List AV) (e4:Int) (e5:Nat) (e6:List AV) (e7:Nat) (e8:List AV) (e9:Int) (SJ:Nat) (SK:List AV) (SL:Nat) (SM:List AV) (SN:Nat) (SO:List AV) (SP:Int) (SQ:List (AV × AV × Nat)) (SR SS:Nat) (SU:List AV) (SW:Nat) (SX:List AV) (SY:Int) (SZ:Nat) (OL:List AV) (S0:Nat) (S4:List AV) (S5:Int) (S6:Nat) (S7:List AV) (S8:Int) (S9 S' Ta Tb:Option Nat) (V_ Wa Wb Wc:Int) (e40:Option Nat) (e41:Nat) (e42:List AV) (e43 e44 e45 e46 e47 e48 e49 e50 e51 e52:Int)=>
 cO (S_ (decide (e1<e0)))
 (
 gO (S_ (decide ((0:Int)<=e1/\e1<(↑e2:Int)/\0<e3.length)))<|
 bO (aq .f32 (e3.getD (e1.toNat*1) AV.top)) fun H_=>
 cO (S_ (aM .f32 H_ e40==some .eq))
 (
 some ([aa.v (AV.int .i64 (S_ (if e1<(0:Int) then (0:Int) else e1))),aa.v (AV.int .i64 (S_ (if e1<(0:Int) then (7:Int) else (0:Int))))]))
 (
 afi e0 (S_ (IntKind.i64.wrap (e1+(1:Int)))) e2 e3 e4 e5 e6 e7 e8 e9 SJ SK SL SM SN SO SP SQ SR SS SU SW SX SY SZ OL S0 S4 S5 S6 S7 S8 S9 S' Ta Tb V_ Wa Wb Wc e40 e41 e42 e43 e44 e45 e46 e47 e48 e49 e50 e51 e52))
 (
 OM (S_ (if S_ (IntKind.i64.wrap (d0+d3))<d48 then S_ (IntKind.i64.wrap (d0+d3)) else d48)) e2 e3 e4 e5 e6 e7 e8 e9 SJ SK SL SM SN SO SP SQ SR SS SU SW SX SY SZ OL S0 S4 S5 S6 S7 S8 S9 S' Ta Tb V_ Wa Wb Wc e40 e41 e42 e43 e44 e45 e46 e47 e48))
 (fun _ _ _ _ _ _ _ _ _ _ _ _ _ _ _ _ _ _ _ _ _ _ _ _ _ _ _ _ _ _ _ _ _ _ _ _ _ _ _ _ _ _ _ _ _ _ _ _ _ _ _ _ _=>none) acn aco acp acq acr acs acu acv acw acx Ym Yn Yo Yp Yq Yr Ys Yt Yu Yv Yw Yx Yy Yz YA YB YC YD YE YF YG YH YI YJ YK YL YM YN YO YP YQ YR YS YT YU YV YW YX YY YZ Y0 Y1 Y2),PUnit.unit) fun acy=>
 cO (S_ (decide (sC>=(0:Int))))
 (
 gO (S_ (decide ((0:Int)<=sC)))<|
 acy.1 Lx (S_ (IntKind.i64.wrap (S_ (IntKind.i64.wrap (vj*vi))*(2:Int) ^ Min.min sC.toNat 64))) G3 G4 G5 G6 G7 G8 G9 G_ As At Au Av Aw Ax Ay Az AA AB AD AE AF AG AH AI AJ AK AM AN AO AP AQ AR AS AT AU AW AX AY AZ A2 A3 vi A4 A5 A6 A7 A8 ED EE sC vj)
 (
 acy.1 Lx vj G3 G4 G5 G6 G7 G8 G9 G_ As At Au Av Aw Ax Ay Az AA AB AD AE AF AG AH AI AJ AK AM AN AO AP AQ AR AS AT AU AW AX AY AZ A2 A3 vi A4 A5 A6 A7 A8 ED EE sC vj))),PUnit.unit) fun QP=>
 cO (S_ (decide (d2<(0:Int))))
 (
 gO (S_ (decide ((0:Int)<=S_ (IntKind.i64.wrap (d0.tdiv d3))/\S_ (IntKind.i64.wrap (d0.tdiv d3))<(↑d43:Int)/\0<d44.length)))<|
 bO (aq .f32 (d44.getD ((S_ (IntKind.i64.wrap (d0.tdiv d3))).toNat*1) AV.top)) fun v20=>
 gO (S_ (decide (d2=d2)))<|
 gO (S_ (decide (S_ (IntKind.i64.wrap (d0.tdiv d3))=S_ (IntKind.i64.wrap (d0.tdiv d3)))))<|
 gO (S_ (decide (d43=d43/\d44=d44)))<|
 gO (S_ (decide (d45=d45)))<|
 QP.1 (S_ (if S_ (IntKind.i64.wrap (d0+d3))<d48 then S_ (IntKind.i64.wrap (d0+d3)) else d48)) (!S_ (aM .f32 (S_ (az v20)) d42==some .eq)) d4 d5 d6 d7 d8 d9 d10 d11 d12 d13 d14 d15 d16 d17 d18 d19 d20 d21 d22 d23 d24 d25 d26 d27 d28 d29 d30 d31 d32 d33 d34 d35 d36 d37 d38 d39 d40 d41 d42 d43 d44 d45 d46 d47 d48 d49 d50 d2 (S_ (IntKind.i64.wrap (d0.tdiv d3))) d2 (S_ (IntKind.i64.wrap (d0.tdiv d3))))
 (
 bO (iq Tryz.prog 130 62 (AV.agg [AV.int .i64 d2,AV.int .i64 (S_ (IntKind.i64.wrap (d0.tdiv d3)))]) d19) fun EA=>
 bO (asAgg EA.snd) fun v20=>
 gO (S_ (decide (v20.length=2)))<|
 bO (aq .f32 (v20.getD 0 AV.top)) fun SI=>
 bO (aq .f32 (v20.tail.getD 0 AV.top)) fun H_=>
 gO (S_ (decide (d2=d2)))<|
 gO (S_ (decide (S_ (IntKind.i64.wrap (d0.tdiv d3))=S_ (IntKind.i64.wrap (d0.tdiv d3)))))<|
 gO (S_ (decide (d43=d43/\d44=d44)))<|
 gO (S_ (decide (d45=d45)))<|
 QP.1 (S_ (if S_ (IntKind.i64.wrap (d0+d3))<d48 then S_ (IntKind.i64.wrap (d0+d3)) else d48)) (!S_ (aM .f32 H_ d42==some .eq)) d4 d5 d6 d7 d8 d9 d10 d11 d12 d13 d14 d15 d16 d17 d18 d19 d20 d21 d22 d23 d24 d25 d26 d27 d28 d29 d30 d31 d32 d33 d34 d35 d36 d37 d38 d39 d40 d41 d42 d43 d44 d45 d46 d47 d48 d49 d50 d2 (S_ (IntKind.i64.wrap (d0.tdiv d3))) d2 (S_ (IntKind.i64.wrap (d0.tdiv d3)))))
 (
 Yi d0 (S_ (if S_ (IntKind.i64.wrap (d0+d3))<d48 then S_ (IntKind.i64.wrap (d0+d3)) else d48)) (S_ (IntKind.i64.wrap (d2+(1:Int)))) (S_ (IntKind.i64.wrap ((2:Int)*d3))) d4 d5 d6 d7 d8 d9 d10 d11 d12 d13 d14 d15 d16 d17 d18 d19 d20 d21 d22 d23 d24 d25 d26 d27 d28 d29 d30 d31 d32 d33 d34 d35 d36 d37 d38 d39 d40 d41 d42 d43 d44 d45 d46 d47 d48 d49 d50 d2 (S_ (IntKind.i64.wrap (d0.tdiv d3)))))
 (
 dy N (
 (fun (C6:Int) (G0:Bool) (Aa:Nat) (Ab:List AV) (Ac:Int) (Ad:Nat) (Ae:List AV) (Af:Nat) (Ag:List AV) (Ah:Int) (rr:Nat) (ry:List AV) (rz:Nat) (rA:List AV) (rB:Nat) (rC:List AV) (rD:Int) (rE:List (AV × AV × Nat)) (rF rG:Nat) (rH:List AV) (rI:Nat) (rJ:List AV) (rK:Int) (rL:Nat) (rM:List AV) (rN:Nat) (rO:List AV) (rP:Int) (rQ:Nat) (rR:List AV) (rS:Int) (rT rU rV rW:Option Nat) (rX rY rZ r4:Int) (JC:Option Nat) (JD:Nat) (JE:List AV) (EF JF JG JH JI JJ QQ QR A9 EG:Int)=>
 cO G0
 (
 OM d1 Aa Ab Ac Ad Ae Af Ag Ah rr ry rz rA rB rC rD rE rF rG rH rI rJ rK rL rM rN rO rP rQ rR rS rT rU rV rW rX rY rZ r4 JC JD JE EF JF JG JH JI JJ)
 (
 dy N (
 (fun (Lx QO:Int) (G3:Nat) (G4:List AV) (G5:Int) (G6:Nat) (G7:List AV) (G8:Nat) (G9:List AV) (G_:Int) (As:Nat) (At:List AV) (Au:Nat) (Av:List AV) (Aw:Nat) (Ax:List AV) (Ay:Int) (Az:List (AV × AV × Nat)) (AA AB:Nat) (AD:List AV) (AE:Nat) (AF:List AV) (AG:Int) (AH:Nat) (AI:List AV) (AJ:Nat) (AK:List AV) (AM:Int) (AN:Nat) (AO:List AV) (AP:Int) (AQ AR AS AT:Option Nat) (AU AW AX AY:Int) (AZ:Option Nat) (A2:Nat) (A3:List AV) (vi A4 A5 A6 A7 A8 ED EE sC vj:Int)=>
 bg N (fun afk (f0 f1:Int) (f2:Nat) (f3:List AV) (f4:Int) (f5:Nat) (f6:List AV) (f7:Nat) (f8:List AV) (f9:Int) (f10:Nat) (f11:List AV) (f12:Nat) (f13:List AV) (f14:Nat) (f15:List AV) (f16:Int) (f17:List (AV × AV × Nat)) (f18 f19:Nat) (f20:List AV) (f21:Nat) (f22:List AV) (f23:Int) (f24:Nat) (f25:List AV) (f26:Nat) (f27:List AV) (f28:Int) (f29:Nat) (f30:List AV) (f31:Int) (f32 f33 f34 f35:Option Nat) (f36 f37 f38 f39:Int) (f40:Option Nat) (f41:Nat) (f42:List AV) (f43 f44 f45 f46 f47 f48 f49 f50 f51 f52:Int)=>
 cO (S_ (decide (f1<f0)))
 (
 gO (S_ (decide ((0:Int)<=f1/\f1<(↑f2:Int)/\0<f3.length)))<|
 bO (aq .f32 (f3.getD (f1.toNat*1) AV.top)) fun v21=>
 cO (S_ (aM .f32 v21 f40==some .eq))
 (
 some ([aa.v (AV.int .i64 (S_ (if f1<(0:Int) then (0:Int) else f1))),aa.v (AV.int .i64 (S_ (if f1<(0:Int) then (7:Int) else (0:Int))))]))
 (
 afk f0 (S_ (IntKind.i64.wrap (f1+(1:Int)))) f2 f3 f4 f5 f6 f7 f8 f9 f10 f11 f12 f13 f14 f15 f16 f17 f18 f19 f20 f21 f22 f23 f24 f25 f26 f27 f28 f29 f30 f31 f32 f33 f34 f35 f36 f37 f38 f39 f40 f41 f42 f43 f44 f45 f46 f47 f48 f49 f50 f51 f52))
 (
 OM d1 f2 f3 f4 f5 f6 f7 f8 f9 f10 f11 f12 f13 f14 f15 f16 f17 f18 f19 f20 f21 f22 f23 f24 f25 f26 f27 f28 f29 f30 f31 f32 f33 f34 f35 f36 f37 f38 f39 f40 f41 f42 f43 f44 f45 f46 f47 f48))
 (fun _ _ _ _ _ _ _ _ _ _ _ _ _ _ _ _ _ _ _ _ _ _ _ _ _ _ _ _ _ _ _ _ _ _ _ _ _ _ _ _ _ _ _ _ _ _ _ _ _ _ _ _ _=>none) Lx QO G3 G4 G5 G6 G7 G8 G9 G_ As At Au Av Aw Ax Ay Az AA AB AD AE AF AG AH AI AJ AK AM AN AO AP AQ AR AS AT AU AW AX AY AZ A2 A3 vi A4 A5 A6 A7 A8 ED EE sC vj),PUnit.unit) fun QP=>
 cO (S_ (decide (A9>=(0:Int))))
 (
 gO (S_ (decide ((0:Int)<=A9)))<|
 QP.1 C6 (S_ (IntKind.i64.wrap (S_ (IntKind.i64.wrap (EG*EF))*(2:Int) ^ Min.min A9.toNat 64))) Aa Ab Ac Ad Ae Af Ag Ah rr ry rz rA rB rC rD rE rF rG rH rI rJ rK rL rM rN rO rP rQ rR rS rT rU rV rW rX rY rZ r4 JC JD JE EF JF JG JH JI JJ QQ QR A9 EG)
 (
 QP.1 C6 EG Aa Ab Ac Ad Ae Af Ag Ah rr ry rz rA rB rC rD rE rF rG rH rI rJ rK rL rM rN rO rP rQ rR rS rT rU rV rW rX rY rZ r4 JC JD JE EF JF JG JH JI JJ QQ QR A9 EG))),PUnit.unit) fun G1=>
 cO (S_ (decide (d51<(0:Int))))
 (
 gO (S_ (decide ((0:Int)<=d52/\d52<(↑d43:Int)/\0<d44.length)))<|
 bO (aq .f32 (d44.getD (d52.toNat*1) AV.top)) fun yf=>
 gO (S_ (decide (d51=d51)))<|
 gO (S_ (decide (d52=d52)))<|
 gO (S_ (decide (d43=d43/\d44=d44)))<|
 gO (S_ (decide (d45=d45)))<|
 G1.1 d1 (!S_ (aM .f32 (S_ (az yf)) d42==some .eq)) d4 d5 d6 d7 d8 d9 d10 d11 d12 d13 d14 d15 d16 d17 d18 d19 d20 d21 d22 d23 d24 d25 d26 d27 d28 d29 d30 d31 d32 d33 d34 d35 d36 d37 d38 d39 d40 d41 d42 d43 d44 d45 d46 d47 d48 d49 d50 d51 d52 d51 d52)
 (
 bO (iq Tryz.prog 130 62 (AV.agg [AV.int .i64 d51,AV.int .i64 d52]) d19) fun uF=>
 bO (asAgg uF.snd) fun yf=>
 gO (S_ (decide (yf.length=2)))<|
 bO (aq .f32 (yf.getD 0 AV.top)) fun v20=>
 bO (aq .f32 (yf.tail.getD 0 AV.top)) fun v21=>
 gO (S_ (decide (d51=d51)))<|
 gO (S_ (decide (d52=d52)))<|
 gO (S_ (decide (d43=d43/\d44=d44)))<|
 gO (S_ (decide (d45=d45)))<|
 G1.1 d1 (!S_ (aM .f32 v21 d42==some .eq)) d4 d5 d6 d7 d8 d9 d10 d11 d12 d13 d14 d15 d16 d17 d18 d19 d20 d21 d22 d23 d24 d25 d26 d27 d28 d29 d30 d31 d32 d33 d34 d35 d36 d37 d38 d39 d40 d41 d42 d43 d44 d45 d46 d47 d48 d49 d50 d51 d52 d51 d52)))
 (fun _ _ _ _ _ _ _ _ _ _ _ _ _ _ _ _ _ _ _ _ _ _ _ _ _ _ _ _ _ _ _ _ _ _ _ _ _ _ _ _ _ _ _ _ _ _ _ _ _ _ _ _ _=>none) c0 (S_ (IntKind.i64.wrap (c0+(1:Int)))) ((0:Int)) c44 c1 c2 c3 c4 c5 c6 c7 c8 c9 GX FF zW Ex Lv Qx Qy Qz QA NC QB QC QD QE QF QG QH QI QJ QK GZ z8 z_ Ez ND Yj EB EC Yk Ie Yl Wd We NF c44 c45 c46 c47 ((-1:Int)) c0)
 (
 some ([aa.v (AV.int .i64 (S_ (if NF<(0:Int) then (0:Int) else NF))),aa.v (AV.int .i64 (S_ (if NF<(0:Int) then (7:Int) else (0:Int))))])))
 (fun _ _ _ _ _ _ _ _ _ _ _ _ _ _ _ _ _ _ _ _ _ _ _ _ _ _ _ _ _ _ _ _ _ _ _ _ _ _ _ _ _ _ _ _ _ _ _ _=>none) ((0:Int)) b1 b2 b3 b4 b5 b6 b7 b8 b9 nn oZ qi qR uC uD tP tQ uE vg w8 zX zY vh zZ w_ yg xP z6 C5 m4 JA Ib JA Ib mM Lw Ic xQ Ib w_ yg xP ((-1:Int)) xP ((↑w_:Int)) ((0:Int)) ((↑w_:Int))))
 (fun _ _ _ _ _ _ _ _ _ _ _ _ _ _ _ _ _ _ _ _ _ _ _ _ _ _ _ _ _ _ _ _ _ _ _ _ _ _ _=>none) ((0:Int)) a4 a5 a6 a7 a8 a9 qQ zV a12 Ey FG NB a21 sU tR GY xN xO a20 a21 sU tR 0 ([]) a21 sU tR a21 sU tR (some 0) (some 0) (S_ (az v6)) (S_ (az v6)) tR ((↑a21:Int)) ((0:Int)) ((↑a4:Int))))
 (fun _ _ _ _ _ _ _ _ _ _ _ _ _ _ _ _ _ _ _ _ _ _ _ _=>none) m ls ((↑m:Int)) ((0:Int)) n cs b m ls 2 (ag (ag (aX (cM (Go.Value.int IntKind.i64 (0:Int))).cells 2) 0 [AV.int .i64 (S_ (iK n (fO cs) b m ls))]) 1 [AV.int .i64 (S_ (if S_ ((↑n:Int)==(0:Int))=true then (12:Int) else (0:Int)))]) b m ls 0 ([]) ((0:Int)) ([]) 0 0 ([]) n cs b)):=by kernel_rfl
end Go.Abs
end
