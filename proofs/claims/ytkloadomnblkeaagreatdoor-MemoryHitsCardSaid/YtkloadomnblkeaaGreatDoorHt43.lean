/- Part 43 of the library of the proof: an abstract run of the program. -/
import Derived.Test.YtkloadomnblkeaaGreatDoorHt41
import Derived.Test.YtkloadomnblkeaaGreatDoorHt42
set_option linter.unusedVariables false
set_option linter.unusedSimpArgs false

set_option maxRecDepth 100000
noncomputable section
namespace Go.Abs
open Go.Proofs Classical
theorem Yb (N n:Nat) (cs:List AV) (b:Int) (f t c:Int) (o:Option Nat):(dA mzX PT N 12).call (List aa) 13 [.s (.agg [.b (.list n cs),.b (.int .i64 b)]),.s (.agg [.b (.int .i64 f),.b (.int .i64 t),.b (.int .i64 c),.b (.aL .f32 o)])] [] (bp [false])=(
 dy N (
 (fun (Jy:Bool) (aw:Nat) (ax:List AV) (aR cl QS QT:Int) (bN:Option Nat)=>
 cO Jy
 (
 some ([aa.v (AV.bool true)]))
 (
 gO (S_ (decide (bu aw ax/\aw<=100000000)))<|
 gO (S_ (decide (bu (S_ aw) (S_ ax))))<|
 gO (S_ (decide (bu aw ax/\aw<=100000000)))<|
 gO (S_ (decide (bu (S_ aw) (S_ ax)/\qd (S_ (al (S_ aw) (fO (S_ ax)) aR).snd.length) (S_ (an (al (S_ aw) (fO (S_ ax)) aR).snd)))))<|
 gO (S_ (decide (bu aw ax/\aw<=100000000)))<|
 gO (S_ (decide (bu (S_ aw) (S_ ax)/\qd (S_ (al (S_ aw) (fO (S_ ax)) aR).snd.length) (S_ (an (al (S_ aw) (fO (S_ ax)) aR).snd)))))<|
 gO (S_ (decide (bu aw ax/\aw<=100000000)))<|
 gO (S_ (decide (bu (S_ aw) (S_ ax))))<|
 gO (S_ (decide (bu aw ax/\aw<=100000000)))<|
 gO (S_ (decide (bu (S_ aw) (S_ ax)/\qd (S_ (al (S_ aw) (fO (S_ ax)) aR).snd.length) (S_ (an (al (S_ aw) (fO (S_ ax)) aR).snd)))))<|
 gO (S_ (decide (bu aw ax/\aw<=100000000)))<|
 gO (S_ (decide (bu (S_ aw) (S_ ax)/\bu 1 (ag (aX (cM (Go.Value.float .f32 0)).cells 1) 0 [AV.aL .f32 bN]))))<|
 dy N (
 (fun (QU:Nat) (Wf:List AV) (acA acB acC acD acE acF acG:Int) (acH:Nat) (Y3:List AV) (Y4:Bool) (Y5:Nat) (Y6:List AV) (Y7 Y8 Y9 Y':Int) (Y_:Option Nat) (Za:Nat) (Zb:List AV) (Zc:Int) (Zd:Nat) (Ze:List AV) (Zf Zg:Int) (Zh:Nat) (Zi:List AV)=>
 cO Y4
 (
 some ([aa.v (AV.bool false)]))
 (
 bg N (fun JB (a0:Nat) (a1:List AV) (a2 a3 a4 a5 a6 a7 a8:Int) (a9:Nat) (qQ:List AV) (zV a12 Ey:Int) (FG:Nat) (NB:List AV) (Qw GY:Int) (xN:Nat) (xO:List AV) (a20 a21 sU tR:Int) (a24:Option Nat) (sV:Nat) (w9:List AV) (uG:Int) (a28:Nat) (Ig:List AV) (Ih a31:Int) (Ii:Nat) (Ij:List AV)=>
 cO (S_ (decide (GY<Qw)))
 (
 gO (S_ (decide ((0:Int)<=GY/\GY<(↑FG:Int)/\0<NB.length)))<|
 bO (aq .f32 (NB.getD (GY.toNat*1) AV.top)) fun EA=>
 dy N (
 (fun (Ly:Nat) (Ha:List AV) (acI acJ acK acL acM qS Wg:Int) (acN:Nat) (Zj:List AV) (JK QV Zk QW:Int) (JL:Option Nat) (Zl:Nat) (Zm:List AV) (Zn Zo:Int) (Zp:Nat) (Zq:List AV) (Zr Zs Zt Zu:Int) (Zv:Option Nat) (Zw:Nat) (Zx:List AV) (Zy:Int) (Zz:Nat) (ZA:List AV) (ZB ZC:Int) (ZD:Nat) (ZE:List AV)=>
 dy N (
 (fun (QX:Nat) (QY:List AV) (Lz LA QZ Q0 Q1 Q2 Q3:Int) (Q4:Nat) (JM:List AV) (JN JO JP A_:Int) (vk:Option Nat) (JQ:Nat) (JR:List AV) (JS ZF:Int) (ZG:Bool) (ZH:Nat) (ZI:List AV) (ZJ Q5 ZK ZL:Int) (JT:Option Nat) (ZM:Nat) (ZN:List AV) (ZO:Int) (ZP:Nat) (ZQ:List AV) (ZR ZS:Int) (ZT:Nat) (ZU:List AV)=>
 cO ZG
 (
 some ([aa.v (AV.bool false)]))
 (
 dy N (
 (fun (Ba:Nat) (xb:List AV) (C7 C8 Bb Bc C9 C' C_:Int) (Da:Nat) (vl:List AV) (vm vn vo vp:Int) (Q6:Option Nat) (vq:Nat) (vr:List AV) (vt vu:Int) (ZV:Bool) (vw:Nat) (vz:List AV) (vA sD vB vC:Int) (nt:Option Nat) (vD:Nat) (vE:List AV) (vF:Int) (vG:Nat) (vI:List AV) (vJ vK:Int) (vL:Nat) (vM:List AV)=>
 cO ZV
 (
 some ([aa.v (AV.bool false)]))
 (
 dy N (
 (fun (acO:Nat) (acP:List AV) (acQ acR acS acT acU acV acW:Int) (acX:Nat) (ZW:List AV) (ZX ZY ZZ:Int) (Z0:Nat) (Z1:List AV) (Z2 Z3:Int) (Z4:Bool) (Z5:Nat) (Z6:List AV) (Z7 Z8 Z9 Z':Int) (Z_:Option Nat) (aaa:Nat) (aab:List AV) (aac:Int) (aad:Nat) (aae:List AV) (aaf aag:Int) (aah:Nat) (aai:List AV)=>
 cO Z4
 (
 some ([aa.v (AV.bool false)]))
 (
 JB acO acP acQ acR acS acT acU acV acW acX ZW ZX ZY ZZ Z0 Z1 Z2 (S_ (IntKind.i64.wrap (Z3+(1:Int)))) Z5 Z6 Z7 Z8 Z9 Z' Z_ aaa aab aac aad aae aaf aag aah aai)),PUnit.unit) fun NG=>
 cO (S_ (decide (vp>=sD)))
 (
 cO (S_ (decide (vp>(0:Int))))
 (
 cO (S_ (aM .f32 Q6 nt==some .gt||aM .f32 Q6 nt==some .eq))
 (
 gO (S_ (decide ((0:Int)<=S_ (IntKind.i64.wrap (vp-(1:Int)))/\S_ (IntKind.i64.wrap (vp-(1:Int)))<(↑Ba:Int)/\0<xb.length)))<|
 bO (aq .f32 (xb.getD ((S_ (IntKind.i64.wrap (vp-(1:Int)))).toNat*1) AV.top)) fun v30=>
 cO (S_ (aM .f32 v30 nt==some .lt))
 (
 cO (S_ (Bc != (0:Int)))
 (
 NG.1 Ba xb C7 C8 Bb Bc C9 C' C_ Da vl vm vn vo vq vr vt vu true vw vz vA sD vB vC nt vD vE vF vG vI vJ vK vL vM)
 (
 NG.1 Ba xb C7 C8 Bb Bc C9 C' C_ Da vl vm vn vo vq vr vt vu (S_ (decide (Bb>vp))) vw vz vA sD vB vC nt vD vE vF vG vI vJ vK vL vM))
 (
 NG.1 Ba xb C7 C8 Bb Bc C9 C' C_ Da vl vm vn vo vq vr vt vu false vw vz vA sD vB vC nt vD vE vF vG vI vJ vK vL vM))
 (
 NG.1 Ba xb C7 C8 Bb Bc C9 C' C_ Da vl vm vn vo vq vr vt vu false vw vz vA sD vB vC nt vD vE vF vG vI vJ vK vL vM))
 (
 NG.1 Ba xb C7 C8 Bb Bc C9 C' C_ Da vl vm vn vo vq vr vt vu false vw vz vA sD vB vC nt vD vE vF vG vI vJ vK vL vM))
 (
 NG.1 Ba xb C7 C8 Bb Bc C9 C' C_ Da vl vm vn vo vq vr vt vu false vw vz vA sD vB vC nt vD vE vF vG vI vJ vK vL vM))),PUnit.unit) fun afp=>
 bO (
 cO (S_ (decide (A_>=Q5)))
 (
 some (S_ (aM .f32 vk JT==some .gt||aM .f32 vk JT==some .eq)))
 (
 some false)) fun v24=>
 bO (
 cO v24
 (
 cO (S_ (LA != (0:Int)))
 (
 some true)
 (
 some (S_ (decide (Lz>A_)))))
 (
 some false)) fun v25=>
 afp.1 QX QY Lz LA QZ Q0 Q1 Q2 Q3 Q4 JM JN JO JP A_ vk JQ JR JS ZF v25 ZH ZI ZJ Q5 ZK ZL JT ZM ZN ZO ZP ZQ ZR ZS ZT ZU)),PUnit.unit) fun aaj=>
 bO (
 cO (S_ (Wg==(0:Int)))
 (
 cO (S_ (decide (qS<(0:Int))))
 (
 some true)
 (
 cO (S_ (decide (qS>=(↑Ly:Int))))
 (
 some true)
 (
 gO (S_ (decide ((0:Int)<=qS/\qS<(↑Ly:Int)/\0<Ha.length)))<|
 bO (aq .f32 (Ha.getD (qS.toNat*1) AV.top)) fun v27=>
 cO (S_ (aM .f32 JL v27==some .gt))
 (
 some true)
 (
 cO (S_ (decide (QW<qS)))
 (
 gO (S_ (decide ((0:Int)<=qS/\qS<(↑Ly:Int)/\0<Ha.length)))<|
 bO (aq .f32 (Ha.getD (qS.toNat*1) AV.top)) fun v31=>
 some (S_ (aM .f32 JL v31==some .eq)))
 (
 some false)))))
 (
 some false)) fun SI=>
 aaj.1 Ly Ha acI acJ acK acL acM qS Wg acN Zj JK (S_ (if JK>QV then JK else QV)) Zk QW JL Zl Zm Zn Zo SI Zp Zq Zr Zs Zt Zu Zv Zw Zx Zy Zz ZA ZB ZC ZD ZE),PUnit.unit) fun acY=>
 cO (S_ (aM .f32 EA a24==some .lt))
 (
 acY.1 a0 a1 a2 a3 a4 a5 a6 a7 a8 a9 qQ ((0:Int)) a12 Ey GY EA FG NB Qw GY xN xO a20 a21 sU tR a24 sV w9 uG a28 Ig Ih a31 Ii Ij)
 (
 acY.1 a0 a1 a2 a3 a4 a5 a6 a7 a8 a9 qQ (S_ (IntKind.i64.wrap (zV+(1:Int)))) a12 (S_ (IntKind.i64.wrap (Ey+(1:Int)))) GY EA FG NB Qw GY xN xO a20 a21 sU tR a24 sV w9 uG a28 Ig Ih a31 Ii Ij))
 (
 dy N (
 (fun (Wh:Nat) (acZ:List AV) (Wi Wj:Int) (ac0:Bool) (ac1:Nat) (ac2:List AV) (ac3 ac4 ac5 aak:Int) (aal:Option Nat) (aam:Nat) (aan:List AV) (aao:Int) (aap:Nat) (aaq:List AV) (JU JV:Int) (aar:Nat) (aas:List AV)=>
 cO ac0
 (
 some ([aa.v (AV.bool false)]))
 (
 cO (S_ (Wj==(0:Int)))
 (
 bO (
 cO (S_ (Wi==(7:Int)))
 (
 some true)
 (
 some false)) fun v21=>
 some ([aa.v (AV.bool v21)]))
 (
 dy N (
 (fun (QX:Nat) (QY:List AV) (Lz:Bool) (LA:Nat) (QZ:List AV) (Q0 Q1 Q2 Q3:Int) (Q4:Option Nat) (JM:Nat) (JN:List AV) (JO:Int) (JP:Nat) (A_:List AV) (vk JQ:Int) (JR:Nat) (JS:List AV)=>
 cO Lz
 (
 some ([aa.v (AV.bool false)]))
 (
 gO (S_ (decide ((0:Int)<=(0:Int)/\(0:Int)<(↑2:Int))))<|
 bg N (fun afr (b0:Nat) (b1:List AV) (b2:Int) (b3:Nat) (b4:List AV) (b5 b6 b7 b8:Int) (b9:Option Nat) (nn:Nat) (oZ:List AV) (qi:Int) (qR:Nat) (uC:List AV) (uD tP:Int) (tQ:Nat) (uE:List AV)=>
 gO (S_ (decide ((0:Int)<=(1:Int)/\(1:Int)<(↑2:Int))))<|
 cO (S_ (decide (b2<tP)))
 (
 gO (S_ (decide ((0:Int)<=b2/\b2<(↑b0:Int)/\0<b1.length)))<|
 bO (aq .f32 (b1.getD (b2.toNat*1) AV.top)) fun v28=>
 cO (S_ (aM .f32 v28 b9==some .lt))
 (
 some ([aa.v (AV.bool false)]))
 (
 afr b0 b1 (S_ (IntKind.i64.wrap (b2+(1:Int)))) b3 b4 b5 b6 b7 b8 b9 nn oZ qi qR uC uD tP tQ uE))
 (
 some ([aa.v (AV.bool true)])))
 (fun _ _ _ _ _ _ _ _ _ _ _ _ _ _ _ _ _ _ _=>none) QX QY vk LA QZ Q0 Q1 Q2 Q3 Q4 JM JN JO JP A_ vk JQ JR JS)),PUnit.unit) fun aaj=>
 bO (
 cO (S_ (Wi != (0:Int)))
 (
 some true)
 (
 gO (S_ (decide ((0:Int)<=(0:Int)/\(0:Int)<(↑2:Int))))<|
 some (S_ (decide (JU<(0:Int)))))) fun SI=>
 bO (
 cO SI
 (
 some true)
 (
 gO (S_ (decide ((0:Int)<=(1:Int)/\(1:Int)<(↑2:Int))))<|
 some (S_ (decide (JV>(↑Wh:Int)))))) fun H_=>
 bO (
 cO H_
 (
 some true)
 (
 gO (S_ (decide ((0:Int)<=(1:Int)/\(1:Int)<(↑2:Int))))<|
 gO (S_ (decide ((0:Int)<=(0:Int)/\(0:Int)<(↑2:Int))))<|
 some (S_ (S_ (IntKind.i64.wrap (JV-JU)) != Wj)))) fun v24=>
 aaj.1 Wh acZ v24 ac1 ac2 ac3 ac4 ac5 aak aal aam aan aao aap aaq JU JV aar aas))),PUnit.unit) fun tS=>
 gO (S_ (decide ((0:Int)<=(1:Int)/\(1:Int)<(↑a9:Int)/\0<qQ.length)))<|
 bO (asInt IntKind.i64 (qQ.getD 1 AV.top)) fun v20=>
 cO (S_ (v20 != Ey))
 (
 tS.1 a0 a1 a6 a12 true xN xO a20 a21 sU tR a24 sV w9 uG a28 Ig Ih a31 Ii Ij)
 (
 cO (S_ (a3==(0:Int)))
 (
 cO (S_ (decide (a2<a21)))
 (
 tS.1 a0 a1 a6 a12 true xN xO a20 a21 sU tR a24 sV w9 uG a28 Ig Ih a31 Ii Ij)
 (
 cO (S_ (decide (a2>=(↑a0:Int))))
 (
 tS.1 a0 a1 a6 a12 true xN xO a20 a21 sU tR a24 sV w9 uG a28 Ig Ih a31 Ii Ij)
 (
 gO (S_ (decide ((0:Int)<=a2/\a2<(↑a0:Int)/\0<a1.length)))<|
 bO (aq .f32 (a1.getD (a2.toNat*1) AV.top)) fun v26=>
 cO (S_ (aM .f32 v26 a24==some .lt))
 (
 tS.1 a0 a1 a6 a12 true xN xO a20 a21 sU tR a24 sV w9 uG a28 Ig Ih a31 Ii Ij)
 (
 cO (S_ (a5==(0:Int)))
 (
 cO (S_ (decide (a4<S_ (if a21>(1:Int) then a21 else (1:Int)))))
 (
 tS.1 a0 a1 a6 a12 true xN xO a20 a21 sU tR a24 sV w9 uG a28 Ig Ih a31 Ii Ij)
 (
 cO (S_ (decide (a4>=(↑a0:Int))))
 (
 tS.1 a0 a1 a6 a12 true xN xO a20 a21 sU tR a24 sV w9 uG a28 Ig Ih a31 Ii Ij)
 (
 gO (S_ (decide ((0:Int)<=a4/\a4<(↑a0:Int)/\0<a1.length)))<|
 bO (aq .f32 (a1.getD (a4.toNat*1) AV.top)) fun v32=>
 cO (S_ (aM .f32 v32 a24==some .lt))
 (
 tS.1 a0 a1 a6 a12 true xN xO a20 a21 sU tR a24 sV w9 uG a28 Ig Ih a31 Ii Ij)
 (
 gO (S_ (decide ((0:Int)<=S_ (IntKind.i64.wrap (a4-(1:Int)))/\S_ (IntKind.i64.wrap (a4-(1:Int)))<(↑a0:Int)/\0<a1.length)))<|
 bO (aq .f32 (a1.getD ((S_ (IntKind.i64.wrap (a4-(1:Int)))).toNat*1) AV.top)) fun v35=>
 tS.1 a0 a1 a6 a12 (S_ (aM .f32 v35 a24==some .gt||aM .f32 v35 a24==some .eq)) xN xO a20 a21 sU tR a24 sV w9 uG a28 Ig Ih a31 Ii Ij))))
 (
 tS.1 a0 a1 a6 a12 false xN xO a20 a21 sU tR a24 sV w9 uG a28 Ig Ih a31 Ii Ij)))))
 (
 cO (S_ (a5==(0:Int)))
 (
 cO (S_ (decide (a4<S_ (if a21>(1:Int) then a21 else (1:Int)))))
 (
 tS.1 a0 a1 a6 a12 true xN xO a20 a21 sU tR a24 sV w9 uG a28 Ig Ih a31 Ii Ij)
 (
 cO (S_ (decide (a4>=(↑a0:Int))))
 (
 tS.1 a0 a1 a6 a12 true xN xO a20 a21 sU tR a24 sV w9 uG a28 Ig Ih a31 Ii Ij)
 (
 gO (S_ (decide ((0:Int)<=a4/\a4<(↑a0:Int)/\0<a1.length)))<|
 bO (aq .f32 (a1.getD (a4.toNat*1) AV.top)) fun v27=>
 cO (S_ (aM .f32 v27 a24==some .lt))
 (
 tS.1 a0 a1 a6 a12 true xN xO a20 a21 sU tR a24 sV w9 uG a28 Ig Ih a31 Ii Ij)
 (
 gO (S_ (decide ((0:Int)<=S_ (IntKind.i64.wrap (a4-(1:Int)))/\S_ (IntKind.i64.wrap (a4-(1:Int)))<(↑a0:Int)/\0<a1.length)))<|
 bO (aq .f32 (a1.getD ((S_ (IntKind.i64.wrap (a4-(1:Int)))).toNat*1) AV.top)) fun v30=>
 tS.1 a0 a1 a6 a12 (S_ (aM .f32 v30 a24==some .gt||aM .f32 v30 a24==some .eq)) xN xO a20 a21 sU tR a24 sV w9 uG a28 Ig Ih a31 Ii Ij))))
 (
 tS.1 a0 a1 a6 a12 false xN xO a20 a21 sU tR a24 sV w9 uG a28 Ig Ih a31 Ii Ij)))))
 (fun _ _ _ _ _ _ _ _ _ _ _ _ _ _ _ _ _ _ _ _ _ _ _ _ _ _ _ _ _ _ _ _ _ _=>none) QU Wf acA acB acC acD acE acF acG acH Y3 ((0:Int)) ((0:Int)) ((0:Int)) QU Wf ((↑QU:Int)) ((0:Int)) Y5 Y6 Y7 Y8 Y9 Y' Y_ Za Zb Zc Zd Ze Zf Zg Zh Zi)),PUnit.unit) fun Q7=>
 cO (S_ (S_ (l_ (S_ aw) (fO (S_ ax)) aR) != (0:Int)))
 (
 Q7.1 aw ax (S_ (qF (cw (S_ aw) (fO (S_ ax)) (S_ (al (S_ aw) (fO (S_ ax)) aR).fst) (S_ (al (S_ aw) (fO (S_ ax)) aR).snd.length) (S_ (an (al (S_ aw) (fO (S_ ax)) aR).snd)) cl bN) (aF (fun j=>dP ((fO (S_ ax)).getD j none) bN) (S_ aw-cl.toNat) cl.toNat))) (S_ (qe (cw (S_ aw) (fO (S_ ax)) (S_ (al (S_ aw) (fO (S_ ax)) aR).fst) (S_ (al (S_ aw) (fO (S_ ax)) aR).snd.length) (S_ (an (al (S_ aw) (fO (S_ ax)) aR).snd)) cl bN) (aF (fun j=>dP ((fO (S_ ax)).getD j none) bN) (S_ aw-cl.toNat) cl.toNat))) (S_ (qF (cw (S_ aw) (fO (S_ ax)) (S_ (al (S_ aw) (fO (S_ ax)) aR).fst) (S_ (al (S_ aw) (fO (S_ ax)) aR).snd.length) (S_ (an (al (S_ aw) (fO (S_ ax)) aR).snd)) cl bN) (aF (bA (fO (S_ ax)) bN) (S_ aw-cl.toNat) cl.toNat))) (S_ (qe (cw (S_ aw) (fO (S_ ax)) (S_ (al (S_ aw) (fO (S_ ax)) aR).fst) (S_ (al (S_ aw) (fO (S_ ax)) aR).snd.length) (S_ (an (al (S_ aw) (fO (S_ ax)) aR).snd)) cl bN) (aF (bA (fO (S_ ax)) bN) (S_ aw-cl.toNat) cl.toNat))) (S_ (oO (S_ aw) (fO (S_ ax)) bN)) (S_ (qF (eI (S_ aw) (fO (S_ ax)) (S_ (al (S_ aw) (fO (S_ ax)) aR).fst) (S_ (al (S_ aw) (fO (S_ ax)) aR).snd.length) (S_ (an (al (S_ aw) (fO (S_ ax)) aR).snd))) (gj (S_ aw) (fO (S_ ax)) (S_ (al (S_ aw) (fO (S_ ax)) aR).fst) (S_ (an (al (S_ aw) (fO (S_ ax)) aR).snd))))) (S_ (qe (eI (S_ aw) (fO (S_ ax)) (S_ (al (S_ aw) (fO (S_ ax)) aR).fst) (S_ (al (S_ aw) (fO (S_ ax)) aR).snd.length) (S_ (an (al (S_ aw) (fO (S_ ax)) aR).snd))) (gj (S_ aw) (fO (S_ ax)) (S_ (al (S_ aw) (fO (S_ ax)) aR).fst) (S_ (an (al (S_ aw) (fO (S_ ax)) aR).snd))))) (S_ (eF (S_ aw) (fO (S_ ax)) 1 (fO (ag (aX (cM (Go.Value.float .f32 0)).cells 1) 0 [AV.aL .f32 bN]))).length) (S_ (cF IntKind.i64 (eF (S_ aw) (fO (S_ ax)) 1 (fO (ag (aX (cM (Go.Value.float .f32 0)).cells 1) 0 [AV.aL .f32 bN]))))) true aw ax aR cl QS QT bN 0 ([]) (S_ (al (S_ aw) (fO (S_ ax)) aR).fst) (S_ (al (S_ aw) (fO (S_ ax)) aR).snd.length) (S_ (an (al (S_ aw) (fO (S_ ax)) aR).snd)) (S_ (↑(gX (S_ aw) (fO (S_ ax)) bN).fst:Int)) (S_ (↑(gX (S_ aw) (fO (S_ ax)) bN).snd:Int)) 1 (ag (aX (cM (Go.Value.float .f32 0)).cells 1) 0 [AV.aL .f32 bN]))
 (
 cO (S_ (S_ (qO (S_ aw) (fO (S_ ax)) 1 (fO (ag (aX (cM (Go.Value.float .f32 0)).cells 1) 0 [AV.aL .f32 bN]))) != (0:Int)))
 (
 Q7.1 aw ax (S_ (qF (cw (S_ aw) (fO (S_ ax)) (S_ (al (S_ aw) (fO (S_ ax)) aR).fst) (S_ (al (S_ aw) (fO (S_ ax)) aR).snd.length) (S_ (an (al (S_ aw) (fO (S_ ax)) aR).snd)) cl bN) (aF (fun j=>dP ((fO (S_ ax)).getD j none) bN) (S_ aw-cl.toNat) cl.toNat))) (S_ (qe (cw (S_ aw) (fO (S_ ax)) (S_ (al (S_ aw) (fO (S_ ax)) aR).fst) (S_ (al (S_ aw) (fO (S_ ax)) aR).snd.length) (S_ (an (al (S_ aw) (fO (S_ ax)) aR).snd)) cl bN) (aF (fun j=>dP ((fO (S_ ax)).getD j none) bN) (S_ aw-cl.toNat) cl.toNat))) (S_ (qF (cw (S_ aw) (fO (S_ ax)) (S_ (al (S_ aw) (fO (S_ ax)) aR).fst) (S_ (al (S_ aw) (fO (S_ ax)) aR).snd.length) (S_ (an (al (S_ aw) (fO (S_ ax)) aR).snd)) cl bN) (aF (bA (fO (S_ ax)) bN) (S_ aw-cl.toNat) cl.toNat))) (S_ (qe (cw (S_ aw) (fO (S_ ax)) (S_ (al (S_ aw) (fO (S_ ax)) aR).fst) (S_ (al (S_ aw) (fO (S_ ax)) aR).snd.length) (S_ (an (al (S_ aw) (fO (S_ ax)) aR).snd)) cl bN) (aF (bA (fO (S_ ax)) bN) (S_ aw-cl.toNat) cl.toNat))) (S_ (oO (S_ aw) (fO (S_ ax)) bN)) (S_ (qF (eI (S_ aw) (fO (S_ ax)) (S_ (al (S_ aw) (fO (S_ ax)) aR).fst) (S_ (al (S_ aw) (fO (S_ ax)) aR).snd.length) (S_ (an (al (S_ aw) (fO (S_ ax)) aR).snd))) (gj (S_ aw) (fO (S_ ax)) (S_ (al (S_ aw) (fO (S_ ax)) aR).fst) (S_ (an (al (S_ aw) (fO (S_ ax)) aR).snd))))) (S_ (qe (eI (S_ aw) (fO (S_ ax)) (S_ (al (S_ aw) (fO (S_ ax)) aR).fst) (S_ (al (S_ aw) (fO (S_ ax)) aR).snd.length) (S_ (an (al (S_ aw) (fO (S_ ax)) aR).snd))) (gj (S_ aw) (fO (S_ ax)) (S_ (al (S_ aw) (fO (S_ ax)) aR).fst) (S_ (an (al (S_ aw) (fO (S_ ax)) aR).snd))))) (S_ (eF (S_ aw) (fO (S_ ax)) 1 (fO (ag (aX (cM (Go.Value.float .f32 0)).cells 1) 0 [AV.aL .f32 bN]))).length) (S_ (cF IntKind.i64 (eF (S_ aw) (fO (S_ ax)) 1 (fO (ag (aX (cM (Go.Value.float .f32 0)).cells 1) 0 [AV.aL .f32 bN]))))) true aw ax aR cl QS QT bN 0 ([]) (S_ (al (S_ aw) (fO (S_ ax)) aR).fst) (S_ (al (S_ aw) (fO (S_ ax)) aR).snd.length) (S_ (an (al (S_ aw) (fO (S_ ax)) aR).snd)) (S_ (↑(gX (S_ aw) (fO (S_ ax)) bN).fst:Int)) (S_ (↑(gX (S_ aw) (fO (S_ ax)) bN).snd:Int)) 1 (ag (aX (cM (Go.Value.float .f32 0)).cells 1) 0 [AV.aL .f32 bN]))
 (
 cO (S_ ((↑(S_ (eF (S_ aw) (fO (S_ ax)) 1 (fO (ag (aX (cM (Go.Value.float .f32 0)).cells 1) 0 [AV.aL .f32 bN]))).length):Int) != (2:Int)))
 (
 Q7.1 aw ax (S_ (qF (cw (S_ aw) (fO (S_ ax)) (S_ (al (S_ aw) (fO (S_ ax)) aR).fst) (S_ (al (S_ aw) (fO (S_ ax)) aR).snd.length) (S_ (an (al (S_ aw) (fO (S_ ax)) aR).snd)) cl bN) (aF (fun j=>dP ((fO (S_ ax)).getD j none) bN) (S_ aw-cl.toNat) cl.toNat))) (S_ (qe (cw (S_ aw) (fO (S_ ax)) (S_ (al (S_ aw) (fO (S_ ax)) aR).fst) (S_ (al (S_ aw) (fO (S_ ax)) aR).snd.length) (S_ (an (al (S_ aw) (fO (S_ ax)) aR).snd)) cl bN) (aF (fun j=>dP ((fO (S_ ax)).getD j none) bN) (S_ aw-cl.toNat) cl.toNat))) (S_ (qF (cw (S_ aw) (fO (S_ ax)) (S_ (al (S_ aw) (fO (S_ ax)) aR).fst) (S_ (al (S_ aw) (fO (S_ ax)) aR).snd.length) (S_ (an (al (S_ aw) (fO (S_ ax)) aR).snd)) cl bN) (aF (bA (fO (S_ ax)) bN) (S_ aw-cl.toNat) cl.toNat))) (S_ (qe (cw (S_ aw) (fO (S_ ax)) (S_ (al (S_ aw) (fO (S_ ax)) aR).fst) (S_ (al (S_ aw) (fO (S_ ax)) aR).snd.length) (S_ (an (al (S_ aw) (fO (S_ ax)) aR).snd)) cl bN) (aF (bA (fO (S_ ax)) bN) (S_ aw-cl.toNat) cl.toNat))) (S_ (oO (S_ aw) (fO (S_ ax)) bN)) (S_ (qF (eI (S_ aw) (fO (S_ ax)) (S_ (al (S_ aw) (fO (S_ ax)) aR).fst) (S_ (al (S_ aw) (fO (S_ ax)) aR).snd.length) (S_ (an (al (S_ aw) (fO (S_ ax)) aR).snd))) (gj (S_ aw) (fO (S_ ax)) (S_ (al (S_ aw) (fO (S_ ax)) aR).fst) (S_ (an (al (S_ aw) (fO (S_ ax)) aR).snd))))) (S_ (qe (eI (S_ aw) (fO (S_ ax)) (S_ (al (S_ aw) (fO (S_ ax)) aR).fst) (S_ (al (S_ aw) (fO (S_ ax)) aR).snd.length) (S_ (an (al (S_ aw) (fO (S_ ax)) aR).snd))) (gj (S_ aw) (fO (S_ ax)) (S_ (al (S_ aw) (fO (S_ ax)) aR).fst) (S_ (an (al (S_ aw) (fO (S_ ax)) aR).snd))))) (S_ (eF (S_ aw) (fO (S_ ax)) 1 (fO (ag (aX (cM (Go.Value.float .f32 0)).cells 1) 0 [AV.aL .f32 bN]))).length) (S_ (cF IntKind.i64 (eF (S_ aw) (fO (S_ ax)) 1 (fO (ag (aX (cM (Go.Value.float .f32 0)).cells 1) 0 [AV.aL .f32 bN]))))) true aw ax aR cl QS QT bN 0 ([]) (S_ (al (S_ aw) (fO (S_ ax)) aR).fst) (S_ (al (S_ aw) (fO (S_ ax)) aR).snd.length) (S_ (an (al (S_ aw) (fO (S_ ax)) aR).snd)) (S_ (↑(gX (S_ aw) (fO (S_ ax)) bN).fst:Int)) (S_ (↑(gX (S_ aw) (fO (S_ ax)) bN).snd:Int)) 1 (ag (aX (cM (Go.Value.float .f32 0)).cells 1) 0 [AV.aL .f32 bN]))
 (
 gO (S_ (decide ((0:Int)<=(0:Int)/\(0:Int)<(↑(S_ (eF (S_ aw) (fO (S_ ax)) 1 (fO (ag (aX (cM (Go.Value.float .f32 0)).cells 1) 0 [AV.aL .f32 bN]))).length):Int)/\0<(S_ (cF IntKind.i64 (eF (S_ aw) (fO (S_ ax)) 1 (fO (ag (aX (cM (Go.Value.float .f32 0)).cells 1) 0 [AV.aL .f32 bN]))))).length)))<|
 bO (asInt IntKind.i64 ((S_ (cF IntKind.i64 (eF (S_ aw) (fO (S_ ax)) 1 (fO (ag (aX (cM (Go.Value.float .f32 0)).cells 1) 0 [AV.aL .f32 bN]))))).getD 0 AV.top)) fun EA=>
 gO (S_ (decide ((0:Int)<=(1:Int)/\(1:Int)<(↑(S_ (eF (S_ aw) (fO (S_ ax)) 1 (fO (ag (aX (cM (Go.Value.float .f32 0)).cells 1) 0 [AV.aL .f32 bN]))).length):Int)/\0<(S_ (cF IntKind.i64 (eF (S_ aw) (fO (S_ ax)) 1 (fO (ag (aX (cM (Go.Value.float .f32 0)).cells 1) 0 [AV.aL .f32 bN]))))).length)))<|
 bO (asInt IntKind.i64 ((S_ (cF IntKind.i64 (eF (S_ aw) (fO (S_ ax)) 1 (fO (ag (aX (cM (Go.Value.float .f32 0)).cells 1) 0 [AV.aL .f32 bN]))))).getD 1 AV.top)) fun v21=>
 cO (S_ (S_ (IntKind.i64.wrap (EA+v21)) != (↑aw:Int)))
 (
 Q7.1 aw ax (S_ (qF (cw (S_ aw) (fO (S_ ax)) (S_ (al (S_ aw) (fO (S_ ax)) aR).fst) (S_ (al (S_ aw) (fO (S_ ax)) aR).snd.length) (S_ (an (al (S_ aw) (fO (S_ ax)) aR).snd)) cl bN) (aF (fun j=>dP ((fO (S_ ax)).getD j none) bN) (S_ aw-cl.toNat) cl.toNat))) (S_ (qe (cw (S_ aw) (fO (S_ ax)) (S_ (al (S_ aw) (fO (S_ ax)) aR).fst) (S_ (al (S_ aw) (fO (S_ ax)) aR).snd.length) (S_ (an (al (S_ aw) (fO (S_ ax)) aR).snd)) cl bN) (aF (fun j=>dP ((fO (S_ ax)).getD j none) bN) (S_ aw-cl.toNat) cl.toNat))) (S_ (qF (cw (S_ aw) (fO (S_ ax)) (S_ (al (S_ aw) (fO (S_ ax)) aR).fst) (S_ (al (S_ aw) (fO (S_ ax)) aR).snd.length) (S_ (an (al (S_ aw) (fO (S_ ax)) aR).snd)) cl bN) (aF (bA (fO (S_ ax)) bN) (S_ aw-cl.toNat) cl.toNat))) (S_ (qe (cw (S_ aw) (fO (S_ ax)) (S_ (al (S_ aw) (fO (S_ ax)) aR).fst) (S_ (al (S_ aw) (fO (S_ ax)) aR).snd.length) (S_ (an (al (S_ aw) (fO (S_ ax)) aR).snd)) cl bN) (aF (bA (fO (S_ ax)) bN) (S_ aw-cl.toNat) cl.toNat))) (S_ (oO (S_ aw) (fO (S_ ax)) bN)) (S_ (qF (eI (S_ aw) (fO (S_ ax)) (S_ (al (S_ aw) (fO (S_ ax)) aR).fst) (S_ (al (S_ aw) (fO (S_ ax)) aR).snd.length) (S_ (an (al (S_ aw) (fO (S_ ax)) aR).snd))) (gj (S_ aw) (fO (S_ ax)) (S_ (al (S_ aw) (fO (S_ ax)) aR).fst) (S_ (an (al (S_ aw) (fO (S_ ax)) aR).snd))))) (S_ (qe (eI (S_ aw) (fO (S_ ax)) (S_ (al (S_ aw) (fO (S_ ax)) aR).fst) (S_ (al (S_ aw) (fO (S_ ax)) aR).snd.length) (S_ (an (al (S_ aw) (fO (S_ ax)) aR).snd))) (gj (S_ aw) (fO (S_ ax)) (S_ (al (S_ aw) (fO (S_ ax)) aR).fst) (S_ (an (al (S_ aw) (fO (S_ ax)) aR).snd))))) (S_ (eF (S_ aw) (fO (S_ ax)) 1 (fO (ag (aX (cM (Go.Value.float .f32 0)).cells 1) 0 [AV.aL .f32 bN]))).length) (S_ (cF IntKind.i64 (eF (S_ aw) (fO (S_ ax)) 1 (fO (ag (aX (cM (Go.Value.float .f32 0)).cells 1) 0 [AV.aL .f32 bN]))))) true aw ax aR cl QS QT bN 0 ([]) (S_ (al (S_ aw) (fO (S_ ax)) aR).fst) (S_ (al (S_ aw) (fO (S_ ax)) aR).snd.length) (S_ (an (al (S_ aw) (fO (S_ ax)) aR).snd)) (S_ (↑(gX (S_ aw) (fO (S_ ax)) bN).fst:Int)) (S_ (↑(gX (S_ aw) (fO (S_ ax)) bN).snd:Int)) 1 (ag (aX (cM (Go.Value.float .f32 0)).cells 1) 0 [AV.aL .f32 bN]))
 (
 Q7.1 aw ax (S_ (qF (cw (S_ aw) (fO (S_ ax)) (S_ (al (S_ aw) (fO (S_ ax)) aR).fst) (S_ (al (S_ aw) (fO (S_ ax)) aR).snd.length) (S_ (an (al (S_ aw) (fO (S_ ax)) aR).snd)) cl bN) (aF (fun j=>dP ((fO (S_ ax)).getD j none) bN) (S_ aw-cl.toNat) cl.toNat))) (S_ (qe (cw (S_ aw) (fO (S_ ax)) (S_ (al (S_ aw) (fO (S_ ax)) aR).fst) (S_ (al (S_ aw) (fO (S_ ax)) aR).snd.length) (S_ (an (al (S_ aw) (fO (S_ ax)) aR).snd)) cl bN) (aF (fun j=>dP ((fO (S_ ax)).getD j none) bN) (S_ aw-cl.toNat) cl.toNat))) (S_ (qF (cw (S_ aw) (fO (S_ ax)) (S_ (al (S_ aw) (fO (S_ ax)) aR).fst) (S_ (al (S_ aw) (fO (S_ ax)) aR).snd.length) (S_ (an (al (S_ aw) (fO (S_ ax)) aR).snd)) cl bN) (aF (bA (fO (S_ ax)) bN) (S_ aw-cl.toNat) cl.toNat))) (S_ (qe (cw (S_ aw) (fO (S_ ax)) (S_ (al (S_ aw) (fO (S_ ax)) aR).fst) (S_ (al (S_ aw) (fO (S_ ax)) aR).snd.length) (S_ (an (al (S_ aw) (fO (S_ ax)) aR).snd)) cl bN) (aF (bA (fO (S_ ax)) bN) (S_ aw-cl.toNat) cl.toNat))) (S_ (oO (S_ aw) (fO (S_ ax)) bN)) (S_ (qF (eI (S_ aw) (fO (S_ ax)) (S_ (al (S_ aw) (fO (S_ ax)) aR).fst) (S_ (al (S_ aw) (fO (S_ ax)) aR).snd.length) (S_ (an (al (S_ aw) (fO (S_ ax)) aR).snd))) (gj (S_ aw) (fO (S_ ax)) (S_ (al (S_ aw) (fO (S_ ax)) aR).fst) (S_ (an (al (S_ aw) (fO (S_ ax)) aR).snd))))) (S_ (qe (eI (S_ aw) (fO (S_ ax)) (S_ (al (S_ aw) (fO (S_ ax)) aR).fst) (S_ (al (S_ aw) (fO (S_ ax)) aR).snd.length) (S_ (an (al (S_ aw) (fO (S_ ax)) aR).snd))) (gj (S_ aw) (fO (S_ ax)) (S_ (al (S_ aw) (fO (S_ ax)) aR).fst) (S_ (an (al (S_ aw) (fO (S_ ax)) aR).snd))))) (S_ (eF (S_ aw) (fO (S_ ax)) 1 (fO (ag (aX (cM (Go.Value.float .f32 0)).cells 1) 0 [AV.aL .f32 bN]))).length) (S_ (cF IntKind.i64 (eF (S_ aw) (fO (S_ ax)) 1 (fO (ag (aX (cM (Go.Value.float .f32 0)).cells 1) 0 [AV.aL .f32 bN]))))) (S_ !S_ (S_ (qe (eI (S_ aw) (fO (S_ ax)) (S_ (al (S_ aw) (fO (S_ ax)) aR).fst) (S_ (al (S_ aw) (fO (S_ ax)) aR).snd.length) (S_ (an (al (S_ aw) (fO (S_ ax)) aR).snd))) (gj (S_ aw) (fO (S_ ax)) (S_ (al (S_ aw) (fO (S_ ax)) aR).fst) (S_ (an (al (S_ aw) (fO (S_ ax)) aR).snd))))==(0:Int))==S_ (decide ((↑aw:Int)>(0:Int)))) aw ax aR cl QS QT bN 0 ([]) (S_ (al (S_ aw) (fO (S_ ax)) aR).fst) (S_ (al (S_ aw) (fO (S_ ax)) aR).snd.length) (S_ (an (al (S_ aw) (fO (S_ ax)) aR).snd)) (S_ (↑(gX (S_ aw) (fO (S_ ax)) bN).fst:Int)) (S_ (↑(gX (S_ aw) (fO (S_ ax)) bN).snd:Int)) 1 (ag (aX (cM (Go.Value.float .f32 0)).cells 1) 0 [AV.aL .f32 bN]))))))),PUnit.unit) fun Yh=>
 bO (
 cO (S_ (decide ((↑n:Int)<=(64:Int))))
 (
 gO (S_ (decide (bu n cs)))<|
 some (S_ (S_ (aY n (fO cs))==(0:Int))))
 (
 some false)) fun v1=>
 bO (
 cO v1
 (
 some (S_ (S_ (if b<(1:Int)\/b>(256:Int) then (3:Int) else (0:Int))==(0:Int))))
 (
 some false)) fun v2=>
 bO (
 cO (!v2)
 (
 some true)
 (
 some (S_ (S_ (if f<(0:Int)\/f>(↑n:Int) then (3:Int) else (0:Int)) != (0:Int))))) fun v3=>
 bO (
 cO v3
 (
 some true)
 (
 some (!S_ (aJ o)))) fun v4=>
 Yh.1 v4 n cs b f t c o):=by kernel_rfl
end Go.Abs
end
