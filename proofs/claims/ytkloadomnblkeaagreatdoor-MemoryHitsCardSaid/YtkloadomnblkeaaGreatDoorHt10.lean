/- Part 10 of the library of the proof: an abstract run of the program. -/
import Derived.Test.YtkloadomnblkeaaGreatDoorHt9
set_option linter.unusedVariables false
set_option linter.unusedSimpArgs false

set_option maxRecDepth 100000
noncomputable section
namespace Go.Abs
open Go.Proofs Classical
theorem Xp (N n:Nat) (cs:List AV):(dA [] aK N 6).call (List aa) 82 [.aT (.list n cs)] [] (bp [false])=(
 bg N (fun uB (a0:Nat) (a1:List AV) (a2 a3:Int)=>
 cO (S_ (decide (a3<a2)))
 (
 gO (S_ (decide ((0:Int)<=a3/\a3<(↑a0:Int)/\0<a1.length)))<|
 bO (asInt IntKind.i64 (a1.getD (a3.toNat*1) AV.top)) fun v3=>
 cO (S_ (v3 != (0:Int)))
 (
 some ([aa.v (AV.int .i64 v3)]))
 (
 uB a0 a1 a2 (S_ (IntKind.i64.wrap (a3+(1:Int))))))
 (
 some ([aa.v (AV.int .i64 (0:Int))])))
 (fun _ _ _ _=>none) n cs ((↑n:Int)) ((0:Int))):=by kernel_rfl
theorem TQ (N n:Nat) (cs:List AV):(dA [] aK N 6).call (List aa) 138 [.aT (.list n cs)] [] (bp [false])=(
 bg N (fun uB (a0:Nat) (a1:List AV) (a2 a3:Int)=>
 cO (S_ (decide (a3<a2)))
 (
 gO (S_ (decide ((0:Int)<=a3/\a3<(↑a0:Int)/\0<a1.length)))<|
 bO (asInt IntKind.i64 (a1.getD (a3.toNat*1) AV.top)) fun v3=>
 cO (S_ (v3 != (0:Int)))
 (
 some ([aa.v (AV.int .i64 v3)]))
 (
 uB a0 a1 a2 (S_ (IntKind.i64.wrap (a3+(1:Int))))))
 (
 some ([aa.v (AV.int .i64 (0:Int))])))
 (fun _ _ _ _=>none) n cs ((↑n:Int)) ((0:Int))):=by kernel_rfl
theorem Xq (N:Nat) (b:Bool) (a:Int):(dA [] aK N 6).call (List aa) 87 [.aT (.bool b),.aT (.int .i64 a)] [] (bp [false])=(
 cO b
 (
 some ([aa.v (AV.int .i64 a)]))
 (
 some ([aa.v (AV.int .i64 (0:Int))]))):=by kernel_rfl
theorem TS (N:Nat) (b:Bool) (a:Int):(dA [] aK N 6).call (List aa) 126 [.aT (.bool b),.aT (.int .i64 a)] [] (bp [false])=(
 cO b
 (
 some ([aa.v (AV.int .i64 a)]))
 (
 some ([aa.v (AV.int .i64 (0:Int))]))):=by kernel_rfl
theorem Xr (N:Nat) (o:Option Nat):(dA [] aK N 6).call (List aa) 86 [.aT (.aL .f32 o)] [] (bp [false])=(
 some ([aa.v (AV.bool (S_ (aM .f32 (S_ (fj Go.BinOp.sub .f32 o o)) (some 0)==some .eq)))])):=by kernel_rfl
theorem TV (N:Nat) (o:Option Nat):(dA [] aK N 6).call (List aa) 127 [.aT (.aL .f32 o)] [] (bp [false])=(
 some ([aa.v (AV.bool (S_ (aM .f32 (S_ (fj Go.BinOp.sub .f32 o o)) (some 0)==some .eq)))])):=by kernel_rfl
theorem Xs (N:Nat) (o:Option Nat):(dA [] aK N 6).call (List aa) 41 [.aT (.aL .f32 o)] [] (bp [false])=(
 some ([aa.v (AV.bool (S_ (aM .f32 (S_ (fj Go.BinOp.sub .f32 o o)) (some 0)==some .eq)))])):=by kernel_rfl
theorem TX (N:Nat) (o:Option Nat):(dA [] aK N 6).call (List aa) 104 [.aT (.aL .f32 o)] [] (bp [false])=(
 cO (S_ (aM .f32 o (some 0)==some .eq))
 (
 some ([aa.v (AV.aL .f32 (some 0))]))
 (
 some ([aa.v (AV.aL .f32 o)]))):=by kernel_rfl
theorem Xt (N n:Nat) (cs:List AV) (m:Nat) (ds:List AV):(dA [] aK N 6).call (List aa) 60 [.aT (.list n cs),.aT (.list m ds)] [] (bp [false])=(
 cO (S_ ((↑n:Int) != (↑m:Int)))
 (
 some ([aa.v (AV.bool false)]))
 (
 bg N (fun x_ (a0:Nat) (a1:List AV) (a2:Nat) (a3:List AV) (a4:Int)=>
 cO (S_ (decide (a4<(↑a0:Int))))
 (
 gO (S_ (decide ((0:Int)<=a4/\a4<(↑a0:Int)/\0<a1.length)))<|
 bO (asInt IntKind.i64 (a1.getD (a4.toNat*1) AV.top)) fun v4=>
 gO (S_ (decide ((0:Int)<=a4/\a4<(↑a2:Int)/\0<a3.length)))<|
 bO (asInt IntKind.i64 (a3.getD (a4.toNat*1) AV.top)) fun v6=>
 cO (S_ (v4 != v6))
 (
 some ([aa.v (AV.bool false)]))
 (
 x_ a0 a1 a2 a3 (S_ (IntKind.i64.wrap (a4+(1:Int))))))
 (
 some ([aa.v (AV.bool true)])))
 (fun _ _ _ _ _=>none) n cs m ds ((0:Int)))):=by kernel_rfl
theorem Xo (N n:Nat) (cs:List AV) (m:Nat) (ds:List AV):(dA [] aK N 6).call (List aa) 61 [.aT (.list n cs),.aT (.list m ds)] [] (bp [false])=(
 cO (S_ ((↑n:Int) != (↑m:Int)))
 (
 some ([aa.v (AV.bool false)]))
 (
 bg N (fun x_ (a0:Nat) (a1:List AV) (a2:Nat) (a3:List AV) (a4:Int)=>
 cO (S_ (decide (a4<(↑a0:Int))))
 (
 gO (S_ (decide ((0:Int)<=a4/\a4<(↑a0:Int)/\0<a1.length)))<|
 bO (aq .f32 (a1.getD (a4.toNat*1) AV.top)) fun v4=>
 gO (S_ (decide ((0:Int)<=a4/\a4<(↑a2:Int)/\0<a3.length)))<|
 bO (aq .f32 (a3.getD (a4.toNat*1) AV.top)) fun v6=>
 cO (S_ (aM .f32 v4 v6 != some .eq))
 (
 some ([aa.v (AV.bool false)]))
 (
 x_ a0 a1 a2 a3 (S_ (IntKind.i64.wrap (a4+(1:Int))))))
 (
 some ([aa.v (AV.bool true)])))
 (fun _ _ _ _ _=>none) n cs m ds ((0:Int)))):=by kernel_rfl
theorem Xu (N n:Nat) (cs:List AV) (m:Nat) (ds:List AV):(dA [] aK N 6).call (List aa) 71 [.aT (.list n cs),.aT (.list m ds)] [] (bp [false])=(
 cO (S_ ((↑n:Int) != (↑m:Int)))
 (
 some ([aa.v (AV.bool false)]))
 (
 bg N (fun x_ (a0:Nat) (a1:List AV) (a2:Nat) (a3:List AV) (a4:Int)=>
 cO (S_ (decide (a4<(↑a0:Int))))
 (
 gO (S_ (decide ((0:Int)<=a4/\a4<(↑a0:Int)/\0<a1.length)))<|
 bO (asInt IntKind.u8 (a1.getD (a4.toNat*1) AV.top)) fun v4=>
 gO (S_ (decide ((0:Int)<=a4/\a4<(↑a2:Int)/\0<a3.length)))<|
 bO (asInt IntKind.u8 (a3.getD (a4.toNat*1) AV.top)) fun v6=>
 cO (S_ (v4 != v6))
 (
 some ([aa.v (AV.bool false)]))
 (
 x_ a0 a1 a2 a3 (S_ (IntKind.i64.wrap (a4+(1:Int))))))
 (
 some ([aa.v (AV.bool true)])))
 (fun _ _ _ _ _=>none) n cs m ds ((0:Int)))):=by kernel_rfl
theorem Xv (N n:Nat) (cs:List AV) (m:Nat) (ds:List AV):(dA [] aK N 6).call (List aa) 76 [.aT (.list n cs),.aT (.list m ds)] [] (bp [false])=(
 cO (S_ ((↑n:Int) != (↑m:Int)))
 (
 some ([aa.v (AV.bool false)]))
 (
 bg N (fun x_ (a0:Nat) (a1:List AV) (a2:Nat) (a3:List AV) (a4:Int)=>
 cO (S_ (decide (a4<(↑a0:Int))))
 (
 gO (S_ (decide ((0:Int)<=a4/\a4<(↑a0:Int)/\0<a1.length)))<|
 bO (asInt IntKind.u16 (a1.getD (a4.toNat*1) AV.top)) fun v4=>
 gO (S_ (decide ((0:Int)<=a4/\a4<(↑a2:Int)/\0<a3.length)))<|
 bO (asInt IntKind.u16 (a3.getD (a4.toNat*1) AV.top)) fun v6=>
 cO (S_ (v4 != v6))
 (
 some ([aa.v (AV.bool false)]))
 (
 x_ a0 a1 a2 a3 (S_ (IntKind.i64.wrap (a4+(1:Int))))))
 (
 some ([aa.v (AV.bool true)])))
 (fun _ _ _ _ _=>none) n cs m ds ((0:Int)))):=by kernel_rfl
theorem Xw (N:Nat) (a b c:Int):(dA [] aK N 6).call (List aa) 62 [.aT (.int .i64 a),.aT (.int .i64 b),.aT (.int .i64 c)] [] (bp [false])=(
 bO (
 cO (S_ (decide (a<=b)))
 (
 some true)
 (
 cO (S_ (decide (a>c)))
 (
 some (S_ (decide (a<=S_ (IntKind.i64.wrap (c+(2:Int)))))))
 (
 some false))) fun v0=>
 some ([aa.v (AV.bool v0)])):=by kernel_rfl
theorem Xx (N:Nat) (a:Int):(dA [] aK N 6).call (List aa) 23 [.aT (.int .i64 a)] [] (bp [false])=(
 dy N (
 (fun (Jy:Bool)=>
 cO Jy
 (
 some ([aa.v (AV.int .i64 (3:Int))]))
 (
 some ([aa.v (AV.int .i64 (0:Int))]))),PUnit.unit) fun Yh=>
 bO (
 cO (S_ (decide (a<(1:Int))))
 (
 some true)
 (
 some (S_ (decide (a>(256:Int)))))) fun v1=>
 Yh.1 v1):=by kernel_rfl
theorem Xy (N:Nat) (a b c:Int):(dA [] aK N 6).call (List aa) 31 [.aT (.int .i64 a),.aT (.int .i64 b),.aT (.int .i64 c)] [] (bp [false])=(
 dy N (
 (fun (Jy aw:Int) (ax:Bool)=>
 cO ax
 (
 some ([aa.v (AV.int .i64 (3:Int))]))
 (
 cO (S_ (decide (aw<Jy)))
 (
 some ([aa.v (AV.int .i64 (11:Int))]))
 (
 some ([aa.v (AV.int .i64 (0:Int))])))),PUnit.unit) fun Yh=>
 bO (
 cO (S_ (decide (b<(0:Int))))
 (
 some true)
 (
 some (S_ (decide (b>a))))) fun v1=>
 bO (
 cO v1
 (
 some true)
 (
 some (S_ (decide (c<(0:Int)))))) fun v2=>
 bO (
 cO v2
 (
 some true)
 (
 some (S_ (decide (c>a))))) fun v3=>
 Yh.1 b c v3):=by kernel_rfl
theorem Xz (N:Nat) (a:Int):(dA [] aK N 6).call (List aa) 39 [.aT (.int .i64 a)] [] (bp [false])=(
 bO (
 cO (S_ (decide (a<(1:Int))))
 (
 some true)
 (
 some (S_ (decide (a>(2048:Int)))))) fun v0=>
 cO v0
 (
 some ([aa.v (AV.int .i64 (3:Int))]))
 (
 some ([aa.v (AV.int .i64 (0:Int))]))):=by kernel_rfl
theorem XA (N:Nat) (a b:Int):(dA [] aK N 6).call (List aa) 49 [.aT (.int .i64 a),.aT (.int .i64 b)] [] (bp [false])=(
 dy N (
 (fun (Jy:Bool)=>
 cO Jy
 (
 some ([aa.v (AV.int .i64 (3:Int))]))
 (
 some ([aa.v (AV.int .i64 (0:Int))]))),PUnit.unit) fun Yh=>
 bO (
 cO (S_ (decide (b<(0:Int))))
 (
 some true)
 (
 some (S_ (decide (b>a))))) fun v1=>
 Yh.1 v1):=by kernel_rfl
theorem XD (N:Nat) (a:Int):(dA [] aK N 6).call (List aa) 50 [.aT (.int .i64 a)] [] (bp [false,false])=(
 cO (S_ (decide (a<(0:Int))))
 (
 some ([aa.v (AV.int .i64 (0:Int)),aa.v (AV.int .i64 (7:Int))]))
 (
 some ([aa.v (AV.int .i64 a),aa.v (AV.int .i64 (0:Int))]))):=by kernel_rfl
theorem XE (N:Nat) (a:Int):(dA [] aK N 6).call (List aa) 96 [.aT (.int .i64 a)] [] (bp [false,false])=(
 cO (S_ (decide (a<(0:Int))))
 (
 some ([aa.v (AV.int .i64 (0:Int)),aa.v (AV.int .i64 (7:Int))]))
 (
 some ([aa.v (AV.int .i64 a),aa.v (AV.int .i64 (0:Int))]))):=by kernel_rfl
theorem Ue (N:Nat) (a:Int):(dA [] aK N 6).call (List aa) 118 [.aT (.int .i64 a)] [] (bp [false])=(
 cO (S_ (decide (a<(0:Int))))
 (
 some ([aa.v (AV.int .i64 (S_ (IntKind.i64.wrap (S_ (IntKind.i64.wrap ((-2:Int)*a))-(1:Int)))))]))
 (
 some ([aa.v (AV.int .i64 (S_ (IntKind.i64.wrap ((2:Int)*a))))]))):=by kernel_rfl
theorem Ug (N:Nat) (a:Int):(dA [] aK N 6).call (List aa) 119 [.aT (.int .i64 a)] [] (bp [false])=(
 gO (S_ (decide ((2:Int)≠(0:Int))))<|
 cO (S_ (S_ (a.tmod (2:Int))==(1:Int)))
 (
 gO (S_ (decide ((2:Int)≠(0:Int))))<|
 some ([aa.v (AV.int .i64 (S_ (IntKind.i64.wrap ((S_ (IntKind.i64.wrap ((0:Int)-S_ (IntKind.i64.wrap (a+(1:Int)))))).tdiv (2:Int)))))]))
 (
 gO (S_ (decide ((2:Int)≠(0:Int))))<|
 some ([aa.v (AV.int .i64 (S_ (IntKind.i64.wrap (a.tdiv (2:Int)))))]))):=by kernel_rfl
theorem Xl (N n:Nat) (cs:List AV):(dA [] aK N 6).call (List aa) 68 [.aT (.list n cs)] [] (bp [false])=(
 cO (S_ (decide ((↑n:Int)>(4096:Int))))
 (
 some ([aa.v (AV.int .i64 (5:Int))]))
 (
 bg N (fun x_ (a0:Nat) (a1:List AV) (a2:Int)=>
 cO (S_ (decide (a2<(↑a0:Int))))
 (
 dy N (
 (fun (ae_:Nat) (afa:List AV) (afb:Int) (afc:Bool)=>
 cO afc
 (
 some ([aa.v (AV.int .i64 (3:Int))]))
 (
 x_ ae_ afa (S_ (IntKind.i64.wrap (afb+(1:Int)))))),PUnit.unit) fun k_3=>
 gO (S_ (decide ((0:Int)<=a2/\a2<(↑a0:Int)/\0<a1.length)))<|
 bO (asInt IntKind.i64 (a1.getD (a2.toNat*1) AV.top)) fun v5=>
 bO (
 cO (S_ (decide (v5<(0:Int))))
 (
 some true)
 (
 gO (S_ (decide ((0:Int)<=a2/\a2<(↑a0:Int)/\0<a1.length)))<|
 bO (asInt IntKind.i64 (a1.getD (a2.toNat*1) AV.top)) fun v9=>
 some (S_ (decide (v9>(4095:Int)))))) fun v6=>
 k_3.1 a0 a1 a2 v6)
 (
 some ([aa.v (AV.int .i64 (0:Int))])))
 (fun _ _ _=>none) n cs ((0:Int)))):=by kernel_rfl
theorem XB (N:Nat) (a b c:Int):(dA [] aK N 6).call (List aa) 84 [.aT (.int .i64 a),.aT (.int .i64 b),.aT (.int .i64 c)] [] (bp [false])=(
 bO (
 cO (S_ (decide (a<b)))
 (
 some true)
 (
 some (S_ (decide (a>c))))) fun v0=>
 cO v0
 (
 some ([aa.v (AV.int .i64 (3:Int))]))
 (
 some ([aa.v (AV.int .i64 (0:Int))]))):=by kernel_rfl
theorem Xm (N n:Nat) (cs:List AV):(dA [] aK N 6).call (List aa) 22 [.aT (.list n cs)] [] (bp [false])=(
 cO (S_ (decide ((↑n:Int)>(4096:Int))))
 (
 some ([aa.v (AV.int .i64 (5:Int))]))
 (
 bg N (fun x_ (a0:Nat) (a1:List AV) (a2:Int)=>
 cO (S_ (decide (a2<(↑a0:Int))))
 (
 gO (S_ (decide ((0:Int)<=a2/\a2<(↑a0:Int)/\0<a1.length)))<|
 bO (aq .f32 (a1.getD (a2.toNat*1) AV.top)) fun v4=>
 cO (!S_ (aM .f32 (S_ (fj Go.BinOp.sub .f32 v4 v4)) (some 0)==some .eq))
 (
 some ([aa.v (AV.int .i64 (1:Int))]))
 (
 x_ a0 a1 (S_ (IntKind.i64.wrap (a2+(1:Int))))))
 (
 some ([aa.v (AV.int .i64 (0:Int))])))
 (fun _ _ _=>none) n cs ((0:Int)))):=by kernel_rfl
theorem Xn (N n:Nat) (cs:List AV):(dA [] aK N 6).call (List aa) 83 [.aT (.list n cs)] [] (bp [false])=(
 cO (S_ (decide ((↑n:Int)>(4096:Int))))
 (
 some ([aa.v (AV.int .i64 (5:Int))]))
 (
 bg N (fun x_ (a0:Nat) (a1:List AV) (a2 a3:Int)=>
 cO (S_ (decide (a3<a2)))
 (
 gO (S_ (decide ((0:Int)<=a3/\a3<(↑a0:Int)/\0<a1.length)))<|
 bO (aq .f32 (a1.getD (a3.toNat*1) AV.top)) fun v4=>
 cO (!S_ (aM .f32 (S_ (fj Go.BinOp.sub .f32 v4 v4)) (some 0)==some .eq))
 (
 cO (S_ ((1:Int) != (0:Int)))
 (
 some ([aa.v (AV.int .i64 (1:Int))]))
 (
 x_ a0 a1 a2 (S_ (IntKind.i64.wrap (a3+(1:Int))))))
 (
 cO (S_ ((0:Int) != (0:Int)))
 (
 some ([aa.v (AV.int .i64 (0:Int))]))
 (
 x_ a0 a1 a2 (S_ (IntKind.i64.wrap (a3+(1:Int)))))))
 (
 some ([aa.v (AV.int .i64 (0:Int))])))
 (fun _ _ _ _=>none) n cs ((↑n:Int)) ((0:Int)))):=by kernel_rfl
theorem XC (N n:Nat) (cs:List AV):(dA [] aK N 6).call (List aa) 17 [.aT (.list n cs)] [] (bp [false])=(
 bO (
 cO (S_ (decide ((↑n:Int)<=(64:Int))))
 (
 some true)
 (
 cO (S_ (decide ((↑n:Int)>(4096:Int))))
 (
 some (S_ (decide ((↑n:Int)<=S_ (IntKind.i64.wrap ((4096:Int)+(2:Int)))))))
 (
 some false))) fun v0=>
 some ([aa.v (AV.bool v0)])):=by kernel_rfl
end Go.Abs
end
