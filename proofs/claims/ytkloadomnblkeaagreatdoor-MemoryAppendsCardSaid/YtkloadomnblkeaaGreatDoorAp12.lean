/- Part 12 of the library of the proof: an abstract run of the program. -/
import Derived.Test.YtkloadomnblkeaaGreatDoorAp11
set_option linter.unusedVariables false
set_option linter.unusedSimpArgs false

set_option maxRecDepth 100000
noncomputable section
namespace Go.Abs
open Go.Proofs Classical
theorem run_82 (N n:Nat) (cs:List AV):(fsM [] waysP N 6).call (List RLeaf) 82 [.ofB (.list n cs)] [] (resK [false])=(
 loopC N (fun r_0 (a0:Nat) (a1:List AV) (a2 a3:Int)=>
 cO (S_ (decide (a3<a2)))
 (
 gO (S_ (decide ((0:Int)<=a3/\a3<(↑a0:Int)/\0<a1.length)))<|
 bO (asInt IntKind.i64 (a1.getD (a3.toNat*1) AV.top)) fun v3=>
 cO (S_ (v3 != (0:Int)))
 (
 some ([RLeaf.v (AV.int .i64 v3)]))
 (
 r_0 a0 a1 a2 (S_ (IntKind.i64.wrap (a3+(1:Int))))))
 (
 some ([RLeaf.v (AV.int .i64 (0:Int))])))
 (fun _ _ _ _=>none) n cs ((↑n:Int)) ((0:Int))):=by kernel_rfl
theorem run_138 (N n:Nat) (cs:List AV):(fsM [] waysP N 6).call (List RLeaf) 138 [.ofB (.list n cs)] [] (resK [false])=(
 loopC N (fun r_0 (a0:Nat) (a1:List AV) (a2 a3:Int)=>
 cO (S_ (decide (a3<a2)))
 (
 gO (S_ (decide ((0:Int)<=a3/\a3<(↑a0:Int)/\0<a1.length)))<|
 bO (asInt IntKind.i64 (a1.getD (a3.toNat*1) AV.top)) fun v3=>
 cO (S_ (v3 != (0:Int)))
 (
 some ([RLeaf.v (AV.int .i64 v3)]))
 (
 r_0 a0 a1 a2 (S_ (IntKind.i64.wrap (a3+(1:Int))))))
 (
 some ([RLeaf.v (AV.int .i64 (0:Int))])))
 (fun _ _ _ _=>none) n cs ((↑n:Int)) ((0:Int))):=by kernel_rfl
theorem run_87 (N:Nat) (b:Bool) (a:Int):(fsM [] waysP N 6).call (List RLeaf) 87 [.ofB (.bool b),.ofB (.int .i64 a)] [] (resK [false])=(
 cO b
 (
 some ([RLeaf.v (AV.int .i64 a)]))
 (
 some ([RLeaf.v (AV.int .i64 (0:Int))]))):=by kernel_rfl
theorem run_126 (N:Nat) (b:Bool) (a:Int):(fsM [] waysP N 6).call (List RLeaf) 126 [.ofB (.bool b),.ofB (.int .i64 a)] [] (resK [false])=(
 cO b
 (
 some ([RLeaf.v (AV.int .i64 a)]))
 (
 some ([RLeaf.v (AV.int .i64 (0:Int))]))):=by kernel_rfl
theorem run_86 (N:Nat) (o:Option Nat):(fsM [] waysP N 6).call (List RLeaf) 86 [.ofB (.flo .f32 o)] [] (resK [false])=(
 some ([RLeaf.v (AV.bool (S_ (ordO .f32 (S_ (arithO Go.BinOp.sub .f32 o o)) (some 0)==some .eq)))])):=by kernel_rfl
theorem run_127 (N:Nat) (o:Option Nat):(fsM [] waysP N 6).call (List RLeaf) 127 [.ofB (.flo .f32 o)] [] (resK [false])=(
 some ([RLeaf.v (AV.bool (S_ (ordO .f32 (S_ (arithO Go.BinOp.sub .f32 o o)) (some 0)==some .eq)))])):=by kernel_rfl
theorem run_41 (N:Nat) (o:Option Nat):(fsM [] waysP N 6).call (List RLeaf) 41 [.ofB (.flo .f32 o)] [] (resK [false])=(
 some ([RLeaf.v (AV.bool (S_ (ordO .f32 (S_ (arithO Go.BinOp.sub .f32 o o)) (some 0)==some .eq)))])):=by kernel_rfl
theorem run_104 (N:Nat) (o:Option Nat):(fsM [] waysP N 6).call (List RLeaf) 104 [.ofB (.flo .f32 o)] [] (resK [false])=(
 cO (S_ (ordO .f32 o (some 0)==some .eq))
 (
 some ([RLeaf.v (AV.flo .f32 (some 0))]))
 (
 some ([RLeaf.v (AV.flo .f32 o)]))):=by kernel_rfl
theorem run_60 (N n:Nat) (cs:List AV) (m:Nat) (ds:List AV):(fsM [] waysP N 6).call (List RLeaf) 60 [.ofB (.list n cs),.ofB (.list m ds)] [] (resK [false])=(
 cO (S_ ((↑n:Int) != (↑m:Int)))
 (
 some ([RLeaf.v (AV.bool false)]))
 (
 loopC N (fun r_1 (a0:Nat) (a1:List AV) (a2:Nat) (a3:List AV) (a4:Int)=>
 cO (S_ (decide (a4<(↑a0:Int))))
 (
 gO (S_ (decide ((0:Int)<=a4/\a4<(↑a0:Int)/\0<a1.length)))<|
 bO (asInt IntKind.i64 (a1.getD (a4.toNat*1) AV.top)) fun v4=>
 gO (S_ (decide ((0:Int)<=a4/\a4<(↑a2:Int)/\0<a3.length)))<|
 bO (asInt IntKind.i64 (a3.getD (a4.toNat*1) AV.top)) fun v6=>
 cO (S_ (v4 != v6))
 (
 some ([RLeaf.v (AV.bool false)]))
 (
 r_1 a0 a1 a2 a3 (S_ (IntKind.i64.wrap (a4+(1:Int))))))
 (
 some ([RLeaf.v (AV.bool true)])))
 (fun _ _ _ _ _=>none) n cs m ds ((0:Int)))):=by kernel_rfl
theorem run_61 (N n:Nat) (cs:List AV) (m:Nat) (ds:List AV):(fsM [] waysP N 6).call (List RLeaf) 61 [.ofB (.list n cs),.ofB (.list m ds)] [] (resK [false])=(
 cO (S_ ((↑n:Int) != (↑m:Int)))
 (
 some ([RLeaf.v (AV.bool false)]))
 (
 loopC N (fun r_1 (a0:Nat) (a1:List AV) (a2:Nat) (a3:List AV) (a4:Int)=>
 cO (S_ (decide (a4<(↑a0:Int))))
 (
 gO (S_ (decide ((0:Int)<=a4/\a4<(↑a0:Int)/\0<a1.length)))<|
 bO (asFloat .f32 (a1.getD (a4.toNat*1) AV.top)) fun v4=>
 gO (S_ (decide ((0:Int)<=a4/\a4<(↑a2:Int)/\0<a3.length)))<|
 bO (asFloat .f32 (a3.getD (a4.toNat*1) AV.top)) fun v6=>
 cO (S_ (ordO .f32 v4 v6 != some .eq))
 (
 some ([RLeaf.v (AV.bool false)]))
 (
 r_1 a0 a1 a2 a3 (S_ (IntKind.i64.wrap (a4+(1:Int))))))
 (
 some ([RLeaf.v (AV.bool true)])))
 (fun _ _ _ _ _=>none) n cs m ds ((0:Int)))):=by kernel_rfl
theorem run_71 (N n:Nat) (cs:List AV) (m:Nat) (ds:List AV):(fsM [] waysP N 6).call (List RLeaf) 71 [.ofB (.list n cs),.ofB (.list m ds)] [] (resK [false])=(
 cO (S_ ((↑n:Int) != (↑m:Int)))
 (
 some ([RLeaf.v (AV.bool false)]))
 (
 loopC N (fun r_1 (a0:Nat) (a1:List AV) (a2:Nat) (a3:List AV) (a4:Int)=>
 cO (S_ (decide (a4<(↑a0:Int))))
 (
 gO (S_ (decide ((0:Int)<=a4/\a4<(↑a0:Int)/\0<a1.length)))<|
 bO (asInt IntKind.u8 (a1.getD (a4.toNat*1) AV.top)) fun v4=>
 gO (S_ (decide ((0:Int)<=a4/\a4<(↑a2:Int)/\0<a3.length)))<|
 bO (asInt IntKind.u8 (a3.getD (a4.toNat*1) AV.top)) fun v6=>
 cO (S_ (v4 != v6))
 (
 some ([RLeaf.v (AV.bool false)]))
 (
 r_1 a0 a1 a2 a3 (S_ (IntKind.i64.wrap (a4+(1:Int))))))
 (
 some ([RLeaf.v (AV.bool true)])))
 (fun _ _ _ _ _=>none) n cs m ds ((0:Int)))):=by kernel_rfl
theorem run_76 (N n:Nat) (cs:List AV) (m:Nat) (ds:List AV):(fsM [] waysP N 6).call (List RLeaf) 76 [.ofB (.list n cs),.ofB (.list m ds)] [] (resK [false])=(
 cO (S_ ((↑n:Int) != (↑m:Int)))
 (
 some ([RLeaf.v (AV.bool false)]))
 (
 loopC N (fun r_1 (a0:Nat) (a1:List AV) (a2:Nat) (a3:List AV) (a4:Int)=>
 cO (S_ (decide (a4<(↑a0:Int))))
 (
 gO (S_ (decide ((0:Int)<=a4/\a4<(↑a0:Int)/\0<a1.length)))<|
 bO (asInt IntKind.u16 (a1.getD (a4.toNat*1) AV.top)) fun v4=>
 gO (S_ (decide ((0:Int)<=a4/\a4<(↑a2:Int)/\0<a3.length)))<|
 bO (asInt IntKind.u16 (a3.getD (a4.toNat*1) AV.top)) fun v6=>
 cO (S_ (v4 != v6))
 (
 some ([RLeaf.v (AV.bool false)]))
 (
 r_1 a0 a1 a2 a3 (S_ (IntKind.i64.wrap (a4+(1:Int))))))
 (
 some ([RLeaf.v (AV.bool true)])))
 (fun _ _ _ _ _=>none) n cs m ds ((0:Int)))):=by kernel_rfl
theorem run_62 (N:Nat) (a b c:Int):(fsM [] waysP N 6).call (List RLeaf) 62 [.ofB (.int .i64 a),.ofB (.int .i64 b),.ofB (.int .i64 c)] [] (resK [false])=(
 bO (
 cO (S_ (decide (a<=b)))
 (
 some true)
 (
 cO (S_ (decide (a>c)))
 (
 some (S_ (decide (a<=S_ (IntKind.i64.wrap (c+(2:Int)))))))
 (
 some false))) fun v0=>
 some ([RLeaf.v (AV.bool v0)])):=by kernel_rfl
theorem run_23 (N:Nat) (a:Int):(fsM [] waysP N 6).call (List RLeaf) 23 [.ofB (.int .i64 a)] [] (resK [false])=(
 joinC N (
 (fun (y0_0:Bool)=>
 cO y0_0
 (
 some ([RLeaf.v (AV.int .i64 (3:Int))]))
 (
 some ([RLeaf.v (AV.int .i64 (0:Int))]))),PUnit.unit) fun k_0=>
 bO (
 cO (S_ (decide (a<(1:Int))))
 (
 some true)
 (
 some (S_ (decide (a>(256:Int)))))) fun v1=>
 k_0.1 v1):=by kernel_rfl
theorem run_31 (N:Nat) (a b c:Int):(fsM [] waysP N 6).call (List RLeaf) 31 [.ofB (.int .i64 a),.ofB (.int .i64 b),.ofB (.int .i64 c)] [] (resK [false])=(
 joinC N (
 (fun (y0_0 y1_0:Int) (y2_0:Bool)=>
 cO y2_0
 (
 some ([RLeaf.v (AV.int .i64 (3:Int))]))
 (
 cO (S_ (decide (y1_0<y0_0)))
 (
 some ([RLeaf.v (AV.int .i64 (11:Int))]))
 (
 some ([RLeaf.v (AV.int .i64 (0:Int))])))),PUnit.unit) fun k_0=>
 bO (
 cO (S_ (decide (b<(0:Int))))
 (
 some true)
 (
 some (S_ (decide (b>a))))) fun v1=>
 bO (
 cO v1
 (
 some true)
 (
 some (S_ (decide (c<(0:Int)))))) fun v2=>
 bO (
 cO v2
 (
 some true)
 (
 some (S_ (decide (c>a))))) fun v3=>
 k_0.1 b c v3):=by kernel_rfl
theorem run_39 (N:Nat) (a:Int):(fsM [] waysP N 6).call (List RLeaf) 39 [.ofB (.int .i64 a)] [] (resK [false])=(
 bO (
 cO (S_ (decide (a<(1:Int))))
 (
 some true)
 (
 some (S_ (decide (a>(2048:Int)))))) fun v0=>
 cO v0
 (
 some ([RLeaf.v (AV.int .i64 (3:Int))]))
 (
 some ([RLeaf.v (AV.int .i64 (0:Int))]))):=by kernel_rfl
theorem run_49 (N:Nat) (a b:Int):(fsM [] waysP N 6).call (List RLeaf) 49 [.ofB (.int .i64 a),.ofB (.int .i64 b)] [] (resK [false])=(
 joinC N (
 (fun (y0_0:Bool)=>
 cO y0_0
 (
 some ([RLeaf.v (AV.int .i64 (3:Int))]))
 (
 some ([RLeaf.v (AV.int .i64 (0:Int))]))),PUnit.unit) fun k_0=>
 bO (
 cO (S_ (decide (b<(0:Int))))
 (
 some true)
 (
 some (S_ (decide (b>a))))) fun v1=>
 k_0.1 v1):=by kernel_rfl
theorem run_50 (N:Nat) (a:Int):(fsM [] waysP N 6).call (List RLeaf) 50 [.ofB (.int .i64 a)] [] (resK [false,false])=(
 cO (S_ (decide (a<(0:Int))))
 (
 some ([RLeaf.v (AV.int .i64 (0:Int)),RLeaf.v (AV.int .i64 (7:Int))]))
 (
 some ([RLeaf.v (AV.int .i64 a),RLeaf.v (AV.int .i64 (0:Int))]))):=by kernel_rfl
theorem run_96 (N:Nat) (a:Int):(fsM [] waysP N 6).call (List RLeaf) 96 [.ofB (.int .i64 a)] [] (resK [false,false])=(
 cO (S_ (decide (a<(0:Int))))
 (
 some ([RLeaf.v (AV.int .i64 (0:Int)),RLeaf.v (AV.int .i64 (7:Int))]))
 (
 some ([RLeaf.v (AV.int .i64 a),RLeaf.v (AV.int .i64 (0:Int))]))):=by kernel_rfl
theorem run_118 (N:Nat) (a:Int):(fsM [] waysP N 6).call (List RLeaf) 118 [.ofB (.int .i64 a)] [] (resK [false])=(
 cO (S_ (decide (a<(0:Int))))
 (
 some ([RLeaf.v (AV.int .i64 (S_ (IntKind.i64.wrap (S_ (IntKind.i64.wrap ((-2:Int)*a))-(1:Int)))))]))
 (
 some ([RLeaf.v (AV.int .i64 (S_ (IntKind.i64.wrap ((2:Int)*a))))]))):=by kernel_rfl
theorem run_119 (N:Nat) (a:Int):(fsM [] waysP N 6).call (List RLeaf) 119 [.ofB (.int .i64 a)] [] (resK [false])=(
 gO (S_ (decide ((2:Int)≠(0:Int))))<|
 cO (S_ (S_ (a.tmod (2:Int))==(1:Int)))
 (
 gO (S_ (decide ((2:Int)≠(0:Int))))<|
 some ([RLeaf.v (AV.int .i64 (S_ (IntKind.i64.wrap ((S_ (IntKind.i64.wrap ((0:Int)-S_ (IntKind.i64.wrap (a+(1:Int)))))).tdiv (2:Int)))))]))
 (
 gO (S_ (decide ((2:Int)≠(0:Int))))<|
 some ([RLeaf.v (AV.int .i64 (S_ (IntKind.i64.wrap (a.tdiv (2:Int)))))]))):=by kernel_rfl
theorem run_68 (N n:Nat) (cs:List AV):(fsM [] waysP N 6).call (List RLeaf) 68 [.ofB (.list n cs)] [] (resK [false])=(
 cO (S_ (decide ((↑n:Int)>(4096:Int))))
 (
 some ([RLeaf.v (AV.int .i64 (5:Int))]))
 (
 loopC N (fun r_1 (a0:Nat) (a1:List AV) (a2:Int)=>
 cO (S_ (decide (a2<(↑a0:Int))))
 (
 joinC N (
 (fun (y0_3:Nat) (y1_3:List AV) (y2_3:Int) (y3_3:Bool)=>
 cO y3_3
 (
 some ([RLeaf.v (AV.int .i64 (3:Int))]))
 (
 r_1 y0_3 y1_3 (S_ (IntKind.i64.wrap (y2_3+(1:Int)))))),PUnit.unit) fun k_3=>
 gO (S_ (decide ((0:Int)<=a2/\a2<(↑a0:Int)/\0<a1.length)))<|
 bO (asInt IntKind.i64 (a1.getD (a2.toNat*1) AV.top)) fun v5=>
 bO (
 cO (S_ (decide (v5<(0:Int))))
 (
 some true)
 (
 gO (S_ (decide ((0:Int)<=a2/\a2<(↑a0:Int)/\0<a1.length)))<|
 bO (asInt IntKind.i64 (a1.getD (a2.toNat*1) AV.top)) fun v9=>
 some (S_ (decide (v9>(4095:Int)))))) fun v6=>
 k_3.1 a0 a1 a2 v6)
 (
 some ([RLeaf.v (AV.int .i64 (0:Int))])))
 (fun _ _ _=>none) n cs ((0:Int)))):=by kernel_rfl
theorem run_84 (N:Nat) (a b c:Int):(fsM [] waysP N 6).call (List RLeaf) 84 [.ofB (.int .i64 a),.ofB (.int .i64 b),.ofB (.int .i64 c)] [] (resK [false])=(
 bO (
 cO (S_ (decide (a<b)))
 (
 some true)
 (
 some (S_ (decide (a>c))))) fun v0=>
 cO v0
 (
 some ([RLeaf.v (AV.int .i64 (3:Int))]))
 (
 some ([RLeaf.v (AV.int .i64 (0:Int))]))):=by kernel_rfl
theorem run_22 (N n:Nat) (cs:List AV):(fsM [] waysP N 6).call (List RLeaf) 22 [.ofB (.list n cs)] [] (resK [false])=(
 cO (S_ (decide ((↑n:Int)>(4096:Int))))
 (
 some ([RLeaf.v (AV.int .i64 (5:Int))]))
 (
 loopC N (fun r_1 (a0:Nat) (a1:List AV) (a2:Int)=>
 cO (S_ (decide (a2<(↑a0:Int))))
 (
 gO (S_ (decide ((0:Int)<=a2/\a2<(↑a0:Int)/\0<a1.length)))<|
 bO (asFloat .f32 (a1.getD (a2.toNat*1) AV.top)) fun v4=>
 cO (!S_ (ordO .f32 (S_ (arithO Go.BinOp.sub .f32 v4 v4)) (some 0)==some .eq))
 (
 some ([RLeaf.v (AV.int .i64 (1:Int))]))
 (
 r_1 a0 a1 (S_ (IntKind.i64.wrap (a2+(1:Int))))))
 (
 some ([RLeaf.v (AV.int .i64 (0:Int))])))
 (fun _ _ _=>none) n cs ((0:Int)))):=by kernel_rfl
theorem run_83 (N n:Nat) (cs:List AV):(fsM [] waysP N 6).call (List RLeaf) 83 [.ofB (.list n cs)] [] (resK [false])=(
 cO (S_ (decide ((↑n:Int)>(4096:Int))))
 (
 some ([RLeaf.v (AV.int .i64 (5:Int))]))
 (
 loopC N (fun r_1 (a0:Nat) (a1:List AV) (a2 a3:Int)=>
 cO (S_ (decide (a3<a2)))
 (
 gO (S_ (decide ((0:Int)<=a3/\a3<(↑a0:Int)/\0<a1.length)))<|
 bO (asFloat .f32 (a1.getD (a3.toNat*1) AV.top)) fun v4=>
 cO (!S_ (ordO .f32 (S_ (arithO Go.BinOp.sub .f32 v4 v4)) (some 0)==some .eq))
 (
 cO (S_ ((1:Int) != (0:Int)))
 (
 some ([RLeaf.v (AV.int .i64 (1:Int))]))
 (
 r_1 a0 a1 a2 (S_ (IntKind.i64.wrap (a3+(1:Int))))))
 (
 cO (S_ ((0:Int) != (0:Int)))
 (
 some ([RLeaf.v (AV.int .i64 (0:Int))]))
 (
 r_1 a0 a1 a2 (S_ (IntKind.i64.wrap (a3+(1:Int)))))))
 (
 some ([RLeaf.v (AV.int .i64 (0:Int))])))
 (fun _ _ _ _=>none) n cs ((↑n:Int)) ((0:Int)))):=by kernel_rfl
theorem run_17 (N n:Nat) (cs:List AV):(fsM [] waysP N 6).call (List RLeaf) 17 [.ofB (.list n cs)] [] (resK [false])=(
 bO (
 cO (S_ (decide ((↑n:Int)<=(64:Int))))
 (
 some true)
 (
 cO (S_ (decide ((↑n:Int)>(4096:Int))))
 (
 some (S_ (decide ((↑n:Int)<=S_ (IntKind.i64.wrap ((4096:Int)+(2:Int)))))))
 (
 some false))) fun v0=>
 some ([RLeaf.v (AV.bool v0)])):=by kernel_rfl
end Go.Abs
end
