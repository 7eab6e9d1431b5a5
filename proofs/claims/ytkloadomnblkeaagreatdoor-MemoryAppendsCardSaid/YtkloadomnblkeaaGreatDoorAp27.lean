/- Part 27 of the library of the proof: an abstract run of the program. -/
import Derived.Test.YtkloadomnblkeaaGreatDoorAp22
import Derived.Test.YtkloadomnblkeaaGreatDoorAp26
set_option linter.unusedVariables false
set_option linter.unusedSimpArgs false

set_option maxRecDepth 100000
noncomputable section
namespace Go.Abs
open Go.Proofs Classical
theorem run_24 (N n:Nat) (cs:List AV) (b:Int):(fsM mzK waysQ N 12).call (List RLeaf) 24 [.ofB (.list n cs),.ofB (.int .i64 b)] [] (resK [false])=(
 (loopC N (fun (r_0:(Nat->List AV->Int->Nat->List AV->Int->Nat->List AV->Int->Nat->List AV->Option (List RLeaf)) × PUnit.{1})=>(
 (fun a0 a1 a2 a3 a4 a5 a6 a7 a8 a9 a10=>
 cO (S_ (decide ((↑a0:Int)>(0:Int))))
 (
 loopC N (fun r_2 (b0:Nat) (b1:List AV) (b2 b3:Int) (b4:Nat) (b5:List AV) (b6:Int) (b7:Nat) (b8:List AV) (b9:Int) (b10:Nat) (b11:List AV) (b12:Nat) (b13:List AV)=>
 cO (S_ (decide (b3<(↑b0:Int))))
 (
 gO (S_ (decide ((0:Int)<=b3/\b3<=S_ (if (↑b0:Int)<S_ (IntKind.i64.wrap (b3+b2)) then (↑b0:Int) else S_ (IntKind.i64.wrap (b3+b2)))/\S_ (if (↑b0:Int)<S_ (IntKind.i64.wrap (b3+b2)) then (↑b0:Int) else S_ (IntKind.i64.wrap (b3+b2)))<=(↑b0:Int))))<|
 gO (S_ (decide (b0*1=b1.length)))<|
 gO (S_ (decide (Flos ((S_ (if (↑b0:Int)<S_ (IntKind.i64.wrap (b3+b2)) then (↑b0:Int) else S_ (IntKind.i64.wrap (b3+b2)))).toNat-b3.toNat) (List.take (((S_ (if (↑b0:Int)<S_ (IntKind.i64.wrap (b3+b2)) then (↑b0:Int) else S_ (IntKind.i64.wrap (b3+b2)))).toNat-b3.toNat)*1) (List.drop (b3.toNat*1) b1))/\0<(S_ (if (↑b0:Int)<S_ (IntKind.i64.wrap (b3+b2)) then (↑b0:Int) else S_ (IntKind.i64.wrap (b3+b2)))).toNat-b3.toNat)))<|
 gO (S_ (decide ((b12+1)*9<=549755813888)))<|
 r_2 b0 b1 b2 (S_ (IntKind.i64.wrap (b3+b2))) b4 b5 b6 b7 b8 b9 b10 b11 (b12+1) (b13++putCells (zrow (ofV (Go.Value.agg #[Go.Value.float .f32 0,Go.Value.float .f32 0])).cells 2) 0 [AV.flo .f32 (S_ (extV Ordering.lt ((fO (List.take (((S_ (if (↑b0:Int)<S_ (IntKind.i64.wrap (b3+b2)) then (↑b0:Int) else S_ (IntKind.i64.wrap (b3+b2)))).toNat-b3.toNat)*1) (List.drop (b3.toNat*1) b1))).getD 0 none) (fO (List.take (((S_ (if (↑b0:Int)<S_ (IntKind.i64.wrap (b3+b2)) then (↑b0:Int) else S_ (IntKind.i64.wrap (b3+b2)))).toNat-b3.toNat)*1) (List.drop (b3.toNat*1) b1))))),AV.flo .f32 (S_ (extV Ordering.gt ((fO (List.take (((S_ (if (↑b0:Int)<S_ (IntKind.i64.wrap (b3+b2)) then (↑b0:Int) else S_ (IntKind.i64.wrap (b3+b2)))).toNat-b3.toNat)*1) (List.drop (b3.toNat*1) b1))).getD 0 none) (fO (List.take (((S_ (if (↑b0:Int)<S_ (IntKind.i64.wrap (b3+b2)) then (↑b0:Int) else S_ (IntKind.i64.wrap (b3+b2)))).toNat-b3.toNat)*1) (List.drop (b3.toNat*1) b1)))))]))
 (
 gO (S_ (decide ((b10+1)*25<=549755813888)))<|
 cO (S_ ((↑b12:Int)==(1:Int)))
 (
 some ([RLeaf.v (AV.agg [AV.int .i64 b9,AV.list (b10+1) (b11++putCells (zrow (ofV (Go.Value.slice none 0 0)).cells 1) 0 [AV.list b12 b13])])]))
 (
 r_0.1 b0 b1 (S_ (IntKind.i64.wrap ((2:Int)*b2))) b4 b5 b6 b7 b8 b9 (b10+1) (b11++putCells (zrow (ofV (Go.Value.slice none 0 0)).cells 1) 0 [AV.list b12 b13]))))
 (fun _ _ _ _ _ _ _ _ _ _ _ _ _ _=>none) a0 a1 a2 ((0:Int)) a3 a4 a5 a6 a7 a8 a9 a10 0 ([]))
 (
 some ([RLeaf.v (AV.agg [AV.int .i64 a8,AV.list a9 a10])]))),PUnit.unit))
 ((fun _ _ _ _ _ _ _ _ _ _ _=>none),PUnit.unit)).1 n cs b 0 ([]) ((0:Int)) 0 ([]) b 0 ([])):=by kernel_rfl
theorem run_26 (N:Nat) (b:Int) (m:Nat) (ls:List AV):(fsM mzK waysQ N 12).call (List RLeaf) 26 [.s (.agg [.b (.int .i64 b),.b (.list m ls)])] [] (resK [false])=(
 (loopC N (fun (r_0:(Nat->List AV->Int->Int->Int->Nat->List AV->Nat->List AV->Int->Nat->List AV->Int->Nat->List AV->Option (List RLeaf)) × PUnit.{1})=>(
 (fun a0 a1 a2 a3 a4 a5 a6 a7 a8 a9 a10 a11 a12 a13 a14=>
 cO (S_ (decide (a3<a2)))
 (
 gO (S_ (decide ((0:Int)<=a3/\a3<(↑a0:Int)/\0<a1.length)))<|
 bO (asList (a1.getD (a3.toNat*1) AV.top)) fun v3=>
 gO (S_ (decide (Flos (2*v3.fst) v3.snd/\v3.fst<=100000)))<|
 gO (S_ (decide ((a13+1)*25<=549755813888)))<|
 r_0.1 a0 a1 a2 (S_ (IntKind.i64.wrap (a3+(1:Int)))) a4 a5 a6 a7 a8 a9 a10 a11 a12 (a13+1) (a14++putCells (zrow (ofV (Go.Value.slice none 0 0)).cells 1) 0 [AV.list (S_ v3.fst) (S_ v3.snd)]))
 (
 some ([RLeaf.v (AV.agg [AV.int .i64 a12,AV.list a13 a14])]))),PUnit.unit))
 ((fun _ _ _ _ _ _ _ _ _ _ _ _ _ _ _=>none),PUnit.unit)).1 m ls ((↑m:Int)) ((0:Int)) b m ls 0 ([]) ((0:Int)) 0 ([]) b 0 ([])):=by kernel_rfl
theorem run_28 (N:Nat) (b:Int) (m:Nat) (ls:List AV):(fsM mzK waysQ N 12).call (List RLeaf) 28 [.s (.agg [.b (.int .i64 b),.b (.list m ls)])] [] (resK [false])=(
 (loopC N (fun (r_0:(Nat->List AV->Int->Int->Int->Nat->List AV->Nat->List AV->Int->Nat->List AV->Int->Nat->List AV->Option (List RLeaf)) × PUnit.{1})=>(
 (fun a0 a1 a2 a3 a4 a5 a6 a7 a8 a9 a10 a11 a12 a13 a14=>
 cO (S_ (decide (a3<a2)))
 (
 gO (S_ (decide ((0:Int)<=a3/\a3<(↑a0:Int)/\0<a1.length)))<|
 bO (asList (a1.getD (a3.toNat*1) AV.top)) fun v3=>
 loopC N (fun r_4 (b0:Nat) (b1:List AV) (b2 b3:Int) (b4:Nat) (b5:List AV) (b6 b7 b8:Int) (b9:Nat) (b10:List AV) (b11:Nat) (b12:List AV) (b13:Int) (b14:Nat) (b15:List AV) (b16:Int) (b17:Nat) (b18:List AV) (b19:Nat) (b20:List AV)=>
 cO (S_ (decide (b7<b6)))
 (
 gO (S_ (decide ((0:Int)<=b7/\b7<(↑b4:Int)/\0<b5.length)))<|
 gO (S_ (decide (b7.toNat*2+2<=b5.length)))<|
 bO (asFloat .f32 (b5.getD (b7.toNat*2) AV.top)) fun v8=>
 bO (asFloat .f32 (b5.getD (b7.toNat*2+1) AV.top)) fun v9=>
 gO (S_ (decide ((b19+1)*9<=549755813888)))<|
 r_4 b0 b1 b2 b3 b4 b5 b6 (S_ (IntKind.i64.wrap (b7+(1:Int)))) b8 b9 b10 b11 b12 b13 b14 b15 b16 b17 b18 (b19+1) (b20++putCells (zrow (ofV (Go.Value.agg #[Go.Value.float .f32 0,Go.Value.float .f32 0])).cells 2) 0 [AV.flo .f32 v8,AV.flo .f32 v9]))
 (
 gO (S_ (decide ((b17+1)*25<=549755813888)))<|
 r_0.1 b0 b1 b2 (S_ (IntKind.i64.wrap (b3+(1:Int)))) b8 b9 b10 b11 b12 b13 b14 b15 b16 (b17+1) (b18++putCells (zrow (ofV (Go.Value.slice none 0 0)).cells 1) 0 [AV.list b19 b20])))
 (fun _ _ _ _ _ _ _ _ _ _ _ _ _ _ _ _ _ _ _ _ _=>none) a0 a1 a2 a3 (v3.fst) (v3.snd) ((↑v3.fst:Int)) ((0:Int)) a4 a5 a6 a7 a8 a9 a10 a11 a12 a13 a14 0 ([]))
 (
 some ([RLeaf.v (AV.agg [AV.int .i64 a12,AV.list a13 a14])]))),PUnit.unit))
 ((fun _ _ _ _ _ _ _ _ _ _ _ _ _ _ _=>none),PUnit.unit)).1 m ls ((↑m:Int)) ((0:Int)) b m ls 0 ([]) ((0:Int)) 0 ([]) b 0 ([])):=by kernel_rfl
theorem run_20 (N n:Nat) (cs:List AV) (b:Int):(fsM mzK waysQ N 12).call (List RLeaf) 20 [.ofB (.list n cs),.ofB (.int .i64 b)] [] (resK [false,false])=(
 gO (S_ (decide (Flos n cs)))<|
 gO (S_ (decide (Ints 2 (putCells (putCells (zrow (ofV (Go.Value.int IntKind.i64 (0:Int))).cells 2) 0 [AV.int .i64 (S_ (sampErr n (fO cs)))]) 1 [AV.int .i64 (S_ (if b<(1:Int)\/b>(256:Int) then (3:Int) else (0:Int)))]))))<|
 cO (S_ (S_ (firstNZ (intsOf (putCells (putCells (zrow (ofV (Go.Value.int IntKind.i64 (0:Int))).cells 2) 0 [AV.int .i64 (S_ (sampErr n (fO cs)))]) 1 [AV.int .i64 (S_ (if b<(1:Int)\/b>(256:Int) then (3:Int) else (0:Int)))]))) != (0:Int)))
 (
 some ([RLeaf.v (AV.agg [AV.int .i64 (0:Int),AV.list 0 []]),RLeaf.v (AV.int .i64 (S_ (firstNZ (intsOf (putCells (putCells (zrow (ofV (Go.Value.int IntKind.i64 (0:Int))).cells 2) 0 [AV.int .i64 (S_ (sampErr n (fO cs)))]) 1 [AV.int .i64 (S_ (if b<(1:Int)\/b>(256:Int) then (3:Int) else (0:Int)))])))))]))
 (
 gO (S_ (decide (Flos n cs/\n<=5000/\FinL (fO cs)/\(1:Int)<=b/\b<=(100000:Int))))<|
 some ([RLeaf.v (AV.agg [AV.int .i64 b,AV.list (S_ (levelsF (fO cs) b.toNat).length) (S_ (lvCells (levelsF (fO cs) b.toNat)))]),RLeaf.v (AV.int .i64 (0:Int))]))):=by kernel_rfl
theorem run_27 (N n:Nat) (cs:List AV) (b:Int) (m:Nat) (ls:List AV):(fsM mzK waysQ N 12).call (List RLeaf) 27 [.ofB (.list n cs),.s (.agg [.b (.int .i64 b),.b (.list m ls)])] [] (resK [false])=(
 gO (S_ (decide (Flos n cs)))<|
 gO (S_ (decide (Ints 2 (putCells (putCells (zrow (ofV (Go.Value.int IntKind.i64 (0:Int))).cells 2) 0 [AV.int .i64 (S_ (sampErr n (fO cs)))]) 1 [AV.int .i64 (S_ (if b<(1:Int)\/b>(256:Int) then (3:Int) else (0:Int)))]))))<|
 cO (S_ (S_ (firstNZ (intsOf (putCells (putCells (zrow (ofV (Go.Value.int IntKind.i64 (0:Int))).cells 2) 0 [AV.int .i64 (S_ (sampErr n (fO cs)))]) 1 [AV.int .i64 (S_ (if b<(1:Int)\/b>(256:Int) then (3:Int) else (0:Int)))]))) != (0:Int)))
 (
 some ([RLeaf.v (AV.int .i64 (S_ (firstNZ (intsOf (putCells (putCells (zrow (ofV (Go.Value.int IntKind.i64 (0:Int))).cells 2) 0 [AV.int .i64 (S_ (sampErr n (fO cs)))]) 1 [AV.int .i64 (S_ (if b<(1:Int)\/b>(256:Int) then (3:Int) else (0:Int)))])))))]))
 (
 gO (S_ (decide (Flos n cs/\n<=5000/\FinL (fO cs)/\(1:Int)<=b/\b<=(100000:Int))))<|
 cO (S_ ((↑m:Int) != (↑(S_ (levelsF (fO cs) b.toNat).length):Int)))
 (
 some ([RLeaf.v (AV.int .i64 (2:Int))]))
 (
 loopC N (fun r_5 (a0:Nat) (a1:List AV) (a2:Nat) (a3:List AV) (a4 a5 a6:Int) (a7:Nat) (a8:List AV) (a9:Nat) (a10:List AV)=>
 cO (S_ (decide (a5<a4)))
 (
 gO (S_ (decide ((0:Int)<=a5/\a5<(↑a2:Int)/\0<a3.length)))<|
 bO (asList (a3.getD (a5.toNat*1) AV.top)) fun v8=>
 gO (S_ (decide ((0:Int)<=a5/\a5<(↑a7:Int)/\0<a8.length)))<|
 bO (asList (a8.getD (a5.toNat*1) AV.top)) fun v10=>
 cO (S_ ((↑v10.fst:Int) != (↑v8.fst:Int)))
 (
 some ([RLeaf.v (AV.int .i64 (2:Int))]))
 (
 r_5 a0 a1 a2 a3 a4 (S_ (IntKind.i64.wrap (a5+(1:Int)))) a6 a7 a8 a9 a10))
 (
 loopC N (fun r_7 (b0:Int) (b1:Nat) (b2:List AV) (b3 b4 b5:Int) (b6:Nat) (b7:List AV) (b8:Nat) (b9:List AV)=>
 cO (S_ (decide (b4<b3)))
 (
 gO (S_ (decide ((0:Int)<=b4/\b4<(↑b1:Int)/\0<b2.length)))<|
 bO (asList (b2.getD (b4.toNat*1) AV.top)) fun v10=>
 loopC N (fun r_11 (c0 c1:Int) (c2:Nat) (c3:List AV) (c4 c5:Int) (c6:Nat) (c7:List AV) (c8 c9 c10:Int) (c11:Nat) (c12:List AV) (c13:Nat) (c14:List AV)=>
 cO (S_ (decide (c9<c8)))
 (
 gO (S_ (decide ((0:Int)<=c9/\c9<(↑c6:Int)/\0<c7.length)))<|
 gO (S_ (decide (c9.toNat*2+2<=c7.length)))<|
 bO (asFloat .f32 (c7.getD (c9.toNat*2) AV.top)) fun v15=>
 bO (asFloat .f32 (c7.getD (c9.toNat*2+1) AV.top)) fun v16=>
 gO (S_ (decide ((0:Int)<=c1/\c1<(↑c11:Int)/\0<c12.length)))<|
 bO (asList (c12.getD (c1.toNat*1) AV.top)) fun v18=>
 gO (S_ (decide ((0:Int)<=c9/\c9<(↑v18.fst:Int)/\0<v18.snd.length)))<|
 gO (S_ (decide (c9.toNat*2+2<=v18.snd.length)))<|
 bO (asFloat .f32 (v18.snd.getD (c9.toNat*2) AV.top)) fun v21=>
 bO (asFloat .f32 (v18.snd.getD (c9.toNat*2+1) AV.top)) fun v22=>
 bO (
 cO (!S_ (finB v21))
 (
 some true)
 (
 some (!S_ (finB v22)))) fun v23=>
 cO v23
 (
 some ([RLeaf.v (AV.int .i64 (1:Int))]))
 (
 gO (S_ (decide (Ints 2 (putCells (putCells (zrow (ofV (Go.Value.int IntKind.i64 (0:Int))).cells 2) 0 [AV.int .i64 c0]) 1 [AV.int .i64 (S_ (if (S_ !(S_ (ordO .f32 v21 v15==some .eq)&&(S_ (ordO .f32 v22 v16==some .eq)&&true)))=true then (21:Int) else (0:Int)))]))))<|
 r_11 (S_ (firstNZ (intsOf (putCells (putCells (zrow (ofV (Go.Value.int IntKind.i64 (0:Int))).cells 2) 0 [AV.int .i64 c0]) 1 [AV.int .i64 (S_ (if (S_ !(S_ (ordO .f32 v21 v15==some .eq)&&(S_ (ordO .f32 v22 v16==some .eq)&&true)))=true then (21:Int) else (0:Int)))])))) c1 c2 c3 c4 c5 c6 c7 c8 (S_ (IntKind.i64.wrap (c9+(1:Int)))) c10 c11 c12 c13 c14))
 (
 r_7 c0 c2 c3 c4 (S_ (IntKind.i64.wrap (c5+(1:Int)))) c10 c11 c12 c13 c14))
 (fun _ _ _ _ _ _ _ _ _ _ _ _ _ _ _=>none) b0 b4 b1 b2 b3 b4 (v10.fst) (v10.snd) ((↑v10.fst:Int)) ((0:Int)) b5 b6 b7 b8 b9)
 (
 some ([RLeaf.v (AV.int .i64 b0)])))
 (fun _ _ _ _ _ _ _ _ _ _=>none) ((0:Int)) a0 a1 ((↑a0:Int)) ((0:Int)) a6 a7 a8 a9 a10))
 (fun _ _ _ _ _ _ _ _ _ _ _=>none) (S_ (levelsF (fO cs) b.toNat).length) (S_ (lvCells (levelsF (fO cs) b.toNat))) (S_ (levelsF (fO cs) b.toNat).length) (S_ (lvCells (levelsF (fO cs) b.toNat))) ((↑(S_ (levelsF (fO cs) b.toNat).length):Int)) ((0:Int)) b m ls 2 (putCells (putCells (zrow (ofV (Go.Value.int IntKind.i64 (0:Int))).cells 2) 0 [AV.int .i64 (S_ (sampErr n (fO cs)))]) 1 [AV.int .i64 (S_ (if b<(1:Int)\/b>(256:Int) then (3:Int) else (0:Int)))])))):=by kernel_rfl
theorem run_25 (N:Nat) (b:Int) (m:Nat) (ls:List AV) (c:Int) (q:Nat) (ks:List AV):(fsM mzK waysQ N 12).call (List RLeaf) 25 [.s (.agg [.b (.int .i64 b),.b (.list m ls)]),.s (.agg [.b (.int .i64 c),.b (.list q ks)])] [] (resK [false])=(
 bO (
 cO (S_ (b != c))
 (
 some true)
 (
 some (S_ ((↑m:Int) != (↑q:Int))))) fun v0=>
 cO v0
 (
 some ([RLeaf.v (AV.bool false)]))
 (
 loopC N (fun r_2 (a0 a1:Int) (a2:Nat) (a3:List AV) (a4:Int) (a5:Nat) (a6:List AV)=>
 cO (S_ (decide (a0<(↑a2:Int))))
 (
 gO (S_ (decide ((0:Int)<=a0/\a0<(↑a2:Int)/\0<a3.length)))<|
 bO (asList (a3.getD (a0.toNat*1) AV.top)) fun v5=>
 gO (S_ (decide ((0:Int)<=a0/\a0<(↑a5:Int)/\0<a6.length)))<|
 bO (asList (a6.getD (a0.toNat*1) AV.top)) fun v7=>
 cO (S_ ((↑v5.fst:Int) != (↑v7.fst:Int)))
 (
 some ([RLeaf.v (AV.bool false)]))
 (
 loopC N (fun r_9 (b0:Nat) (b1:List AV) (b2:Nat) (b3:List AV) (b4 b5:Int) (b6:Nat) (b7:List AV) (b8:Int) (b9:Nat) (b10:List AV)=>
 cO (S_ (decide (b4<(↑b0:Int))))
 (
 gO (S_ (decide ((0:Int)<=b4/\b4<(↑b0:Int)/\0<b1.length)))<|
 gO (S_ (decide (b4.toNat*2+2<=b1.length)))<|
 bO (asFloat .f32 (b1.getD (b4.toNat*2) AV.top)) fun v13=>
 bO (asFloat .f32 (b1.getD (b4.toNat*2+1) AV.top)) fun v14=>
 gO (S_ (decide ((0:Int)<=b4/\b4<(↑b2:Int)/\0<b3.length)))<|
 gO (S_ (decide (b4.toNat*2+2<=b3.length)))<|
 bO (asFloat .f32 (b3.getD (b4.toNat*2) AV.top)) fun v17=>
 bO (asFloat .f32 (b3.getD (b4.toNat*2+1) AV.top)) fun v18=>
 cO (S_ !(S_ (ordO .f32 v13 v17==some .eq)&&(S_ (ordO .f32 v14 v18==some .eq)&&true)))
 (
 some ([RLeaf.v (AV.bool false)]))
 (
 r_9 b0 b1 b2 b3 (S_ (IntKind.i64.wrap (b4+(1:Int)))) b5 b6 b7 b8 b9 b10))
 (
 r_2 (S_ (IntKind.i64.wrap (a0+(1:Int)))) b5 b6 b7 b8 b9 b10))
 (fun _ _ _ _ _ _ _ _ _ _ _=>none) (v5.fst) (v5.snd) (v7.fst) (v7.snd) ((0:Int)) a1 a2 a3 a4 a5 a6))
 (
 some ([RLeaf.v (AV.bool true)])))
 (fun _ _ _ _ _ _ _=>none) ((0:Int)) b m ls c q ks)):=by kernel_rfl
theorem run_18 (N:Nat) (b:Int) (m:Nat) (ls:List AV):(fsM mzK waysQ N 12).call (List RLeaf) 18 [.s (.agg [.b (.int .i64 b),.b (.list m ls)])] [] (resK [false])=(
 cO (S_ (decide ((↑m:Int)>(12:Int))))
 (
 some ([RLeaf.v (AV.bool false)]))
 (
 loopC N (fun r_1 (a0 a1:Int) (a2:Nat) (a3:List AV)=>
 cO (S_ (decide (a0<(↑a2:Int))))
 (
 gO (S_ (decide ((0:Int)<=a0/\a0<(↑a2:Int)/\0<a3.length)))<|
 bO (asList (a3.getD (a0.toNat*1) AV.top)) fun v4=>
 cO (S_ (decide ((↑v4.fst:Int)>(80:Int))))
 (
 some ([RLeaf.v (AV.bool false)]))
 (
 r_1 (S_ (IntKind.i64.wrap (a0+(1:Int)))) a1 a2 a3))
 (
 some ([RLeaf.v (AV.bool true)])))
 (fun _ _ _ _=>none) ((0:Int)) b m ls)):=by kernel_rfl
end Go.Abs
end
