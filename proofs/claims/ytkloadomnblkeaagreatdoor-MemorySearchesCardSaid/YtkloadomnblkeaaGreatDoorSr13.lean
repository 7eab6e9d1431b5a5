/- Part 13 of the library that the proof of the statement uses: an abstract run of the program, proved right, and what its functions give. -/
import Derived.Test.YtkloadomnblkeaaGreatDoorSr11
import Derived.Test.YtkloadomnblkeaaGreatDoorSr12
import Derived.Laws.Bits64b
set_option linter.unusedVariables false
set_option linter.unusedSimpArgs false

noncomputable section
namespace Go.Abs
open Classical
theorem mul_le_sq {a b m:Int} (ha:0<=a) (hb:0<=b) (h1:a<=m) (h2:b<=m):0<=a*b/\a*b<=m*m:=
 ⟨Int.mul_nonneg ha hb,Int.mul_le_mul h1 h2 hb (by omega)⟩
end Go.Abs
end
noncomputable section
namespace Go.Abs
open Go.Proofs Classical
theorem firstNZ_2 (a b:Int):firstNZ (intsOf [AV.int .i64 a,AV.int .i64 b])=if a=0 then b else a:=by
 simp only [intsOf,List.map_cons,List.map_nil,toI,firstNZ]
 by_cases h:a=0<;>by_cases h2:b=0<;>simp [h,h2]
theorem put3n (u v w:Int):putCells (putCells (putCells (zrow (ofV (Go.Value.int IntKind.i64 (0:Int))).cells 3) 0 [AV.int IntKind.i64 u]) 1 [AV.int IntKind.i64 v]) 2 [AV.int IntKind.i64 w]=[AV.int .i64 u,AV.int .i64 v,AV.int .i64 w]:=by
 rfl
theorem ints3n (u v w:Int):Ints 3 [AV.int IntKind.i64 u,AV.int IntKind.i64 v,AV.int IntKind.i64 w]:=⟨by omega,rfl,rfl⟩
theorem firstNZ_3 (a b c:Int):firstNZ (intsOf [AV.int .i64 a,AV.int .i64 b,AV.int .i64 c])=if a=0 then (if b=0 then c else b) else a:=by
 simp only [intsOf,List.map_cons,List.map_nil,toI,firstNZ]
 by_cases h:a=0<;>by_cases h2:b=0<;>by_cases h3:c=0<;>simp [h,h2,h3]
end Go.Abs
end
noncomputable section
namespace Go.Abs
open Classical
theorem condO_ts {p a:Bool}:cO p (some true) (some a)=some (p||a):=by cases p<;>rfl
theorem condO_sf {p a:Bool}:cO p (some a) (some false)=some (p&&a):=by cases p<;>rfl
theorem condO_fx {R:Type} {x y:Option R}:cO false x y=y:=rfl
theorem condO_tx {R:Type} {x y:Option R}:cO true x y=x:=rfl
theorem leaf_agg {cs:List AV} (h:∀ c∈cs,Cell c):LeafOk (.v (.agg cs)):=
 ⟨.agg cs fun c hc=>(h c hc).pure,(fun _ _ e=>by cases e),fun cs' e c hc=>by cases e;exact h c hc⟩
theorem cells_ff (a b:Option Nat):∀ c∈[AV.flo .f32 a,AV.flo .f32 b],Cell c:=by
 intro c hc
 rcases List.mem_cons.1 hc with rfl | hc
 ·exact .flo _ _
 rcases List.mem_cons.1 hc with rfl | hc
 ·exact .flo _ _
 cases hc
end Go.Abs
end
noncomputable section
namespace Go.Abs
open Go.Proofs Classical
def lvl:Nat->Int->Int->Nat
 | 0,_,_=>0
 | k+1,n,w=>if w<n then lvl k n (2*w)+1 else 0
def levN (a n:Int):Nat:=if n=0 then 0 else lvl 13 n a+1
theorem run_90' {a n:Int} (h1:1<=a) (h2:a<=256) (h3:0<=n) (h4:n<=4096):(fsM mz2 waysP 14 12).call (List RLeaf) 90 [.ofB (.int .i64 a),.ofB (.int .i64 n)] [] (resK [false])=some [.v (.int .i64 (levN a n:Int))]:=by
 rw [run_90]
 simp only [shut_eq,condO_beq,levN]
 by_cases h0:n=0
 ·rw [if_pos h0,if_pos h0];rfl
 rw [if_neg h0,if_neg h0]
 refine (loopC_rule (fun k (r:Int->Int->Int->Option (List RLeaf))=>∀ (c:Nat) (w:Int),1<=w->w*2 ^ k>4096->w<=100000->c+k<=100->r n (c:Int) w=some [.v (.int .i64 ((c+lvl k n w:Nat):Int))]) ?_ 14 13 (by omega) 1 a h1 (by omega) (by omega) (by omega)).trans (by rw [Nat.add_comm])
 intro k r ih c w hw1 hw2 hw3 hc
 simp only [shut_eq,condO_dec]
 cases k with
 | zero=>
  rw [if_neg (by omega)]
  rfl
 | succ k=>
  by_cases hw:w<n
  ·rw [if_pos hw,wrap64 (by omega) (by omega),wrap64 (by omega) (by omega),show ((c:Int)+1)=((c+1:Nat):Int) by omega]
   rw [ih k (by omega) (c+1) (2*w) (by omega) (by rw [Int.pow_succ] at hw2;rw [Int.mul_comm 2 w,Int.mul_assoc,Int.mul_comm 2];exact hw2) (by omega) (by omega)]
   simp only [lvl,if_pos hw]
   rw [show c+1+lvl k n (2*w)=c+(lvl k n (2*w)+1) by omega]
  ·rw [if_neg hw]
   simp only [lvl,if_neg hw,Nat.add_zero]
def endsL (a n l i:Int):Int × Int:=if l<0 then (i,i+1) else (min n (a*2 ^ l.toNat*i),min n (a*2 ^ l.toNat*(i+1)))
theorem ite_min (x y:Int):(if x<y then x else y)=min y x:=by
 rw [Int.min_def];split<;>split<;>omega
theorem run_78' {a n l i:Int} (h1:1<=a) (h2:a<=256) (h3:0<=n) (h4:n<=4096) (h5:l<=13) (h6:0<=i) (h7:i<=4096):
  (fsM mz2 waysP 15 12).call (List RLeaf) 78 [.ofB (.int .i64 a),.ofB (.int .i64 n),.s (.agg [.b (.int .i64 l),.b (.int .i64 i)])] [] (resK [false,false])=some [.v (.int .i64 (endsL a n l i).1),.v (.int .i64 (endsL a n l i).2)]:=by
 rw [run_78]
 simp only [shut_eq,condO_dec,endsL]
 by_cases h0:l<0
 ·rw [if_pos h0,if_pos h0,wrap64 (by omega) (by omega)]
 rw [if_neg h0,if_neg h0]
 obtain ⟨L,rfl⟩:=Int.eq_ofNat_of_zero_le (show 0<=l by omega)
 refine loopC_rule (fun k (r:Int->Int->Int->Int->Int->Option (List RLeaf))=>∀ (c:Nat) (w:Int),c+k=L->w=a*2 ^ c->r n w (c:Int) (L:Int) i=some [.v (.int .i64 (min n (a*2 ^ L*i))),.v (.int .i64 (min n (a*2 ^ L*(i+1))))]) ?_ 15 L (by omega) 0 a (by omega) (by simp)
 intro k r ih c w hc hw
 simp only [shut_eq,condO_dec,Int.ofNat_lt]
 have hp:∀ c:Nat,c<=13->1<=(2:Int) ^ c/\(2:Int) ^ c<=8192:=by
  intro c hc
  have e:(2:Int) ^ c=((2 ^ c:Nat):Int):=by simp
  have:=Nat.pow_le_pow_right (show 0<2 by omega) hc
  have:=Nat.two_pow_pos c
  omega
 have hb:∀ c:Nat,c<=13->1<=a*2 ^ c/\a*2 ^ c<=2097152:=by
  intro c hc
  obtain ⟨p1,p2⟩:=hp c hc
  have:=mul_le_sq (a:=a) (b:=2 ^ c) (m:=8192) (by omega) (by omega) (by omega) (by omega)
  have q1:1*1<=a*2 ^ c:=Int.mul_le_mul h1 p1 (by omega) (by omega)
  have q2:a*2 ^ c<=256*8192:=Int.mul_le_mul h2 p2 (by omega) (by omega)
  omega
 by_cases hk:c<L
 ·have hb':=hb c (by omega)
  rw [if_pos hk,hw,wrap64 (z:=(c:Int)+1) (by omega) (by omega),wrap64 (by omega) (by omega),show ((c:Int)+1)=((c+1:Nat):Int) by omega]
  exact ih (L-(c+1)) (by omega) (c+1) _ (by omega) (by rw [Int.pow_succ];generalize (2:Int) ^ c=z;grind)
 ·have:c=L:=by omega
  subst this
  have hb':=hb c (by omega)
  have m1:0<=w*i/\w*i<=2097152*4096:=⟨Int.mul_nonneg (by omega) h6,Int.mul_le_mul (by omega) h7 h6 (by omega)⟩
  have m2:0<=w*(i+1)/\w*(i+1)<=2097152*4097:=⟨Int.mul_nonneg (by omega) (by omega),Int.mul_le_mul (by omega) (by omega) (by omega) (by omega)⟩
  rw [if_neg hk,wrap64 (z:=i+1) (by omega) (by omega),wrap64 (z:=w*i) (by omega) (by omega),wrap64 (z:=w*(i+1)) (by omega) (by omega),ite_min,ite_min,hw]
theorem run_88' {a b c:Int}:(fsM mz2 waysP 1 12).call (List RLeaf) 88 [.ofB (.int .i64 a),.ofB (.int .i64 b),.ofB (.int .i64 c)] [] (resK [false])=some [.v (.int .i64 (if b<0\/b>a then 3 else if c<0\/c>a then 3 else if c<b then 11 else 0))]:=by
 rw [run_88]
 simp only [shut_eq,guardO_dec,put3n,ints3n,if_true,firstNZ_3,decide_eq_true_eq]
 by_cases h1:b<0\/b>a<;>by_cases h2:c<0\/c>a<;>by_cases h3:c<b<;>simp [h1,h2,h3]
theorem ints_2i {n:Nat} {cs:List AV} (h:Ints (2*n) cs) {i:Nat} (hi:i<n):asInt .i64 (cs.getD (i*2) .top)=some ((intsOf cs).getD (i*2) 0)/\asInt .i64 (cs.getD (i*2+1) .top)=some ((intsOf cs).getD (i*2+1) 0):=
 ⟨h.get (by omega),h.get (by omega)⟩
def Prs (n:Nat) (cs:List AV):Prop:=n<100000000/\Ints (2*n) cs
theorem Prs.plain {n:Nat} {cs:List AV} (h:Prs n cs):∀ c∈cs,PlainC c:=fun c hc=>by
 rw [h.2.2.1] at hc
 exact numsL_plain (k:=.i64) c hc
theorem run_33' {n m:Nat} {cs ds:List AV} (h:Prs n cs) (h':Prs m ds):(fsM mz2 waysP (n+1) 12).call (List RLeaf) 33 [.ofB (.list n cs),.ofB (.list m ds)] [] (resK [false])=some [.v (.bool (decide (intsOf cs=intsOf ds)))]:=by
 rw [run_33]
 obtain ⟨hn,h⟩:=h
 obtain ⟨hm,h'⟩:=h'
 have hl:=h.len
 have hl':=h'.len
 have hc:=h.2.2
 have hc':=h'.2.2
 simp only [shut_eq,condO_bne,Int.ofNat_inj]
 by_cases hnm:n=m
 ·subst hnm
  rw [if_pos rfl]
  refine loopC_rule (fun k (r:Nat->List AV->Nat->List AV->Int->Option (List RLeaf))=>∀ i:Nat,i+k=n->r n cs n ds (i:Int)=some [RLeaf.v (.bool (decide ((intsOf cs).drop (i*2)=(intsOf ds).drop (i*2))))]) ?_ (n+1) n (by omega) 0 (by omega)
  intro k r ih i hi
  by_cases hk:i<n
  ·have z1:0<cs.length:=by omega
   have z2:0<ds.length:=by omega
   have z3:i*2+2<=cs.length:=by omega
   have z4:i*2+2<=ds.length:=by omega
   rw [drop_cons (xs:=intsOf cs) (d:=0) (i:=i*2) (by omega),drop_cons (xs:=intsOf cs) (d:=0) (i:=i*2+1) (by omega),drop_cons (xs:=intsOf ds) (d:=0) (i:=i*2) (by omega),drop_cons (xs:=intsOf ds) (d:=0) (i:=i*2+1) (by omega)]
   simp only [shut_eq,condO_dec,condO_not,guardO_dec,Int.ofNat_lt,hk,z1,z2,z3,z4,if_true,Int.toNat_natCast,ints_2i h hk,ints_2i h' hk,bindO_ok,idx64 (show n<9223372036854775808 by omega) hk,ih (k-1) (by omega) (i+1) (by omega),and_true,Int.natCast_nonneg,true_and,List.cons.injEq,Bool.and_true,show (i+1)*2=i*2+1+1 by omega]
   generalize (intsOf cs).getD (i*2) 0=u1
   generalize (intsOf ds).getD (i*2) 0=u2
   generalize (intsOf cs).getD (i*2+1) 0=u3
   generalize (intsOf ds).getD (i*2+1) 0=u4
   by_cases q1:u1=u2<;>by_cases q2:u3=u4<;>simp [q1,q2]
  ·have h2:(intsOf cs).drop (i*2)=[]:=by rw [List.drop_eq_nil_iff];omega
   have h3:(intsOf ds).drop (i*2)=[]:=by rw [List.drop_eq_nil_iff];omega
   simp only [shut_eq,condO_dec,Int.ofNat_lt,hk,h2,h3,if_false,decide_true]
 ·rw [if_neg hnm]
  have:intsOf cs≠intsOf ds:=fun e=>by rw [e] at hl;omega
  simp only [this,decide_false]
theorem put2a (v w:Int):putCells (zrow (ofV (Go.Value.agg #[Go.Value.int IntKind.i64 (0:Int),Go.Value.int IntKind.i64 (0:Int)])).cells 2) 0 [AV.int IntKind.i64 v,AV.int IntKind.i64 w]=numsL .i64 [v,w]:=rfl
theorem run_34' {n:Nat} {cs:List AV} (h:Prs n cs):(fsM mz2 waysP (n+1) 12).call (List RLeaf) 34 [.ofB (.list n cs)] [] (resK [true])=some [.fz n cs]:=by
 rw [run_34]
 obtain ⟨hn,h⟩:=h
 have hl:=h.len
 have hc:=h.2.2
 refine (loopC_rule (fun k (r:Nat->List AV->Int->Int->Nat->List AV->Nat->List AV->Option (List RLeaf))=>∀ (i:Nat) (x4:Nat) (x5:List AV),i+k=n->r n cs (n:Int) (i:Int) x4 x5 i (numsL .i64 ((intsOf cs).take (i*2)))=some [.fz n (numsL .i64 (intsOf cs))]) ?_ (n+1) n (by omega) 0 _ _ (by omega)).trans (by have:=h.2.1;unfold numsL;rw [←this])
 intro k r ih i x4 x5 hi
 by_cases hk:i<n
 ·have z1:0<cs.length:=by omega
  have z3:i*2+2<=cs.length:=by omega
  have z5:(i+1)*17<=549755813888:=by omega
  simp only [shut_eq,condO_dec,guardO_dec,Int.ofNat_lt,hk,z1,z3,z5,if_true,Int.toNat_natCast,ints_2i h hk,bindO_ok,idx64 (show n<9223372036854775808 by omega) hk,and_true,Int.natCast_nonneg,true_and,put2a,←numsL_app]
  have e:(intsOf cs).take (i*2)++[(intsOf cs).getD (i*2) 0,(intsOf cs).getD (i*2+1) 0]=(intsOf cs).take ((i+1)*2):=by
   rw [show (i+1)*2=i*2+1+1 by omega,List.take_add_one,List.take_add_one,List.append_assoc]
   congr 1
   rw [List.getD_eq_getElem?_getD,List.getD_eq_getElem?_getD,List.getElem?_eq_getElem (by omega),List.getElem?_eq_getElem (by omega)]
   rfl
  rw [e]
  exact ih (k-1) (by omega) (i+1) x4 x5 (by omega)
 ·have:i=n:=by omega
  subst this
  simp only [shut_eq,condO_dec,Int.ofNat_lt,hk,if_false]
  rw [List.take_of_length_le (by omega)]
end Go.Abs
end
