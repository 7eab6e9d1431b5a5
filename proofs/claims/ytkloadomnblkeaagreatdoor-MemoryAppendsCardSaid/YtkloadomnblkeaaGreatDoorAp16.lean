/- Part 16 of the library of the proof: an abstract run of the program. -/
import Derived.Test.YtkloadomnblkeaaGreatDoorAp10
import Derived.Test.YtkloadomnblkeaaGreatDoorAp14
import Derived.Test.YtkloadomnblkeaaGreatDoorAp15
set_option linter.unusedVariables false
set_option linter.unusedSimpArgs false

noncomputable section
namespace Go.Abs
open Go.Proofs Classical
def lvl:Nat->Int->Int->Nat
 | 0,_,_=>0
 | k+1,n,w=>if w<n then lvl k n (2*w)+1 else 0
def levN (a n:Int):Nat:=if n=0 then 0 else lvl 13 n a+1
theorem run_90' {a n:Int} (h1:1<=a) (h2:a<=256) (h3:0<=n) (h4:n<=4096):(fsM mz2 waysP 14 12).call (List RLeaf) 90 [.ofB (.int .i64 a),.ofB (.int .i64 n)] [] (resK [false])=some [.v (.int .i64 (levN a n:Int))]:=by
 rw [run_90]
 simp only [shut_eq,condO_beq,levN]
 by_cases h0:n=0
 ·rw [if_pos h0,if_pos h0];rfl
 rw [if_neg h0,if_neg h0]
 refine (loopC_rule (fun k (r:Int->Int->Int->Option (List RLeaf))=>∀ (c:Nat) (w:Int),1<=w->w*2 ^ k>4096->w<=100000->c+k<=100->r n (c:Int) w=some [.v (.int .i64 ((c+lvl k n w:Nat):Int))]) ?_ 14 13 (by omega) 1 a h1 (by omega) (by omega) (by omega)).trans (by rw [Nat.add_comm])
 intro k r ih c w hw1 hw2 hw3 hc
 simp only [shut_eq,condO_dec]
 cases k with
 | zero=>
  rw [if_neg (by omega)]
  rfl
 | succ k=>
  by_cases hw:w<n
  ·rw [if_pos hw,wrap64 (by omega) (by omega),wrap64 (by omega) (by omega),show ((c:Int)+1)=((c+1:Nat):Int) by omega]
   rw [ih k (by omega) (c+1) (2*w) (by omega) (by rw [Int.pow_succ] at hw2;rw [Int.mul_comm 2 w,Int.mul_assoc,Int.mul_comm 2];exact hw2) (by omega) (by omega)]
   simp only [lvl,if_pos hw]
   rw [show c+1+lvl k n (2*w)=c+(lvl k n (2*w)+1) by omega]
  ·rw [if_neg hw]
   simp only [lvl,if_neg hw,Nat.add_zero]
def endsL (a n l i:Int):Int × Int:=if l<0 then (i,i+1) else (min n (a*2 ^ l.toNat*i),min n (a*2 ^ l.toNat*(i+1)))
theorem ite_min (x y:Int):(if x<y then x else y)=min y x:=by
 rw [Int.min_def];split<;>split<;>omega
theorem run_78' {a n l i:Int} (h1:1<=a) (h2:a<=256) (h3:0<=n) (h4:n<=4096) (h5:l<=13) (h6:0<=i) (h7:i<=4096):
  (fsM mz2 waysP 15 12).call (List RLeaf) 78 [.ofB (.int .i64 a),.ofB (.int .i64 n),.s (.agg [.b (.int .i64 l),.b (.int .i64 i)])] [] (resK [false,false])=some [.v (.int .i64 (endsL a n l i).1),.v (.int .i64 (endsL a n l i).2)]:=by
 rw [run_78]
 simp only [shut_eq,condO_dec,endsL]
 by_cases h0:l<0
 ·rw [if_pos h0,if_pos h0,wrap64 (by omega) (by omega)]
 rw [if_neg h0,if_neg h0]
 obtain ⟨L,rfl⟩:=Int.eq_ofNat_of_zero_le (show 0<=l by omega)
 refine loopC_rule (fun k (r:Int->Int->Int->Int->Int->Option (List RLeaf))=>∀ (c:Nat) (w:Int),c+k=L->w=a*2 ^ c->r n w (c:Int) (L:Int) i=some [.v (.int .i64 (min n (a*2 ^ L*i))),.v (.int .i64 (min n (a*2 ^ L*(i+1))))]) ?_ 15 L (by omega) 0 a (by omega) (by simp)
 intro k r ih c w hc hw
 simp only [shut_eq,condO_dec,Int.ofNat_lt]
 have hp:∀ c:Nat,c<=13->1<=(2:Int) ^ c/\(2:Int) ^ c<=8192:=by
  intro c hc
  have e:(2:Int) ^ c=((2 ^ c:Nat):Int):=by simp
  have:=Nat.pow_le_pow_right (show 0<2 by omega) hc
  have:=Nat.two_pow_pos c
  omega
 have hb:∀ c:Nat,c<=13->1<=a*2 ^ c/\a*2 ^ c<=2097152:=by
  intro c hc
  obtain ⟨p1,p2⟩:=hp c hc
  have:=mul_le_sq (a:=a) (b:=2 ^ c) (m:=8192) (by omega) (by omega) (by omega) (by omega)
  have q1:1*1<=a*2 ^ c:=Int.mul_le_mul h1 p1 (by omega) (by omega)
  have q2:a*2 ^ c<=256*8192:=Int.mul_le_mul h2 p2 (by omega) (by omega)
  omega
 by_cases hk:c<L
 ·have hb':=hb c (by omega)
  rw [if_pos hk,hw,wrap64 (z:=(c:Int)+1) (by omega) (by omega),wrap64 (by omega) (by omega),show ((c:Int)+1)=((c+1:Nat):Int) by omega]
  exact ih (L-(c+1)) (by omega) (c+1) _ (by omega) (by rw [Int.pow_succ];generalize (2:Int) ^ c=z;grind)
 ·have:c=L:=by omega
  subst this
  have hb':=hb c (by omega)
  have m1:0<=w*i/\w*i<=2097152*4096:=⟨Int.mul_nonneg (by omega) h6,Int.mul_le_mul (by omega) h7 h6 (by omega)⟩
  have m2:0<=w*(i+1)/\w*(i+1)<=2097152*4097:=⟨Int.mul_nonneg (by omega) (by omega),Int.mul_le_mul (by omega) (by omega) (by omega) (by omega)⟩
  rw [if_neg hk,wrap64 (z:=i+1) (by omega) (by omega),wrap64 (z:=w*i) (by omega) (by omega),wrap64 (z:=w*(i+1)) (by omega) (by omega),ite_min,ite_min,hw]
theorem run_88' {a b c:Int}:(fsM mz2 waysP 1 12).call (List RLeaf) 88 [.ofB (.int .i64 a),.ofB (.int .i64 b),.ofB (.int .i64 c)] [] (resK [false])=some [.v (.int .i64 (if b<0\/b>a then 3 else if c<0\/c>a then 3 else if c<b then 11 else 0))]:=by
 rw [run_88]
 simp only [shut_eq,guardO_dec,put3n,ints3n,if_true,firstNZ_3,decide_eq_true_eq]
 by_cases h1:b<0\/b>a<;>by_cases h2:c<0\/c>a<;>by_cases h3:c<b<;>simp [h1,h2,h3]
theorem ints_2i {n:Nat} {cs:List AV} (h:Ints (2*n) cs) {i:Nat} (hi:i<n):asInt .i64 (cs.getD (i*2) .top)=some ((intsOf cs).getD (i*2) 0)/\asInt .i64 (cs.getD (i*2+1) .top)=some ((intsOf cs).getD (i*2+1) 0):=
 ⟨h.get (by omega),h.get (by omega)⟩
def Prs (n:Nat) (cs:List AV):Prop:=n<100000000/\Ints (2*n) cs
theorem Prs.plain {n:Nat} {cs:List AV} (h:Prs n cs):∀ c∈cs,PlainC c:=fun c hc=>by
 rw [h.2.2.1] at hc
 exact numsL_plain (k:=.i64) c hc
theorem run_33' {n m:Nat} {cs ds:List AV} (h:Prs n cs) (h':Prs m ds):(fsM mz2 waysP (n+1) 12).call (List RLeaf) 33 [.ofB (.list n cs),.ofB (.list m ds)] [] (resK [false])=some [.v (.bool (decide (intsOf cs=intsOf ds)))]:=by
 rw [run_33]
 obtain ⟨hn,h⟩:=h
 obtain ⟨hm,h'⟩:=h'
 have hl:=h.len
 have hl':=h'.len
 have hc:=h.2.2
 have hc':=h'.2.2
 simp only [shut_eq,condO_bne,Int.ofNat_inj]
 by_cases hnm:n=m
 ·subst hnm
  rw [if_pos rfl]
  refine loopC_rule (fun k (r:Nat->List AV->Nat->List AV->Int->Option (List RLeaf))=>∀ i:Nat,i+k=n->r n cs n ds (i:Int)=some [RLeaf.v (.bool (decide ((intsOf cs).drop (i*2)=(intsOf ds).drop (i*2))))]) ?_ (n+1) n (by omega) 0 (by omega)
  intro k r ih i hi
  by_cases hk:i<n
  ·have z1:0<cs.length:=by omega
   have z2:0<ds.length:=by omega
   have z3:i*2+2<=cs.length:=by omega
   have z4:i*2+2<=ds.length:=by omega
   rw [drop_cons (xs:=intsOf cs) (d:=0) (i:=i*2) (by omega),drop_cons (xs:=intsOf cs) (d:=0) (i:=i*2+1) (by omega),drop_cons (xs:=intsOf ds) (d:=0) (i:=i*2) (by omega),drop_cons (xs:=intsOf ds) (d:=0) (i:=i*2+1) (by omega)]
   simp only [shut_eq,condO_dec,condO_not,guardO_dec,Int.ofNat_lt,hk,z1,z2,z3,z4,if_true,Int.toNat_natCast,ints_2i h hk,ints_2i h' hk,bindO_ok,idx64 (show n<9223372036854775808 by omega) hk,ih (k-1) (by omega) (i+1) (by omega),and_true,Int.natCast_nonneg,true_and,List.cons.injEq,Bool.and_true,show (i+1)*2=i*2+1+1 by omega]
   generalize (intsOf cs).getD (i*2) 0=u1
   generalize (intsOf ds).getD (i*2) 0=u2
   generalize (intsOf cs).getD (i*2+1) 0=u3
   generalize (intsOf ds).getD (i*2+1) 0=u4
   by_cases q1:u1=u2<;>by_cases q2:u3=u4<;>simp [q1,q2]
  ·have h2:(intsOf cs).drop (i*2)=[]:=by rw [List.drop_eq_nil_iff];omega
   have h3:(intsOf ds).drop (i*2)=[]:=by rw [List.drop_eq_nil_iff];omega
   simp only [shut_eq,condO_dec,Int.ofNat_lt,hk,h2,h3,if_false,decide_true]
 ·rw [if_neg hnm]
  have:intsOf cs≠intsOf ds:=fun e=>by rw [e] at hl;omega
  simp only [this,decide_false]
theorem put2a (v w:Int):putCells (zrow (ofV (Go.Value.agg #[Go.Value.int IntKind.i64 (0:Int),Go.Value.int IntKind.i64 (0:Int)])).cells 2) 0 [AV.int IntKind.i64 v,AV.int IntKind.i64 w]=numsL .i64 [v,w]:=rfl
theorem run_34' {n:Nat} {cs:List AV} (h:Prs n cs):(fsM mz2 waysP (n+1) 12).call (List RLeaf) 34 [.ofB (.list n cs)] [] (resK [true])=some [.fz n cs]:=by
 rw [run_34]
 obtain ⟨hn,h⟩:=h
 have hl:=h.len
 have hc:=h.2.2
 refine (loopC_rule (fun k (r:Nat->List AV->Int->Int->Nat->List AV->Nat->List AV->Option (List RLeaf))=>∀ (i:Nat) (x4:Nat) (x5:List AV),i+k=n->r n cs (n:Int) (i:Int) x4 x5 i (numsL .i64 ((intsOf cs).take (i*2)))=some [.fz n (numsL .i64 (intsOf cs))]) ?_ (n+1) n (by omega) 0 _ _ (by omega)).trans (by have:=h.2.1;unfold numsL;rw [←this])
 intro k r ih i x4 x5 hi
 by_cases hk:i<n
 ·have z1:0<cs.length:=by omega
  have z3:i*2+2<=cs.length:=by omega
  have z5:(i+1)*17<=549755813888:=by omega
  simp only [shut_eq,condO_dec,guardO_dec,Int.ofNat_lt,hk,z1,z3,z5,if_true,Int.toNat_natCast,ints_2i h hk,bindO_ok,idx64 (show n<9223372036854775808 by omega) hk,and_true,Int.natCast_nonneg,true_and,put2a,←numsL_app]
  have e:(intsOf cs).take (i*2)++[(intsOf cs).getD (i*2) 0,(intsOf cs).getD (i*2+1) 0]=(intsOf cs).take ((i+1)*2):=by
   rw [show (i+1)*2=i*2+1+1 by omega,List.take_add_one,List.take_add_one,List.append_assoc]
   congr 1
   rw [List.getD_eq_getElem?_getD,List.getD_eq_getElem?_getD,List.getElem?_eq_getElem (by omega),List.getElem?_eq_getElem (by omega)]
   rfl
  rw [e]
  exact ih (k-1) (by omega) (i+1) x4 x5 (by omega)
 ·have:i=n:=by omega
  subst this
  simp only [shut_eq,condO_dec,Int.ofNat_lt,hk,if_false]
  rw [List.take_of_length_le (by omega)]
end Go.Abs
end
noncomputable section
namespace Go.Abs
open Go.Proofs Classical
def eLevN:Ent:=fun args' R K=>match args' with
 | [.int .i64 a,.int .i64 n]=>gO (S_ (decide (1<=a/\a<=256/\0<=n/\n<=4096))) (K [.v (.int .i64 (S_ ((levN a n:Int))))])
 | _=>none
theorem eLevN_90:EntOk Tryz.prog 90 eLevN:=by
 intro args' R K r ha h
 unfold eLevN at h
 split at h
 ·rename_i a n
  obtain ⟨h1,h2⟩:=guardO_some h
  rw [shut_eq] at h1
  have h1':=of_decide_eq_true h1
  refine ⟨[.v (.int .i64 ((levN a n:Int)))],fun _ _=>by simp only [eLevN,shut_eq,decide_eq_true h1',gO],?_,con_of mz2_ok (W:=waysP) (N:=14) (k:=12) (ms:=[false]) ?_ ha trivial⟩
  ·intro l hl;rcases List.mem_cons.1 hl with rfl | hl
   ·exact leaf_int
   cases hl
  ·exact run_90' h1'.1 h1'.2.1 h1'.2.2.1 h1'.2.2.2
 ·cases h
def eEnds:Ent:=fun args' R K=>match args' with
 | [.int .i64 a,.int .i64 n,.agg [.int .i64 l,.int .i64 i]]=>gO (S_ (decide (1<=a/\a<=256/\0<=n/\n<=4096/\l<=13/\0<=i/\i<=4096))) (K [.v (.int .i64 (S_ ((endsL a n l i).1))),.v (.int .i64 (S_ ((endsL a n l i).2)))])
 | _=>none
theorem eEnds_78:EntOk Tryz.prog 78 eEnds:=by
 intro args' R K r ha h
 unfold eEnds at h
 split at h
 ·rename_i a n l i
  obtain ⟨h1,h2⟩:=guardO_some h
  rw [shut_eq] at h1
  have h1':=of_decide_eq_true h1
  refine ⟨[.v (.int .i64 ((endsL a n l i).1)),.v (.int .i64 ((endsL a n l i).2))],fun _ _=>by simp only [eEnds,shut_eq,decide_eq_true h1',gO],?_,con_of mz2_ok (W:=waysP) (N:=15) (k:=12) (ms:=[false,false]) ?_ ha trivial⟩
  ·intro l hl;rcases List.mem_cons.1 hl with rfl | hl
   ·exact leaf_int
   rcases List.mem_cons.1 hl with rfl | hl
   ·exact leaf_int
   cases hl
  ·exact run_78' h1'.1 h1'.2.1 h1'.2.2.1 h1'.2.2.2.1 h1'.2.2.2.2.1 h1'.2.2.2.2.2.1 h1'.2.2.2.2.2.2
 ·cases h
def eSameN:Ent:=fun args' R K=>match args' with
 | [.list n cs,.list m ds]=>gO (S_ (decide (Prs n cs/\Prs m ds))) (K [.v (.bool (S_ (decide (intsOf cs=intsOf ds))))])
 | _=>none
theorem eSameN_33:EntOk Tryz.prog 33 eSameN:=by
 intro args' R K r ha h
 unfold eSameN at h
 split at h
 ·rename_i n cs m ds
  obtain ⟨h1,h2⟩:=guardO_some h
  rw [shut_eq] at h1
  have h1':=of_decide_eq_true h1
  refine ⟨[.v (.bool (decide (intsOf cs=intsOf ds)))],fun _ _=>by simp only [eSameN,shut_eq,decide_eq_true h1',gO],?_,con_of mz2_ok (W:=waysP) (N:=n+1) (k:=12) (ms:=[false]) ?_ ha trivial⟩
  ·intro l hl;rcases List.mem_cons.1 hl with rfl | hl
   ·exact leaf_bool
   cases hl
  ·exact run_33' h1'.1 h1'.2
 ·cases h
def eNodes:Ent:=fun args' R K=>match args' with
 | [.list n cs]=>gO (S_ (decide (Prs n cs))) (K [.fz (S_ (n)) (S_ (cs))])
 | _=>none
theorem eNodes_34:EntOk Tryz.prog 34 eNodes:=by
 intro args' R K r ha h
 unfold eNodes at h
 split at h
 ·rename_i n cs
  obtain ⟨h1,h2⟩:=guardO_some h
  rw [shut_eq] at h1
  have h1':=of_decide_eq_true h1
  refine ⟨[.fz (n) (cs)],fun _ _=>by simp only [eNodes,shut_eq,decide_eq_true h1',gO],?_,con_of mz2_ok (W:=waysP) (N:=n+1) (k:=12) (ms:=[true]) ?_ ha ⟨h1'.plain,trivial⟩⟩
  ·intro l hl;rcases List.mem_cons.1 hl with rfl | hl
   ·exact (leaf_fz (h1'.plain))
   cases hl
  ·exact run_34' h1'
 ·cases h
def eChk:Ent:=fun args' R K=>match args' with
 | [.int .i64 a,.int .i64 b,.int .i64 c]=>K [.v (.int .i64 (S_ (if b<0\/b>a then 3 else if c<0\/c>a then 3 else if c<b then 11 else 0)))]
 | _=>none
theorem eChk_88:EntOk Tryz.prog 88 eChk:=by
 intro args' R K r ha h
 unfold eChk at h
 split at h
 ·rename_i a b c
  refine ⟨[.v (.int .i64 (if b<0\/b>a then 3 else if c<0\/c>a then 3 else if c<b then 11 else 0))],fun _ _=>by simp only [eChk,shut_eq],?_,con_of mz2_ok (W:=waysP) (N:=1) (k:=12) (ms:=[false]) ?_ ha trivial⟩
  ·intro l hl;rcases List.mem_cons.1 hl with rfl | hl
   ·exact leaf_int
   cases hl
  ·exact run_88'
 ·cases h
def mzC:List (FuncId × Ent):=(90,eLevN)::(78,eEnds)::(33,eSameN)::(34,eNodes)::(88,eChk)::mz2
theorem mzC_ok:TabLOk Tryz.prog mzC:=⟨eLevN_90,eEnds_78,eSameN_33,eNodes_34,eChk_88,mz2_ok⟩
end Go.Abs
end
noncomputable section
namespace Go.Abs.Fin
open Classical
theorem sub_self_num {b:Nat} {s:Bool} {m:Nat} {i:Int} (h:Go.FloatKind.f32.format.read b=.number s m i):arithO .sub .f32 (some b) (some b)=some 0:=by
 simp only [arithO,arithF,Ieee.Format.sub,h,Ieee.Datum.opposite,Ieee.Datum.sum,Option.map_some]
 have e:Ieee.signed s m (i-min i i).toNat+Ieee.signed (!s) m (i-min i i).toNat=0:=by
  cases s<;>simp [Ieee.signed]<;>omega
 rw [e]
 simp only [if_true,Int.natAbs_zero,Ieee.Format.write,Ieee.Format.nearest]
 cases s<;>rfl
theorem fin_number {b:Nat} {s:Bool} {m:Nat} {i:Int} (h:Go.FloatKind.f32.format.read b=.number s m i):finB (some b)=true:=by
 unfold finB
 rw [sub_self_num h]
 decide +kernel
theorem fin_of {o:Option Nat} (h:finB o=true):∃ b s m i,o=some b/\Go.FloatKind.f32.format.read b=.number s m i:=by
 cases o with
 | none=>exact absurd h (by decide)
 | some b=>
  cases hd:Go.FloatKind.f32.format.read b with
  | number s m i=>exact ⟨b,s,m,i,rfl,hd⟩
  | infinity s=>
   exfalso
   have:arithO .sub .f32 (some b) (some b)=none:=by
    simp only [arithO,arithF,Ieee.Format.sub,hd,Ieee.Datum.opposite,Ieee.Datum.sum]
    cases s<;>rfl
   unfold finB at h
   rw [this] at h
   exact absurd h (by decide)
  | nan s t=>
   exfalso
   have:arithO .sub .f32 (some b) (some b)=none:=by
    simp only [arithO,arithF,Ieee.Format.sub,hd,Ieee.Datum.opposite,Ieee.Datum.sum,Option.map_none]
   unfold finB at h
   rw [this] at h
   exact absurd h (by decide)
theorem finB_of_zero {o:Option Nat} (h:ordO .f32 o (some 0)=some .eq):finB o=true:=by
 cases o with
 | none=>cases h
 | some b=>
  cases hd:Go.FloatKind.f32.format.read b with
  | number s m i=>exact fin_number hd
  | infinity s=>
   simp only [ordO,Ieee.Format.order,hd] at h
   have:Go.FloatKind.f32.format.read 0=.number false 0 Go.FloatKind.f32.format.leastPlace:=by decide +kernel
   rw [this] at h
   cases s<;>simp [Ieee.Datum.order] at h
  | nan s t=>simp only [ordO,Ieee.Format.order,hd,Ieee.Datum.order] at h;cases h
theorem zero_ord:ordO .f32 (some 0) (some 0)=some .eq:=by decide +kernel
end Go.Abs.Fin
end
noncomputable section
namespace Go.Abs.Fin
open Classical
def fkey (o:Option Nat):Int:=
 match o with
 | some b=>match Go.FloatKind.f32.format.read b with
  | .number s m i=>Ieee.signed s m (i+149).toNat
  | _=>0
 | none=>0
theorem place_ge {b:Nat} {s:Bool} {m:Nat} {i:Int} (h:Go.FloatKind.f32.format.read b=.number s m i):-149<=i:=by
 have hl:Go.FloatKind.f32.format.leastPlace=-149:=by decide +kernel
 unfold Ieee.Format.read at h
 simp only at h
 split at h
 ·simp only [Ieee.Datum.number.injEq] at h;omega
 ·split at h
  ·simp only [Ieee.Datum.number.injEq] at h;omega
  ·split at h<;>cases h
theorem signed_add (s:Bool) (m a b:Nat):Ieee.signed s m (a+b)=Ieee.signed s m a*(2 ^ b:Nat):=by
 have e:m <<< (a+b)=(m <<< a)*2 ^ b:=by rw [Nat.shiftLeft_eq,Nat.shiftLeft_eq,Nat.pow_add,Nat.mul_assoc]
 unfold Ieee.signed
 cases s<;>simp only [e,if_true,if_false,Bool.false_eq_true]<;>push_cast<;>simp [Int.neg_mul]
theorem cmp_mul (x y:Int) {c:Nat} (hc:0<c):compare (x*(c:Int)) (y*(c:Int))=compare x y:=by
 have hc':(0:Int)<(c:Int):=by omega
 rcases Int.lt_trichotomy x y with h | h | h
 ·rw [Int.compare_eq_lt.2 h,Int.compare_eq_lt.2 (Int.mul_lt_mul_of_pos_right h hc')]
 ·subst h;simp
 ·rw [Int.compare_eq_gt.2 h,Int.compare_eq_gt.2 (Int.mul_lt_mul_of_pos_right h hc')]
theorem ord_key {a b:Option Nat} (ha:finB a=true) (hb:finB b=true):ordO .f32 a b=some (compare (fkey a) (fkey b)):=by
 obtain ⟨x,s,m,i,rfl,hx⟩:=fin_of ha
 obtain ⟨y,t,n,j,rfl,hy⟩:=fin_of hb
 have hi:=place_ge hx
 have hj:=place_ge hy
 simp only [ordO,Ieee.Format.order,hx,hy,Ieee.Datum.order,fkey]
 congr 1
 have e1:(i+149).toNat=(i-min i j).toNat+(min i j+149).toNat:=by omega
 have e2:(j+149).toNat=(j-min i j).toNat+(min i j+149).toNat:=by omega
 rw [e1,e2,signed_add,signed_add,cmp_mul _ _ (Nat.two_pow_pos _)]
section
variable {a b : Option Nat} (ha : finB a = true) (hb : finB b = true)
include ha hb
theorem ord_lt:ordO .f32 a b=some .lt↔fkey a<fkey b:=by
 rw [ord_key ha hb,Option.some.injEq];exact Int.compare_eq_lt
theorem ord_gt:ordO .f32 a b=some .gt↔fkey b<fkey a:=by
 rw [ord_key ha hb,Option.some.injEq];exact Int.compare_eq_gt
theorem ord_eq:ordO .f32 a b=some .eq↔fkey a=fkey b:=by
 rw [ord_key ha hb,Option.some.injEq];exact Int.compare_eq_eq
theorem beqk:(ordO .f32 a b==some .eq)=decide (fkey a=fkey b):=by
 by_cases h:fkey a=fkey b
 ·rw [decide_eq_true h,(ord_eq ha hb).2 h];rfl
 ·rw [decide_eq_false h];exact beq_eq_false_iff_ne.2 fun e=>h ((ord_eq ha hb).1 e)
end
theorem fin_zero:finB (some 0)=true:=finB_of_zero zero_ord
theorem key_clean {a:Option Nat} (ha:finB a=true):fkey (clean1 a)=fkey a:=by
 unfold clean1
 split
 ·rename_i h
  rw [(ord_eq ha fin_zero).1 h]
 ·rfl
end Go.Abs.Fin
end
