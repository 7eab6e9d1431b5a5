/- Part 14 of the library of the proof: an abstract run of the program. -/
import Derived.Test.YtkloadomnblkeaaGreatDoorHt8
import Derived.Test.YtkloadomnblkeaaGreatDoorHt12
import Derived.Test.YtkloadomnblkeaaGreatDoorHt13
set_option linter.unusedVariables false
set_option linter.unusedSimpArgs false

noncomputable section
namespace Go.Abs
open Go.Proofs Classical
def lvl:Nat->Int->Int->Nat
 | 0,_,_=>0
 | k+1,n,w=>if w<n then lvl k n (2*w)+1 else 0
def T4 (a n:Int):Nat:=if n=0 then 0 else lvl 13 n a+1
theorem T5 {a n:Int} (h1:1<=a) (h2:a<=256) (h3:0<=n) (h4:n<=4096):(dA OI aK 14 12).call (List aa) 90 [.aT (.int .i64 a),.aT (.int .i64 n)] [] (bp [false])=some [.v (.int .i64 (T4 a n:Int))]:=by
 rw [XG]
 simp only [ab,jN,T4]
 by_cases h0:n=0
 ·rw [if_pos h0,if_pos h0];rfl
 rw [if_neg h0,if_neg h0]
 refine (au (fun k (r:Int->Int->Int->Option (List aa))=>∀ (c:Nat) (w:Int),1<=w->w*2 ^ k>4096->w<=100000->c+k<=100->r n (c:Int) w=some [.v (.int .i64 ((c+lvl k n w:Nat):Int))]) ?_ 14 13 (by omega) 1 a h1 (by omega) (by omega) (by omega)).trans (by rw [Nat.add_comm])
 intro k r ih c w hw1 hw2 hw3 hc
 simp only [ab,ae]
 cases k with
 | zero=>
  rw [if_neg (by omega)]
  rfl
 | succ k=>
  by_cases hw:w<n
  ·rw [if_pos hw,wrap64 (by omega) (by omega),wrap64 (by omega) (by omega),show ((c:Int)+1)=((c+1:Nat):Int) by omega]
   rw [ih k (by omega) (c+1) (2*w) (by omega) (by rw [Int.pow_succ] at hw2;rw [Int.mul_comm 2 w,Int.mul_assoc,Int.mul_comm 2];exact hw2) (by omega) (by omega)]
   simp only [lvl,if_pos hw]
   rw [show c+1+lvl k n (2*w)=c+(lvl k n (2*w)+1) by omega]
  ·rw [if_neg hw]
   simp only [lvl,if_neg hw,Nat.add_zero]
def nO (a n l i:Int):Int × Int:=if l<0 then (i,i+1) else (min n (a*2 ^ l.toNat*i),min n (a*2 ^ l.toNat*(i+1)))
theorem qb (x y:Int):(if x<y then x else y)=min y x:=by
 rw [Int.min_def];split<;>split<;>omega
theorem T6 {a n l i:Int} (h1:1<=a) (h2:a<=256) (h3:0<=n) (h4:n<=4096) (h5:l<=13) (h6:0<=i) (h7:i<=4096):
  (dA OI aK 15 12).call (List aa) 78 [.aT (.int .i64 a),.aT (.int .i64 n),.s (.agg [.b (.int .i64 l),.b (.int .i64 i)])] [] (bp [false,false])=some [.v (.int .i64 (nO a n l i).1),.v (.int .i64 (nO a n l i).2)]:=by
 rw [XH]
 simp only [ab,ae,nO]
 by_cases h0:l<0
 ·rw [if_pos h0,if_pos h0,wrap64 (by omega) (by omega)]
 rw [if_neg h0,if_neg h0]
 obtain ⟨L,rfl⟩:=Int.eq_ofNat_of_zero_le (show 0<=l by omega)
 refine au (fun k (r:Int->Int->Int->Int->Int->Option (List aa))=>∀ (c:Nat) (w:Int),c+k=L->w=a*2 ^ c->r n w (c:Int) (L:Int) i=some [.v (.int .i64 (min n (a*2 ^ L*i))),.v (.int .i64 (min n (a*2 ^ L*(i+1))))]) ?_ 15 L (by omega) 0 a (by omega) (by simp)
 intro k r ih c w hc hw
 simp only [ab,ae,Int.ofNat_lt]
 have hp:∀ c:Nat,c<=13->1<=(2:Int) ^ c/\(2:Int) ^ c<=8192:=by
  intro c hc
  have e:(2:Int) ^ c=((2 ^ c:Nat):Int):=by simp
  have:=Nat.pow_le_pow_right (show 0<2 by omega) hc
  have:=Nat.two_pow_pos c
  omega
 have hb:∀ c:Nat,c<=13->1<=a*2 ^ c/\a*2 ^ c<=2097152:=by
  intro c hc
  obtain ⟨p1,p2⟩:=hp c hc
  have:=M5 (a:=a) (b:=2 ^ c) (m:=8192) (by omega) (by omega) (by omega) (by omega)
  have q1:1*1<=a*2 ^ c:=Int.mul_le_mul h1 p1 (by omega) (by omega)
  have q2:a*2 ^ c<=256*8192:=Int.mul_le_mul h2 p2 (by omega) (by omega)
  omega
 by_cases hk:c<L
 ·have DJ:=hb c (by omega)
  rw [if_pos hk,hw,wrap64 (z:=(c:Int)+1) (by omega) (by omega),wrap64 (by omega) (by omega),show ((c:Int)+1)=((c+1:Nat):Int) by omega]
  exact ih (L-(c+1)) (by omega) (c+1) _ (by omega) (by rw [Int.pow_succ];generalize (2:Int) ^ c=z;grind)
 ·have:c=L:=by omega
  subst this
  have DJ:=hb c (by omega)
  have m1:0<=w*i/\w*i<=2097152*4096:=⟨Int.mul_nonneg (by omega) h6,Int.mul_le_mul (by omega) h7 h6 (by omega)⟩
  have m2:0<=w*(i+1)/\w*(i+1)<=2097152*4097:=⟨Int.mul_nonneg (by omega) (by omega),Int.mul_le_mul (by omega) (by omega) (by omega) (by omega)⟩
  rw [if_neg hk,wrap64 (z:=i+1) (by omega) (by omega),wrap64 (z:=w*i) (by omega) (by omega),wrap64 (z:=w*(i+1)) (by omega) (by omega),qb,qb,hw]
theorem T7 {a b c:Int}:(dA OI aK 1 12).call (List aa) 88 [.aT (.int .i64 a),.aT (.int .i64 b),.aT (.int .i64 c)] [] (bp [false])=some [.v (.int .i64 (if b<0\/b>a then 3 else if c<0\/c>a then 3 else if c<b then 11 else 0))]:=by
 rw [XI]
 simp only [ab,aj,Ln,Eg,if_true,qa,decide_eq_true_eq]
 by_cases h1:b<0\/b>a<;>by_cases h2:c<0\/c>a<;>by_cases h3:c<b<;>simp [h1,h2,h3]
theorem Eh {n:Nat} {cs:List AV} (h:jD (2*n) cs) {i:Nat} (hi:i<n):asInt .i64 (cs.getD (i*2) .top)=some ((aB cs).getD (i*2) 0)/\asInt .i64 (cs.getD (i*2+1) .top)=some ((aB cs).getD (i*2+1) 0):=
 ⟨h.get (by omega),h.get (by omega)⟩
def V0 (n:Nat) (cs:List AV):Prop:=n<100000000/\jD (2*n) cs
theorem V0.plain {n:Nat} {cs:List AV} (h:V0 n cs):∀ c∈cs,eY c:=fun c hc=>by
 rw [h.2.2.1] at hc
 exact oJ (k:=.i64) c hc
theorem T8 {n m:Nat} {cs ds:List AV} (h:V0 n cs) (h':V0 m ds):(dA OI aK (n+1) 12).call (List aa) 33 [.aT (.list n cs),.aT (.list m ds)] [] (bp [false])=some [.v (.bool (decide (aB cs=aB ds)))]:=by
 rw [XJ]
 obtain ⟨hn,h⟩:=h
 obtain ⟨hm,h'⟩:=h'
 have hl:=h.len
 have nJ:=h'.len
 have hc:=h.2.2
 have KZ:=h'.2.2
 simp only [ab,cr,Int.ofNat_inj]
 by_cases SH:n=m
 ·subst SH
  rw [if_pos rfl]
  refine au (fun k (r:Nat->List AV->Nat->List AV->Int->Option (List aa))=>∀ i:Nat,i+k=n->r n cs n ds (i:Int)=some [aa.v (.bool (decide ((aB cs).drop (i*2)=(aB ds).drop (i*2))))]) ?_ (n+1) n (by omega) 0 (by omega)
  intro k r ih i hi
  by_cases hk:i<n
  ·have z1:0<cs.length:=by omega
   have z2:0<ds.length:=by omega
   have z3:i*2+2<=cs.length:=by omega
   have z4:i*2+2<=ds.length:=by omega
   rw [drop_cons (xs:=aB cs) (d:=0) (i:=i*2) (by omega),drop_cons (xs:=aB cs) (d:=0) (i:=i*2+1) (by omega),drop_cons (xs:=aB ds) (d:=0) (i:=i*2) (by omega),drop_cons (xs:=aB ds) (d:=0) (i:=i*2+1) (by omega)]
   simp only [ab,ae,fN,aj,Int.ofNat_lt,hk,z1,z2,z3,z4,if_true,Int.toNat_natCast,Eh h hk,Eh h' hk,ak,lF (show n<9223372036854775808 by omega) hk,ih (k-1) (by omega) (i+1) (by omega),and_true,Int.natCast_nonneg,true_and,List.cons.injEq,Bool.and_true,show (i+1)*2=i*2+1+1 by omega]
   generalize (aB cs).getD (i*2) 0=u1
   generalize (aB ds).getD (i*2) 0=u2
   generalize (aB cs).getD (i*2+1) 0=u3
   generalize (aB ds).getD (i*2+1) 0=u4
   by_cases q1:u1=u2<;>by_cases q2:u3=u4<;>simp [q1,q2]
  ·have h2:(aB cs).drop (i*2)=[]:=by rw [List.drop_eq_nil_iff];omega
   have h3:(aB ds).drop (i*2)=[]:=by rw [List.drop_eq_nil_iff];omega
   simp only [ab,ae,Int.ofNat_lt,hk,h2,h3,if_false,decide_true]
 ·rw [if_neg SH]
  have:aB cs≠aB ds:=fun e=>by rw [e] at hl;omega
  simp only [this,decide_false]
theorem ab0 (v w:Int):ag (aX (cM (Go.Value.agg #[Go.Value.int IntKind.i64 (0:Int),Go.Value.int IntKind.i64 (0:Int)])).cells 2) 0 [AV.int IntKind.i64 v,AV.int IntKind.i64 w]=cF .i64 [v,w]:=rfl
theorem T9 {n:Nat} {cs:List AV} (h:V0 n cs):(dA OI aK (n+1) 12).call (List aa) 34 [.aT (.list n cs)] [] (bp [true])=some [.fz n cs]:=by
 rw [XK]
 obtain ⟨hn,h⟩:=h
 have hl:=h.len
 have hc:=h.2.2
 refine (au (fun k (r:Nat->List AV->Int->Int->Nat->List AV->Nat->List AV->Option (List aa))=>∀ (i:Nat) (x4:Nat) (x5:List AV),i+k=n->r n cs (n:Int) (i:Int) x4 x5 i (cF .i64 ((aB cs).take (i*2)))=some [.fz n (cF .i64 (aB cs))]) ?_ (n+1) n (by omega) 0 _ _ (by omega)).trans (by have:=h.2.1;unfold cF;rw [←this])
 intro k r ih i x4 x5 hi
 by_cases hk:i<n
 ·have z1:0<cs.length:=by omega
  have z3:i*2+2<=cs.length:=by omega
  have z5:(i+1)*17<=549755813888:=by omega
  simp only [ab,ae,aj,Int.ofNat_lt,hk,z1,z3,z5,if_true,Int.toNat_natCast,Eh h hk,ak,lF (show n<9223372036854775808 by omega) hk,and_true,Int.natCast_nonneg,true_and,ab0,←M4]
  have e:(aB cs).take (i*2)++[(aB cs).getD (i*2) 0,(aB cs).getD (i*2+1) 0]=(aB cs).take ((i+1)*2):=by
   rw [show (i+1)*2=i*2+1+1 by omega,List.take_add_one,List.take_add_one,List.append_assoc]
   congr 1
   rw [List.getD_eq_getElem?_getD,List.getD_eq_getElem?_getD,List.getElem?_eq_getElem (by omega),List.getElem?_eq_getElem (by omega)]
   rfl
  rw [e]
  exact ih (k-1) (by omega) (i+1) x4 x5 (by omega)
 ·have:i=n:=by omega
  subst this
  simp only [ab,ae,Int.ofNat_lt,hk,if_false]
  rw [List.take_of_length_le (by omega)]
end Go.Abs
end
noncomputable section
namespace Go.Abs
open Go.Proofs Classical
def LB:fr:=fun ai R K=>match ai with
 | [.int .i64 a,.int .i64 n]=>gO (S_ (decide (1<=a/\a<=256/\0<=n/\n<=4096))) (K [.v (.int .i64 (S_ ((T4 a n:Int))))])
 | _=>none
theorem Q8:bG Tryz.prog 90 LB:=by
 intro ai R K r ha h
 unfold LB at h
 split at h
 ·rename_i a n
  obtain ⟨h1,h2⟩:=aD h
  rw [ab] at h1
  have bM:=of_decide_eq_true h1
  refine ⟨[.v (.int .i64 ((T4 a n:Int)))],fun _ _=>by simp only [LB,ab,decide_eq_true bM,gO],?_,bf u_ (W:=aK) (N:=14) (k:=12) (ms:=[false]) ?_ ha trivial⟩
  ·intro l hl;rcases List.mem_cons.1 hl with rfl | hl
   ·exact bh
   cases hl
  ·exact T5 bM.1 bM.2.1 bM.2.2.1 bM.2.2.2
 ·cases h
def LC:fr:=fun ai R K=>match ai with
 | [.int .i64 a,.int .i64 n,.agg [.int .i64 l,.int .i64 i]]=>gO (S_ (decide (1<=a/\a<=256/\0<=n/\n<=4096/\l<=13/\0<=i/\i<=4096))) (K [.v (.int .i64 (S_ ((nO a n l i).1))),.v (.int .i64 (S_ ((nO a n l i).2)))])
 | _=>none
theorem Q9:bG Tryz.prog 78 LC:=by
 intro ai R K r ha h
 unfold LC at h
 split at h
 ·rename_i a n l i
  obtain ⟨h1,h2⟩:=aD h
  rw [ab] at h1
  have bM:=of_decide_eq_true h1
  refine ⟨[.v (.int .i64 ((nO a n l i).1)),.v (.int .i64 ((nO a n l i).2))],fun _ _=>by simp only [LC,ab,decide_eq_true bM,gO],?_,bf u_ (W:=aK) (N:=15) (k:=12) (ms:=[false,false]) ?_ ha trivial⟩
  ·intro l hl;rcases List.mem_cons.1 hl with rfl | hl
   ·exact bh
   rcases List.mem_cons.1 hl with rfl | hl
   ·exact bh
   cases hl
  ·exact T6 bM.1 bM.2.1 bM.2.2.1 bM.2.2.2.1 bM.2.2.2.2.1 bM.2.2.2.2.2.1 bM.2.2.2.2.2.2
 ·cases h
def EH:fr:=fun ai R K=>match ai with
 | [.list n cs,.list m ds]=>gO (S_ (decide (V0 n cs/\V0 m ds))) (K [.v (.bool (S_ (decide (aB cs=aB ds))))])
 | _=>none
theorem NH:bG Tryz.prog 33 EH:=by
 intro ai R K r ha h
 unfold EH at h
 split at h
 ·rename_i n cs m ds
  obtain ⟨h1,h2⟩:=aD h
  rw [ab] at h1
  have bM:=of_decide_eq_true h1
  refine ⟨[.v (.bool (decide (aB cs=aB ds)))],fun _ _=>by simp only [EH,ab,decide_eq_true bM,gO],?_,bf u_ (W:=aK) (N:=n+1) (k:=12) (ms:=[false]) ?_ ha trivial⟩
  ·intro l hl;rcases List.mem_cons.1 hl with rfl | hl
   ·exact dz
   cases hl
  ·exact T8 bM.1 bM.2
 ·cases h
def EI:fr:=fun ai R K=>match ai with
 | [.list n cs]=>gO (S_ (decide (V0 n cs))) (K [.fz (S_ (n)) (S_ (cs))])
 | _=>none
theorem NI:bG Tryz.prog 34 EI:=by
 intro ai R K r ha h
 unfold EI at h
 split at h
 ·rename_i n cs
  obtain ⟨h1,h2⟩:=aD h
  rw [ab] at h1
  have bM:=of_decide_eq_true h1
  refine ⟨[.fz (n) (cs)],fun _ _=>by simp only [EI,ab,decide_eq_true bM,gO],?_,bf u_ (W:=aK) (N:=n+1) (k:=12) (ms:=[true]) ?_ ha ⟨bM.plain,trivial⟩⟩
  ·intro l hl;rcases List.mem_cons.1 hl with rfl | hl
   ·exact (pZ (bM.plain))
   cases hl
  ·exact T9 bM
 ·cases h
def UQ:fr:=fun ai R K=>match ai with
 | [.int .i64 a,.int .i64 b,.int .i64 c]=>K [.v (.int .i64 (S_ (if b<0\/b>a then 3 else if c<0\/c>a then 3 else if c<b then 11 else 0)))]
 | _=>none
theorem UR:bG Tryz.prog 88 UQ:=by
 intro ai R K r ha h
 unfold UQ at h
 split at h
 ·rename_i a b c
  refine ⟨[.v (.int .i64 (if b<0\/b>a then 3 else if c<0\/c>a then 3 else if c<b then 11 else 0))],fun _ _=>by simp only [UQ,ab],?_,bf u_ (W:=aK) (N:=1) (k:=12) (ms:=[false]) ?_ ha trivial⟩
  ·intro l hl;rcases List.mem_cons.1 hl with rfl | hl
   ·exact bh
   cases hl
  ·exact T7
 ·cases h
def FE:List (FuncId × fr):=(90,LB)::(78,LC)::(33,EH)::(34,EI)::(88,UQ)::OI
theorem oQ:eZ Tryz.prog FE:=⟨Q8,Q9,NH,NI,UR,u_⟩
end Go.Abs
end
noncomputable section
namespace Go.Abs.Fin
open Classical
theorem D4 {b:Nat} {s:Bool} {m:Nat} {i:Int} (h:Go.FloatKind.f32.format.read b=.number s m i):fj .sub .f32 (some b) (some b)=some 0:=by
 simp only [fj,u5,Ieee.Format.sub,h,Ieee.Datum.opposite,Ieee.Datum.sum,Option.map_some]
 have e:Ieee.signed s m (i-min i i).toNat+Ieee.signed (!s) m (i-min i i).toNat=0:=by
  cases s<;>simp [Ieee.signed]<;>omega
 rw [e]
 simp only [if_true,Int.natAbs_zero,Ieee.Format.write,Ieee.Format.nearest]
 cases s<;>rfl
theorem Jd {b:Nat} {s:Bool} {m:Nat} {i:Int} (h:Go.FloatKind.f32.format.read b=.number s m i):aJ (some b)=true:=by
 unfold aJ
 rw [D4 h]
 decide +kernel
theorem u6 {o:Option Nat} (h:aJ o=true):∃ b s m i,o=some b/\Go.FloatKind.f32.format.read b=.number s m i:=by
 cases o with
 | none=>exact absurd h (by decide)
 | some b=>
  cases hd:Go.FloatKind.f32.format.read b with
  | number s m i=>exact ⟨b,s,m,i,rfl,hd⟩
  | infinity s=>
   exfalso
   have:fj .sub .f32 (some b) (some b)=none:=by
    simp only [fj,u5,Ieee.Format.sub,hd,Ieee.Datum.opposite,Ieee.Datum.sum]
    cases s<;>rfl
   unfold aJ at h
   rw [this] at h
   exact absurd h (by decide)
  | nan s t=>
   exfalso
   have:fj .sub .f32 (some b) (some b)=none:=by
    simp only [fj,u5,Ieee.Format.sub,hd,Ieee.Datum.opposite,Ieee.Datum.sum,Option.map_none]
   unfold aJ at h
   rw [this] at h
   exact absurd h (by decide)
theorem D5 {o:Option Nat} (h:aM .f32 o (some 0)=some .eq):aJ o=true:=by
 cases o with
 | none=>cases h
 | some b=>
  cases hd:Go.FloatKind.f32.format.read b with
  | number s m i=>exact Jd hd
  | infinity s=>
   simp only [aM,Ieee.Format.order,hd] at h
   have:Go.FloatKind.f32.format.read 0=.number false 0 Go.FloatKind.f32.format.leastPlace:=by decide +kernel
   rw [this] at h
   cases s<;>simp [Ieee.Datum.order] at h
  | nan s t=>simp only [aM,Ieee.Format.order,hd,Ieee.Datum.order] at h;cases h
theorem PI:aM .f32 (some 0) (some 0)=some .eq:=by decide +kernel
end Go.Abs.Fin
end
noncomputable section
namespace Go.Abs.Fin
open Classical
def aU (o:Option Nat):Int:=
 match o with
 | some b=>match Go.FloatKind.f32.format.read b with
  | .number s m i=>Ieee.signed s m (i+149).toNat
  | _=>0
 | none=>0
theorem Gy {b:Nat} {s:Bool} {m:Nat} {i:Int} (h:Go.FloatKind.f32.format.read b=.number s m i):-149<=i:=by
 have hl:Go.FloatKind.f32.format.leastPlace=-149:=by decide +kernel
 unfold Ieee.Format.read at h
 simp only at h
 split at h
 ·simp only [Ieee.Datum.number.injEq] at h;omega
 ·split at h
  ·simp only [Ieee.Datum.number.injEq] at h;omega
  ·split at h<;>cases h
theorem zF (s:Bool) (m a b:Nat):Ieee.signed s m (a+b)=Ieee.signed s m a*(2 ^ b:Nat):=by
 have e:m <<< (a+b)=(m <<< a)*2 ^ b:=by rw [Nat.shiftLeft_eq,Nat.shiftLeft_eq,Nat.pow_add,Nat.mul_assoc]
 unfold Ieee.signed
 cases s<;>simp only [e,if_true,if_false,Bool.false_eq_true]<;>push_cast<;>simp [Int.neg_mul]
theorem TI (x y:Int) {c:Nat} (hc:0<c):compare (x*(c:Int)) (y*(c:Int))=compare x y:=by
 have KZ:(0:Int)<(c:Int):=by omega
 rcases Int.lt_trichotomy x y with h | h | h
 ·rw [Int.compare_eq_lt.2 h,Int.compare_eq_lt.2 (Int.mul_lt_mul_of_pos_right h KZ)]
 ·subst h;simp
 ·rw [Int.compare_eq_gt.2 h,Int.compare_eq_gt.2 (Int.mul_lt_mul_of_pos_right h KZ)]
theorem tB {a b:Option Nat} (ha:aJ a=true) (hb:aJ b=true):aM .f32 a b=some (compare (aU a) (aU b)):=by
 obtain ⟨x,s,m,i,rfl,hx⟩:=u6 ha
 obtain ⟨y,t,n,j,rfl,hy⟩:=u6 hb
 have hi:=Gy hx
 have hj:=Gy hy
 simp only [aM,Ieee.Format.order,hx,hy,Ieee.Datum.order,aU]
 congr 1
 have e1:(i+149).toNat=(i-min i j).toNat+(min i j+149).toNat:=by omega
 have e2:(j+149).toNat=(j-min i j).toNat+(min i j+149).toNat:=by omega
 rw [e1,e2,zF,zF,TI _ _ (Nat.two_pow_pos _)]
section
variable {a b : Option Nat} (ha : aJ a = true) (hb : aJ b = true)
include ha hb
theorem D6:aM .f32 a b=some .lt↔aU a<aU b:=by
 rw [tB ha hb,Option.some.injEq];exact Int.compare_eq_lt
theorem D7:aM .f32 a b=some .gt↔aU b<aU a:=by
 rw [tB ha hb,Option.some.injEq];exact Int.compare_eq_gt
theorem Je:aM .f32 a b=some .eq↔aU a=aU b:=by
 rw [tB ha hb,Option.some.injEq];exact Int.compare_eq_eq
theorem blt:(aM .f32 a b==some .lt)=decide (aU a<aU b):=by
 by_cases h:aU a<aU b
 ·rw [decide_eq_true h,(D6 ha hb).2 h];rfl
 ·rw [decide_eq_false h];exact beq_eq_false_iff_ne.2 fun e=>h ((D6 ha hb).1 e)
theorem bgt:(aM .f32 a b==some .gt)=decide (aU b<aU a):=by
 by_cases h:aU b<aU a
 ·rw [decide_eq_true h,(D7 ha hb).2 h];rfl
 ·rw [decide_eq_false h];exact beq_eq_false_iff_ne.2 fun e=>h ((D7 ha hb).1 e)
theorem M1:(aM .f32 a b==some .eq)=decide (aU a=aU b):=by
 by_cases h:aU a=aU b
 ·rw [decide_eq_true h,(Je ha hb).2 h];rfl
 ·rw [decide_eq_false h];exact beq_eq_false_iff_ne.2 fun e=>h ((Je ha hb).1 e)
end
theorem PJ:aJ (some 0)=true:=D5 PI
theorem p_ {a:Option Nat} (ha:aJ a=true):aU (az a)=aU a:=by
 unfold az
 split
 ·rename_i h
  rw [(Je ha PJ).1 h]
 ·rfl
end Go.Abs.Fin
end
