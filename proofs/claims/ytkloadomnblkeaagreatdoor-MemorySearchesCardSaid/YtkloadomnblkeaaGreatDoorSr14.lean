/- Part 14 of the library that the proof of the statement uses: an abstract run of the program, proved right, and what its functions give. -/
import Derived.Test.YtkloadomnblkeaaGreatDoorSr8
import Derived.Test.YtkloadomnblkeaaGreatDoorSr13
set_option linter.unusedVariables false
set_option linter.unusedSimpArgs false

noncomputable section
namespace Go.Abs
open Go.Proofs Classical
def eLevN:Ent:=fun args' R K=>match args' with
 | [.int .i64 a,.int .i64 n]=>gO (S_ (decide (1<=a/\a<=256/\0<=n/\n<=4096))) (K [.v (.int .i64 (S_ ((levN a n:Int))))])
 | _=>none
theorem eLevN_90:EntOk Tryz.prog 90 eLevN:=by
 intro args' R K r ha h
 unfold eLevN at h
 split at h
 ·rename_i a n
  obtain ⟨h1,h2⟩:=guardO_some h
  rw [shut_eq] at h1
  have h1':=of_decide_eq_true h1
  refine ⟨[.v (.int .i64 ((levN a n:Int)))],fun _ _=>by simp only [eLevN,shut_eq,decide_eq_true h1',gO],?_,con_of mz2_ok (W:=waysP) (N:=14) (k:=12) (ms:=[false]) ?_ ha trivial⟩
  ·intro l hl;rcases List.mem_cons.1 hl with rfl | hl
   ·exact leaf_int
   cases hl
  ·exact run_90' h1'.1 h1'.2.1 h1'.2.2.1 h1'.2.2.2
 ·cases h
def eEnds:Ent:=fun args' R K=>match args' with
 | [.int .i64 a,.int .i64 n,.agg [.int .i64 l,.int .i64 i]]=>gO (S_ (decide (1<=a/\a<=256/\0<=n/\n<=4096/\l<=13/\0<=i/\i<=4096))) (K [.v (.int .i64 (S_ ((endsL a n l i).1))),.v (.int .i64 (S_ ((endsL a n l i).2)))])
 | _=>none
theorem eEnds_78:EntOk Tryz.prog 78 eEnds:=by
 intro args' R K r ha h
 unfold eEnds at h
 split at h
 ·rename_i a n l i
  obtain ⟨h1,h2⟩:=guardO_some h
  rw [shut_eq] at h1
  have h1':=of_decide_eq_true h1
  refine ⟨[.v (.int .i64 ((endsL a n l i).1)),.v (.int .i64 ((endsL a n l i).2))],fun _ _=>by simp only [eEnds,shut_eq,decide_eq_true h1',gO],?_,con_of mz2_ok (W:=waysP) (N:=15) (k:=12) (ms:=[false,false]) ?_ ha trivial⟩
  ·intro l hl;rcases List.mem_cons.1 hl with rfl | hl
   ·exact leaf_int
   rcases List.mem_cons.1 hl with rfl | hl
   ·exact leaf_int
   cases hl
  ·exact run_78' h1'.1 h1'.2.1 h1'.2.2.1 h1'.2.2.2.1 h1'.2.2.2.2.1 h1'.2.2.2.2.2.1 h1'.2.2.2.2.2.2
 ·cases h
def eSameN:Ent:=fun args' R K=>match args' with
 | [.list n cs,.list m ds]=>gO (S_ (decide (Prs n cs/\Prs m ds))) (K [.v (.bool (S_ (decide (intsOf cs=intsOf ds))))])
 | _=>none
theorem eSameN_33:EntOk Tryz.prog 33 eSameN:=by
 intro args' R K r ha h
 unfold eSameN at h
 split at h
 ·rename_i n cs m ds
  obtain ⟨h1,h2⟩:=guardO_some h
  rw [shut_eq] at h1
  have h1':=of_decide_eq_true h1
  refine ⟨[.v (.bool (decide (intsOf cs=intsOf ds)))],fun _ _=>by simp only [eSameN,shut_eq,decide_eq_true h1',gO],?_,con_of mz2_ok (W:=waysP) (N:=n+1) (k:=12) (ms:=[false]) ?_ ha trivial⟩
  ·intro l hl;rcases List.mem_cons.1 hl with rfl | hl
   ·exact leaf_bool
   cases hl
  ·exact run_33' h1'.1 h1'.2
 ·cases h
def eNodes:Ent:=fun args' R K=>match args' with
 | [.list n cs]=>gO (S_ (decide (Prs n cs))) (K [.fz (S_ (n)) (S_ (cs))])
 | _=>none
theorem eNodes_34:EntOk Tryz.prog 34 eNodes:=by
 intro args' R K r ha h
 unfold eNodes at h
 split at h
 ·rename_i n cs
  obtain ⟨h1,h2⟩:=guardO_some h
  rw [shut_eq] at h1
  have h1':=of_decide_eq_true h1
  refine ⟨[.fz (n) (cs)],fun _ _=>by simp only [eNodes,shut_eq,decide_eq_true h1',gO],?_,con_of mz2_ok (W:=waysP) (N:=n+1) (k:=12) (ms:=[true]) ?_ ha ⟨h1'.plain,trivial⟩⟩
  ·intro l hl;rcases List.mem_cons.1 hl with rfl | hl
   ·exact (leaf_fz (h1'.plain))
   cases hl
  ·exact run_34' h1'
 ·cases h
def eChk:Ent:=fun args' R K=>match args' with
 | [.int .i64 a,.int .i64 b,.int .i64 c]=>K [.v (.int .i64 (S_ (if b<0\/b>a then 3 else if c<0\/c>a then 3 else if c<b then 11 else 0)))]
 | _=>none
theorem eChk_88:EntOk Tryz.prog 88 eChk:=by
 intro args' R K r ha h
 unfold eChk at h
 split at h
 ·rename_i a b c
  refine ⟨[.v (.int .i64 (if b<0\/b>a then 3 else if c<0\/c>a then 3 else if c<b then 11 else 0))],fun _ _=>by simp only [eChk,shut_eq],?_,con_of mz2_ok (W:=waysP) (N:=1) (k:=12) (ms:=[false]) ?_ ha trivial⟩
  ·intro l hl;rcases List.mem_cons.1 hl with rfl | hl
   ·exact leaf_int
   cases hl
  ·exact run_88'
 ·cases h
def mzC:List (FuncId × Ent):=(90,eLevN)::(78,eEnds)::(33,eSameN)::(34,eNodes)::(88,eChk)::mz2
theorem mzC_ok:TabLOk Tryz.prog mzC:=⟨eLevN_90,eEnds_78,eSameN_33,eNodes_34,eChk_88,mz2_ok⟩
end Go.Abs
end
noncomputable section
namespace Go.Abs.Fin
open Classical
theorem sub_self_num {b:Nat} {s:Bool} {m:Nat} {i:Int} (h:Go.FloatKind.f32.format.read b=.number s m i):arithO .sub .f32 (some b) (some b)=some 0:=by
 simp only [arithO,arithF,Ieee.Format.sub,h,Ieee.Datum.opposite,Ieee.Datum.sum,Option.map_some]
 have e:Ieee.signed s m (i-min i i).toNat+Ieee.signed (!s) m (i-min i i).toNat=0:=by
  cases s<;>simp [Ieee.signed]<;>omega
 rw [e]
 simp only [if_true,Int.natAbs_zero,Ieee.Format.write,Ieee.Format.nearest]
 cases s<;>rfl
theorem fin_number {b:Nat} {s:Bool} {m:Nat} {i:Int} (h:Go.FloatKind.f32.format.read b=.number s m i):finB (some b)=true:=by
 unfold finB
 rw [sub_self_num h]
 decide +kernel
theorem fin_of {o:Option Nat} (h:finB o=true):∃ b s m i,o=some b/\Go.FloatKind.f32.format.read b=.number s m i:=by
 cases o with
 | none=>exact absurd h (by decide)
 | some b=>
  cases hd:Go.FloatKind.f32.format.read b with
  | number s m i=>exact ⟨b,s,m,i,rfl,hd⟩
  | infinity s=>
   exfalso
   have:arithO .sub .f32 (some b) (some b)=none:=by
    simp only [arithO,arithF,Ieee.Format.sub,hd,Ieee.Datum.opposite,Ieee.Datum.sum]
    cases s<;>rfl
   unfold finB at h
   rw [this] at h
   exact absurd h (by decide)
  | nan s t=>
   exfalso
   have:arithO .sub .f32 (some b) (some b)=none:=by
    simp only [arithO,arithF,Ieee.Format.sub,hd,Ieee.Datum.opposite,Ieee.Datum.sum,Option.map_none]
   unfold finB at h
   rw [this] at h
   exact absurd h (by decide)
theorem finB_of_zero {o:Option Nat} (h:ordO .f32 o (some 0)=some .eq):finB o=true:=by
 cases o with
 | none=>cases h
 | some b=>
  cases hd:Go.FloatKind.f32.format.read b with
  | number s m i=>exact fin_number hd
  | infinity s=>
   simp only [ordO,Ieee.Format.order,hd] at h
   have:Go.FloatKind.f32.format.read 0=.number false 0 Go.FloatKind.f32.format.leastPlace:=by decide +kernel
   rw [this] at h
   cases s<;>simp [Ieee.Datum.order] at h
  | nan s t=>simp only [ordO,Ieee.Format.order,hd,Ieee.Datum.order] at h;cases h
theorem zero_ord:ordO .f32 (some 0) (some 0)=some .eq:=by decide +kernel
end Go.Abs.Fin
end
noncomputable section
namespace Go.Abs.Fin
open Classical
def fkey (o:Option Nat):Int:=
 match o with
 | some b=>match Go.FloatKind.f32.format.read b with
  | .number s m i=>Ieee.signed s m (i+149).toNat
  | _=>0
 | none=>0
theorem place_ge {b:Nat} {s:Bool} {m:Nat} {i:Int} (h:Go.FloatKind.f32.format.read b=.number s m i):-149<=i:=by
 have hl:Go.FloatKind.f32.format.leastPlace=-149:=by decide +kernel
 unfold Ieee.Format.read at h
 simp only at h
 split at h
 ·simp only [Ieee.Datum.number.injEq] at h;omega
 ·split at h
  ·simp only [Ieee.Datum.number.injEq] at h;omega
  ·split at h<;>cases h
theorem signed_add (s:Bool) (m a b:Nat):Ieee.signed s m (a+b)=Ieee.signed s m a*(2 ^ b:Nat):=by
 have e:m <<< (a+b)=(m <<< a)*2 ^ b:=by rw [Nat.shiftLeft_eq,Nat.shiftLeft_eq,Nat.pow_add,Nat.mul_assoc]
 unfold Ieee.signed
 cases s<;>simp only [e,if_true,if_false,Bool.false_eq_true]<;>push_cast<;>simp [Int.neg_mul]
theorem cmp_mul (x y:Int) {c:Nat} (hc:0<c):compare (x*(c:Int)) (y*(c:Int))=compare x y:=by
 have hc':(0:Int)<(c:Int):=by omega
 rcases Int.lt_trichotomy x y with h | h | h
 ·rw [Int.compare_eq_lt.2 h,Int.compare_eq_lt.2 (Int.mul_lt_mul_of_pos_right h hc')]
 ·subst h;simp
 ·rw [Int.compare_eq_gt.2 h,Int.compare_eq_gt.2 (Int.mul_lt_mul_of_pos_right h hc')]
theorem ord_key {a b:Option Nat} (ha:finB a=true) (hb:finB b=true):ordO .f32 a b=some (compare (fkey a) (fkey b)):=by
 obtain ⟨x,s,m,i,rfl,hx⟩:=fin_of ha
 obtain ⟨y,t,n,j,rfl,hy⟩:=fin_of hb
 have hi:=place_ge hx
 have hj:=place_ge hy
 simp only [ordO,Ieee.Format.order,hx,hy,Ieee.Datum.order,fkey]
 congr 1
 have e1:(i+149).toNat=(i-min i j).toNat+(min i j+149).toNat:=by omega
 have e2:(j+149).toNat=(j-min i j).toNat+(min i j+149).toNat:=by omega
 rw [e1,e2,signed_add,signed_add,cmp_mul _ _ (Nat.two_pow_pos _)]
section
variable {a b : Option Nat} (ha : finB a = true) (hb : finB b = true)
include ha hb
theorem ord_lt:ordO .f32 a b=some .lt↔fkey a<fkey b:=by
 rw [ord_key ha hb,Option.some.injEq];exact Int.compare_eq_lt
theorem ord_gt:ordO .f32 a b=some .gt↔fkey b<fkey a:=by
 rw [ord_key ha hb,Option.some.injEq];exact Int.compare_eq_gt
theorem ord_eq:ordO .f32 a b=some .eq↔fkey a=fkey b:=by
 rw [ord_key ha hb,Option.some.injEq];exact Int.compare_eq_eq
theorem blt:(ordO .f32 a b==some .lt)=decide (fkey a<fkey b):=by
 by_cases h:fkey a<fkey b
 ·rw [decide_eq_true h,(ord_lt ha hb).2 h];rfl
 ·rw [decide_eq_false h];exact beq_eq_false_iff_ne.2 fun e=>h ((ord_lt ha hb).1 e)
theorem bgt:(ordO .f32 a b==some .gt)=decide (fkey b<fkey a):=by
 by_cases h:fkey b<fkey a
 ·rw [decide_eq_true h,(ord_gt ha hb).2 h];rfl
 ·rw [decide_eq_false h];exact beq_eq_false_iff_ne.2 fun e=>h ((ord_gt ha hb).1 e)
theorem beqk:(ordO .f32 a b==some .eq)=decide (fkey a=fkey b):=by
 by_cases h:fkey a=fkey b
 ·rw [decide_eq_true h,(ord_eq ha hb).2 h];rfl
 ·rw [decide_eq_false h];exact beq_eq_false_iff_ne.2 fun e=>h ((ord_eq ha hb).1 e)
end
theorem fin_zero:finB (some 0)=true:=finB_of_zero zero_ord
theorem key_clean {a:Option Nat} (ha:finB a=true):fkey (clean1 a)=fkey a:=by
 unfold clean1
 split
 ·rename_i h
  rw [(ord_eq ha fin_zero).1 h]
 ·rfl
end Go.Abs.Fin
end
noncomputable section
namespace Go.Abs
open Classical Go.Abs.Fin
def minO (a b:Option Nat):Option Nat:=(minFO .f32 .f32 a b).getD none
def maxO (a b:Option Nat):Option Nat:=(maxFO .f32 .f32 a b).getD none
theorem minO_fin {a b:Option Nat} (ha:finB a=true) (hb:finB b=true):minFO .f32 .f32 a b=some (minO a b)/\finB (minO a b)=true/\fkey (minO a b)=min (fkey a) (fkey b):=by
 obtain ⟨x,s,m,i,rfl,hx⟩:=fin_of ha
 obtain ⟨y,t,n,j,rfl,hy⟩:=fin_of hb
 have ho:Go.FloatKind.f32.format.order x y=some (compare (fkey (some x)) (fkey (some y))):=ord_key ha hb
 have e:minFO .f32 .f32 (some x) (some y)=(match compare (fkey (some x)) (fkey (some y)) with | .lt=>some (some x) | .gt=>some (some y) | .eq=>some (if (Go.FloatKind.f32.decode x).neg then some x else some y)):=by
  unfold minFO amin2
  simp only [ho]
  cases compare (fkey (some x)) (fkey (some y)) with
  | lt=>rfl
  | gt=>rfl
  | eq=>simp only [decide_true];split<;>rfl
 unfold minO
 rcases Int.lt_trichotomy (fkey (some x)) (fkey (some y)) with h | h | h
 ·rw [Int.compare_eq_lt.2 h] at e
  rw [e];exact ⟨rfl,ha,by show fkey (some x)=_;omega⟩
 ·rw [Int.compare_eq_eq.2 h] at e
  simp only at e
  rw [e]
  refine ⟨rfl,?_,?_⟩
  ·show finB (if _ then some x else some y)=true
   split
   ·exact ha
   ·exact hb
  ·show fkey (if _ then some x else some y)=_
   split<;>omega
 ·rw [Int.compare_eq_gt.2 h] at e
  rw [e];exact ⟨rfl,hb,by show fkey (some y)=_;omega⟩
theorem maxO_fin {a b:Option Nat} (ha:finB a=true) (hb:finB b=true):maxFO .f32 .f32 a b=some (maxO a b)/\finB (maxO a b)=true/\fkey (maxO a b)=max (fkey a) (fkey b):=by
 obtain ⟨x,s,m,i,rfl,hx⟩:=fin_of ha
 obtain ⟨y,t,n,j,rfl,hy⟩:=fin_of hb
 have ho:Go.FloatKind.f32.format.order x y=some (compare (fkey (some x)) (fkey (some y))):=ord_key ha hb
 have e:maxFO .f32 .f32 (some x) (some y)=(match compare (fkey (some x)) (fkey (some y)) with | .lt=>some (some y) | .gt=>some (some x) | .eq=>some (if (Go.FloatKind.f32.decode x).neg then some y else some x)):=by
  unfold maxFO amax2
  simp only [ho]
  cases compare (fkey (some x)) (fkey (some y)) with
  | lt=>rfl
  | gt=>rfl
  | eq=>simp only [decide_true];split<;>rfl
 unfold maxO
 rcases Int.lt_trichotomy (fkey (some x)) (fkey (some y)) with h | h | h
 ·rw [Int.compare_eq_lt.2 h] at e
  rw [e];exact ⟨rfl,hb,by show fkey (some y)=_;omega⟩
 ·rw [Int.compare_eq_eq.2 h] at e
  simp only at e
  rw [e]
  refine ⟨rfl,?_,?_⟩
  ·show finB (if _ then some y else some x)=true
   split
   ·exact hb
   ·exact ha
  ·show fkey (if _ then some y else some x)=_
   split<;>omega
 ·rw [Int.compare_eq_gt.2 h] at e
  rw [e];exact ⟨rfl,ha,by show fkey (some x)=_;omega⟩
theorem finB_clean {o:Option Nat} (h:finB o=true):finB (clean1 o)=true:=by
 unfold clean1
 split
 ·decide +kernel
 ·exact h
end Go.Abs
end
