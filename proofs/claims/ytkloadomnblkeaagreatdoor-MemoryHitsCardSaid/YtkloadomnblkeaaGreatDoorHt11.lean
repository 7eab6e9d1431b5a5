/- Part 11 of the library of the proof: an abstract run of the program. -/
import Derived.Test.YtkloadomnblkeaaGreatDoorHt8
import Derived.Test.YtkloadomnblkeaaGreatDoorHt10
set_option linter.unusedVariables false
set_option linter.unusedSimpArgs false

noncomputable section
namespace Go.Abs
open Classical Go.RowKit
structure xL (k:IntKind) (n:Nat) (cs:List AV):Prop where
 lt:n<9223372036854775808
 eq:cs=(aB cs).map (AV.int k)
 len:cs.length=n
section
variable {k : IntKind} {n m : Nat} {cs ds : List AV}
theorem xL.il (h:xL k n cs):(aB cs).length=n:=by simp [aB,h.len]
theorem xL.get (h:xL k n cs) {i:Nat} (hi:i<n):asInt k (cs.getD i .top)=some ((aB cs).getD i 0):=by
 have h4:=h.il
 have h5:i<(aB cs).length:=by omega
 rw [List.getD_eq_getElem?_getD,List.getD_eq_getElem?_getD]
 conv=>lhs;rw [h.eq]
 simp [h5,asInt]
def cF (k:IntKind) (xs:List Int):List AV:=xs.map (AV.int k)
theorem M3 {xs:List Int}:(cF k xs).length=xs.length:=by simp [cF]
theorem M4 {xs ys:List Int}:cF k (xs++ys)=cF k xs++cF k ys:=by simp [cF]
theorem oJ {xs:List Int}:∀ c∈cF k xs,eY c:=by
 intro c hc
 obtain ⟨z,_,rfl⟩:=List.mem_map.1 hc
 exact .int _ _
theorem u7 (h:xL k n cs) (h':xL k m ds) {N:Nat} (hN:n<N):(
 cO (S_ ((↑n:Int) != (↑m:Int)))
 (
 some ([aa.v (AV.bool false)]))
 (
 bg N (fun x_ (Xb:Nat) (Xc:List AV) (abR:Nat) (Xd:List AV) (Gz:Int)=>
 cO (S_ (decide (Gz<(↑Xb:Int))))
 (
 gO (S_ (decide ((0:Int)<=Gz/\Gz<(↑Xb:Int)/\0<Xc.length)))<|
 bO (asInt k (Xc.getD (Gz.toNat*1) AV.top)) fun v4=>
 gO (S_ (decide ((0:Int)<=Gz/\Gz<(↑abR:Int)/\0<Xd.length)))<|
 bO (asInt k (Xd.getD (Gz.toNat*1) AV.top)) fun v6=>
 cO (S_ (v4 != v6))
 (
 some ([aa.v (AV.bool false)]))
 (
 x_ (Xb) (Xc) (abR) (Xd) (S_ (IntKind.i64.wrap (Gz+(1:Int))))))
 (
 some ([aa.v (AV.bool true)])))
 (fun _ _ _ _ _=>none) (n) (cs) (m) (ds) ((0:Int))))=some [.v (.bool (decide (aB cs=aB ds)))]:=by
 simp only [ab,cr,Int.ofNat_inj]
 by_cases SH:n=m
 ·subst SH
  rw [if_pos rfl]
  refine au (fun k' (r:Nat->List AV->Nat->List AV->Int->Option (List aa))=>∀ i:Nat,i+k'=n->r n cs n ds (i:Int)=some [aa.v (.bool (decide ((aB cs).drop i=(aB ds).drop i)))]) ?_ N n hN 0 (by omega)
  intro k' r ih i hi
  by_cases hk:i<n
  ·have h2:0<cs.length:=by rw [h.len];omega
   have h3:0<ds.length:=by rw [h'.len];omega
   rw [drop_cons (xs:=aB cs) (d:=0) (show i<(aB cs).length by rw [h.il];exact hk),drop_cons (xs:=aB ds) (d:=0) (show i<(aB ds).length by rw [h'.il];exact hk)]
   simp only [ab,ae,cr,aj,Int.ofNat_lt,hk,h2,h3,if_true,Int.toNat_natCast,Nat.mul_one,h.get hk,h'.get hk,ak,lF h.lt hk,ih (k' - 1) (by omega) (i+1) (by omega),and_true,Int.natCast_nonneg,true_and,List.cons.injEq]
   by_cases hz:(aB cs).getD i 0=(aB ds).getD i 0<;>simp only [hz,if_true,if_false,true_and,false_and,decide_false]
  ·have h2:(aB cs).drop i=[]:=by rw [List.drop_eq_nil_iff,h.il];omega
   have h3:(aB ds).drop i=[]:=by rw [List.drop_eq_nil_iff,h'.il];omega
   simp only [ab,ae,Int.ofNat_lt,hk,h2,h3,if_false,decide_true]
 ·rw [if_neg SH]
  have:aB cs≠aB ds:=fun e=>SH (by rw [←h.il,e,h'.il])
  simp only [this,decide_false]
theorem zG (h:jD n cs) {N:Nat} (hN:n<N):(
 bg N (fun uB (abS:Nat) (Xe:List AV) (abT:Int) (PK:Int)=>
 cO (S_ (decide (PK<abT)))
 (
 gO (S_ (decide ((0:Int)<=PK/\PK<(↑abS:Int)/\0<Xe.length)))<|
 bO (asInt IntKind.i64 (Xe.getD (PK.toNat*1) AV.top)) fun v3=>
 cO (S_ (v3 != (0:Int)))
 (
 some ([aa.v (AV.int IntKind.i64 v3)]))
 (
 uB (abS) (Xe) (abT) (S_ (IntKind.i64.wrap (PK+(1:Int))))))
 (
 some ([aa.v (AV.int IntKind.i64 (0:Int))])))
 (fun _ _ _ _=>none) (n) (cs) ((↑n:Int)) ((0:Int)))=some [.v (.int .i64 (bR (aB cs)))]:=by
 refine au (fun k (r:Nat->List AV->Int->Int->Option (List aa))=>∀ i:Nat,i+k=n->r n cs (n:Int) (i:Int)=some [aa.v (.int .i64 (bR ((aB cs).drop i)))]) ?_ N n hN 0 (by omega)
 intro k r ih i hi
 by_cases hk:i<n
 ·have h2:0<cs.length:=by rw [h.2.2];omega
  rw [drop_cons (d:=0) (show i<(aB cs).length by rw [h.len];exact hk)]
  simp only [ab,ae,cr,aj,Int.ofNat_lt,hk,h2,if_true,Int.toNat_natCast,Nat.mul_one,h.get hk,ak,lF h.1 hk,ih (k-1) (by omega) (i+1) (by omega),and_true,Int.natCast_nonneg,true_and,bR]
  by_cases hz:(aB cs).getD i 0=0<;>simp only [hz,if_true,if_false]
 ·have h2:(aB cs).drop i=[]:=by rw [List.drop_eq_nil_iff,h.len];omega
  simp only [ab,ae,Int.ofNat_lt,hk,h2,bR,if_false]
end
end Go.Abs
end
noncomputable section
namespace Go.Abs
open Go.Proofs Classical
def D9 (n:Nat) (xs:List Int):Int:=if n>4096 then 5 else if xs.all (fun z=>decide (0<=z/\z<=4095)) then 0 else 3
theorem TM {n:Nat} {cs:List AV} (h:jD n cs):(dA [] aK (n+1) 6).call (List aa) 68 [.aT (.list n cs)] [] (bp [false])=some [.v (.int .i64 (D9 n (aB cs)))]:=by
 rw [Xl]
 simp only [ab,ae,D9]
 by_cases h0:n>4096
 ·rw [if_pos (by omega),if_pos h0]
 rw [if_neg (by omega),if_neg h0]
 refine au (fun k (r:Nat->List AV->Int->Option (List aa))=>∀ i:Nat,i+k=n->r n cs (i:Int)=some [aa.v (.int .i64 (if ((aB cs).drop i).all (fun z=>decide (0<=z/\z<=4095)) then 0 else 3))]) ?_ (n+1) n (by omega) 0 (by omega)
 intro k r ih i hi
 by_cases hk:i<n
 ·have h2:0<cs.length:=by rw [h.2.2];omega
  rw [drop_cons (d:=0) (show i<(aB cs).length by rw [h.len];exact hk)]
  simp only [bP (Nat.succ_pos n),ab,ae,fN,aj,Int.ofNat_lt,hk,h2,if_true,Int.toNat_natCast,Nat.mul_one,h.get hk,ak,lF h.1 hk,ih (k-1) (by omega) (i+1) (by omega),and_true,Int.natCast_nonneg,true_and,List.all_cons,Bool.and_eq_true,decide_eq_true_eq]
  generalize (aB cs).getD i 0=z
  by_cases h3:z<0
  ·simp [h3,cO,bO,show ¬ 0<=z by omega]
  ·by_cases h4:z>4095
   ·simp [h3,h4,cO,bO,show ¬ z<=4095 by omega]
   ·simp [h3,h4,cO,bO,show 0<=z by omega,show z<=4095 by omega]
 ·have h2:(aB cs).drop i=[]:=by rw [List.drop_eq_nil_iff,h.len];omega
  simp only [ab,ae,Int.ofNat_lt,hk,h2,if_false,List.all_nil,if_true]
theorem TN {n:Nat} {cs:List AV} (h:bu n cs):(dA [] aK (n+1) 6).call (List aa) 22 [.aT (.list n cs)] [] (bp [false])=some [.v (.int .i64 (aY n (fO cs)))]:=by
 rw [Xm]
 simp only [ab,ae,aY]
 by_cases h0:n>4096
 ·rw [if_pos (by omega),if_pos h0]
 rw [if_neg (by omega),if_neg h0]
 refine au (fun k (r:Nat->List AV->Int->Option (List aa))=>∀ i:Nat,i+k=n->r n cs (i:Int)=some [aa.v (.int .i64 (if ((fO cs).drop i).all aJ then 0 else 1))]) ?_ (n+1) n (by omega) 0 (by omega)
 intro k r ih i hi
 by_cases hk:i<n
 ·have h2:0<cs.length:=by rw [h.2.2];omega
  rw [drop_cons (d:=none) (show i<(fO cs).length by rw [h.len];exact hk)]
  simp only [ab,ae,fN,aj,Int.ofNat_lt,hk,h2,if_true,Int.toNat_natCast,Nat.mul_one,h.get hk,ak,lF h.1 hk,ih (k-1) (by omega) (i+1) (by omega),and_true,Int.natCast_nonneg,true_and,List.all_cons,Bool.and_eq_true]
  rw [show (aM .f32 (fj .sub .f32 ((fO cs).getD i none) ((fO cs).getD i none)) (some 0)==some .eq)=aJ ((fO cs).getD i none) from rfl]
  by_cases hz:aJ ((fO cs).getD i none)=true<;>simp only [hz,if_true,if_false,true_and,false_and,Bool.false_eq_true]
 ·have h2:(fO cs).drop i=[]:=by rw [List.drop_eq_nil_iff,h.len];omega
  simp only [ab,ae,Int.ofNat_lt,hk,h2,if_false,List.all_nil,if_true]
theorem TO {n:Nat} {cs:List AV} (h:bu n cs):(dA [] aK (n+1) 6).call (List aa) 83 [.aT (.list n cs)] [] (bp [false])=some [.v (.int .i64 (aY n (fO cs)))]:=by
 rw [Xn]
 simp only [ab,ae,aY]
 by_cases h0:n>4096
 ·rw [if_pos (by omega),if_pos h0]
 rw [if_neg (by omega),if_neg h0]
 refine au (fun k (r:Nat->List AV->Int->Int->Option (List aa))=>∀ i:Nat,i+k=n->r n cs (n:Int) (i:Int)=some [aa.v (.int .i64 (if ((fO cs).drop i).all aJ then 0 else 1))]) ?_ (n+1) n (by omega) 0 (by omega)
 intro k r ih i hi
 by_cases hk:i<n
 ·have h2:0<cs.length:=by rw [h.2.2];omega
  rw [drop_cons (d:=none) (show i<(fO cs).length by rw [h.len];exact hk)]
  simp only [ab,ae,cr,fN,aj,Int.ofNat_lt,hk,h2,if_true,Int.toNat_natCast,Nat.mul_one,h.get hk,ak,lF h.1 hk,ih (k-1) (by omega) (i+1) (by omega),and_true,Int.natCast_nonneg,true_and,List.all_cons,Bool.and_eq_true]
  rw [show (aM .f32 (fj .sub .f32 ((fO cs).getD i none) ((fO cs).getD i none)) (some 0)==some .eq)=aJ ((fO cs).getD i none) from rfl]
  generalize aJ ((fO cs).getD i none)=z
  cases z<;>simp
 ·have h2:(fO cs).drop i=[]:=by rw [List.drop_eq_nil_iff,h.len];omega
  simp only [ab,ae,Int.ofNat_lt,hk,h2,if_false,List.all_nil,if_true]
theorem TP {n m:Nat} {cs ds:List AV} (h:bu n cs) (h':bu m ds):(dA [] aK (n+1) 6).call (List aa) 61 [.aT (.list n cs),.aT (.list m ds)] [] (bp [false])=some [.v (.bool (mD (fO cs) (fO ds)))]:=by
 rw [Xo]
 simp only [ab,cr,Int.ofNat_inj,mD,h.len,h'.len]
 by_cases SH:n=m
 ·subst SH
  rw [if_pos rfl,beq_self_eq_true,Bool.true_and]
  refine au (fun k (r:Nat->List AV->Nat->List AV->Int->Option (List aa))=>∀ i:Nat,i+k=n->r n cs n ds (i:Int)=some [aa.v (.bool (((List.range n).drop i).all fun i=>aM .f32 ((fO cs).getD i none) ((fO ds).getD i none)==some .eq))]) ?_ (n+1) n (by omega) 0 (by omega)
  intro k r ih i hi
  by_cases hk:i<n
  ·have h2:0<cs.length:=by rw [h.2.2];omega
   have h3:0<ds.length:=by rw [h'.2.2];omega
   rw [bV hk]
   simp only [ab,ae,Gv,aj,Int.ofNat_lt,hk,h2,h3,if_true,Int.toNat_natCast,Nat.mul_one,h.get hk,h'.get hk,ak,lF h.1 hk,ih (k-1) (by omega) (i+1) (by omega),and_true,Int.natCast_nonneg,true_and]
   by_cases hz:aM .f32 ((fO cs).getD i none) ((fO ds).getD i none)=some .eq
   ·rw [if_pos hz,beq_iff_eq.mpr hz,Bool.true_and]
   ·rw [if_neg hz,beq_eq_false_iff_ne.mpr hz,Bool.false_and]
  ·have h2:(List.range n).drop i=[]:=by rw [List.drop_eq_nil_iff,List.length_range];omega
   simp only [ab,ae,Int.ofNat_lt,hk,h2,if_false,List.all_nil]
 ·rw [if_neg SH,beq_eq_false_iff_ne.mpr SH,Bool.false_and]
def M9 (a b c:Int):Bool:=decide (a<=b\/(a>c/\a<=IntKind.i64.wrap (c+2)))
def oM:fr:=fun ai R K=>match ai with
 | [.list n cs]=>gO (S_ (decide (jD n cs))) (K [.v (.int .i64 (S_ (bR (aB cs))))])
 | _=>none
theorem M':bG Tryz.prog 82 oM:=by
 intro ai R K r ha h
 unfold oM at h
 split at h
 ·rename_i n cs
  obtain ⟨h1,h2⟩:=aD h
  rw [ab] at h1
  have bM:=of_decide_eq_true h1
  refine ⟨[.v (.int .i64 (bR (aB cs)))],fun _ _=>by simp only [oM,ab,decide_eq_true bM,gO],?_,bf (l:=[]) trivial (W:=aK) (N:=n+1) (k:=6) (ms:=[false]) ?_ ha trivial⟩
  ·intro l hl;rcases List.mem_cons.1 hl with rfl | hl
   ·exact bh
   cases hl
  ·exact (Xp _ _ _).trans (zG bM (by omega))
 ·cases h
theorem Jj:bG Tryz.prog 138 oM:=by
 intro ai R K r ha h
 unfold oM at h
 split at h
 ·rename_i n cs
  obtain ⟨h1,h2⟩:=aD h
  rw [ab] at h1
  have bM:=of_decide_eq_true h1
  refine ⟨[.v (.int .i64 (bR (aB cs)))],fun _ _=>by simp only [oM,ab,decide_eq_true bM,gO],?_,bf (l:=[]) trivial (W:=aK) (N:=n+1) (k:=6) (ms:=[false]) ?_ ha trivial⟩
  ·intro l hl;rcases List.mem_cons.1 hl with rfl | hl
   ·exact bh
   cases hl
  ·exact (TQ _ _ _).trans (zG bM (by omega))
 ·cases h
def wW:fr:=fun ai R K=>match ai with
 | [.bool b,.int .i64 a]=>K [.v (.int .i64 (S_ (if b=true then a else 0)))]
 | _=>none
theorem PU:bG Tryz.prog 87 wW:=by
 intro ai R K r ha h
 unfold wW at h
 split at h
 ·rename_i b a
  refine ⟨[.v (.int .i64 (if b=true then a else 0))],fun _ _=>by simp only [wW,ab],?_,bf (l:=[]) trivial (W:=aK) (N:=0) (k:=6) (ms:=[false]) ?_ ha trivial⟩
  ·intro l hl;rcases List.mem_cons.1 hl with rfl | hl
   ·exact bh
   cases hl
  ·refine (Xq _ b a).trans ?_;cases b<;>rfl
 ·cases h
theorem M_:bG Tryz.prog 126 wW:=by
 intro ai R K r ha h
 unfold wW at h
 split at h
 ·rename_i b a
  refine ⟨[.v (.int .i64 (if b=true then a else 0))],fun _ _=>by simp only [wW,ab],?_,bf (l:=[]) trivial (W:=aK) (N:=0) (k:=6) (ms:=[false]) ?_ ha trivial⟩
  ·intro l hl;rcases List.mem_cons.1 hl with rfl | hl
   ·exact bh
   cases hl
  ·refine (TS _ b a).trans ?_;cases b<;>rfl
 ·cases h
def xM:fr:=fun ai R K=>match ai with
 | [.aL .f32 o]=>K [.v (.bool (S_ (aJ o)))]
 | _=>none
theorem TU:bG Tryz.prog 86 xM:=by
 intro ai R K r ha h
 unfold xM at h
 split at h
 ·rename_i o
  refine ⟨[.v (.bool (aJ o))],fun _ _=>by simp only [xM,ab],?_,bf (l:=[]) trivial (W:=aK) (N:=0) (k:=6) (ms:=[false]) ?_ ha trivial⟩
  ·intro l hl;rcases List.mem_cons.1 hl with rfl | hl
   ·exact dz
   cases hl
  ·refine (Xr _ o).trans ?_;simp only [ab,aJ]
 ·cases h
theorem PV:bG Tryz.prog 127 xM:=by
 intro ai R K r ha h
 unfold xM at h
 split at h
 ·rename_i o
  refine ⟨[.v (.bool (aJ o))],fun _ _=>by simp only [xM,ab],?_,bf (l:=[]) trivial (W:=aK) (N:=0) (k:=6) (ms:=[false]) ?_ ha trivial⟩
  ·intro l hl;rcases List.mem_cons.1 hl with rfl | hl
   ·exact dz
   cases hl
  ·refine (TV _ o).trans ?_;simp only [ab,aJ]
 ·cases h
theorem TW:bG Tryz.prog 41 xM:=by
 intro ai R K r ha h
 unfold xM at h
 split at h
 ·rename_i o
  refine ⟨[.v (.bool (aJ o))],fun _ _=>by simp only [xM,ab],?_,bf (l:=[]) trivial (W:=aK) (N:=0) (k:=6) (ms:=[false]) ?_ ha trivial⟩
  ·intro l hl;rcases List.mem_cons.1 hl with rfl | hl
   ·exact dz
   cases hl
  ·refine (Xs _ o).trans ?_;simp only [ab,aJ]
 ·cases h
def yb:fr:=fun ai R K=>match ai with
 | [.aL .f32 o]=>K [.v (.aL .f32 (S_ (az o)))]
 | _=>none
theorem GF:bG Tryz.prog 104 yb:=by
 intro ai R K r ha h
 unfold yb at h
 split at h
 ·rename_i o
  refine ⟨[.v (.aL .f32 (az o))],fun _ _=>by simp only [yb,ab],?_,bf (l:=[]) trivial (W:=aK) (N:=0) (k:=6) (ms:=[false]) ?_ ha trivial⟩
  ·intro l hl;rcases List.mem_cons.1 hl with rfl | hl
   ·exact PG
   cases hl
  ·refine (TX _ o).trans ?_;simp only [ab,CR,az];split<;>rfl
 ·cases h
def D':fr:=fun ai R K=>match ai with
 | [.list n cs,.list m ds]=>gO (S_ (decide (xL .i64 n cs/\xL .i64 m ds))) (K [.v (.bool (S_ (decide (aB cs=aB ds))))])
 | _=>none
theorem Na:bG Tryz.prog 60 D':=by
 intro ai R K r ha h
 unfold D' at h
 split at h
 ·rename_i n cs m ds
  obtain ⟨h1,h2⟩:=aD h
  rw [ab] at h1
  have bM:=of_decide_eq_true h1
  refine ⟨[.v (.bool (decide (aB cs=aB ds)))],fun _ _=>by simp only [D',ab,decide_eq_true bM,gO],?_,bf (l:=[]) trivial (W:=aK) (N:=n+1) (k:=6) (ms:=[false]) ?_ ha trivial⟩
  ·intro l hl;rcases List.mem_cons.1 hl with rfl | hl
   ·exact dz
   cases hl
  ·exact (Xt _ _ _ _ _).trans (u7 bM.1 bM.2 (by omega))
 ·cases h
def D_:fr:=fun ai R K=>match ai with
 | [.list n cs,.list m ds]=>gO (S_ (decide (xL .u8 n cs/\xL .u8 m ds))) (K [.v (.bool (S_ (decide (aB cs=aB ds))))])
 | _=>none
theorem Nb:bG Tryz.prog 71 D_:=by
 intro ai R K r ha h
 unfold D_ at h
 split at h
 ·rename_i n cs m ds
  obtain ⟨h1,h2⟩:=aD h
  rw [ab] at h1
  have bM:=of_decide_eq_true h1
  refine ⟨[.v (.bool (decide (aB cs=aB ds)))],fun _ _=>by simp only [D_,ab,decide_eq_true bM,gO],?_,bf (l:=[]) trivial (W:=aK) (N:=n+1) (k:=6) (ms:=[false]) ?_ ha trivial⟩
  ·intro l hl;rcases List.mem_cons.1 hl with rfl | hl
   ·exact dz
   cases hl
  ·exact (Xu _ _ _ _ _).trans (u7 bM.1 bM.2 (by omega))
 ·cases h
def Ea:fr:=fun ai R K=>match ai with
 | [.list n cs,.list m ds]=>gO (S_ (decide (xL .u16 n cs/\xL .u16 m ds))) (K [.v (.bool (S_ (decide (aB cs=aB ds))))])
 | _=>none
theorem Nc:bG Tryz.prog 76 Ea:=by
 intro ai R K r ha h
 unfold Ea at h
 split at h
 ·rename_i n cs m ds
  obtain ⟨h1,h2⟩:=aD h
  rw [ab] at h1
  have bM:=of_decide_eq_true h1
  refine ⟨[.v (.bool (decide (aB cs=aB ds)))],fun _ _=>by simp only [Ea,ab,decide_eq_true bM,gO],?_,bf (l:=[]) trivial (W:=aK) (N:=n+1) (k:=6) (ms:=[false]) ?_ ha trivial⟩
  ·intro l hl;rcases List.mem_cons.1 hl with rfl | hl
   ·exact dz
   cases hl
  ·exact (Xv _ _ _ _ _).trans (u7 bM.1 bM.2 (by omega))
 ·cases h
def Eb:fr:=fun ai R K=>match ai with
 | [.list n cs,.list m ds]=>gO (S_ (decide (bu n cs/\bu m ds))) (K [.v (.bool (S_ (mD (fO cs) (fO ds))))])
 | _=>none
theorem Nd:bG Tryz.prog 61 Eb:=by
 intro ai R K r ha h
 unfold Eb at h
 split at h
 ·rename_i n cs m ds
  obtain ⟨h1,h2⟩:=aD h
  rw [ab] at h1
  have bM:=of_decide_eq_true h1
  refine ⟨[.v (.bool (mD (fO cs) (fO ds)))],fun _ _=>by simp only [Eb,ab,decide_eq_true bM,gO],?_,bf (l:=[]) trivial (W:=aK) (N:=n+1) (k:=6) (ms:=[false]) ?_ ha trivial⟩
  ·intro l hl;rcases List.mem_cons.1 hl with rfl | hl
   ·exact dz
   cases hl
  ·exact TP bM.1 bM.2
 ·cases h
def TY:fr:=fun ai R K=>match ai with
 | [.int .i64 a,.int .i64 b,.int .i64 c]=>K [.v (.bool (S_ (M9 a b c)))]
 | _=>none
theorem TZ:bG Tryz.prog 62 TY:=by
 intro ai R K r ha h
 unfold TY at h
 split at h
 ·rename_i a b c
  refine ⟨[.v (.bool (M9 a b c))],fun _ _=>by simp only [TY,ab],?_,bf (l:=[]) trivial (W:=aK) (N:=1) (k:=6) (ms:=[false]) ?_ ha trivial⟩
  ·intro l hl;rcases List.mem_cons.1 hl with rfl | hl
   ·exact dz
   cases hl
  ·refine (Xw _ a b c).trans ?_;simp only [bP Nat.one_pos,ab,ae,M9];by_cases h1:a<=b<;>by_cases h2:a>c<;>simp [h1,h2,bO]
 ·cases h
def Ec:fr:=fun ai R K=>match ai with
 | [.int .i64 a]=>K [.v (.int .i64 (S_ (if a<1\/a>256 then 3 else 0)))]
 | _=>none
theorem Nf:bG Tryz.prog 23 Ec:=by
 intro ai R K r ha h
 unfold Ec at h
 split at h
 ·rename_i a
  refine ⟨[.v (.int .i64 (if a<1\/a>256 then 3 else 0))],fun _ _=>by simp only [Ec,ab],?_,bf (l:=[]) trivial (W:=aK) (N:=1) (k:=6) (ms:=[false]) ?_ ha trivial⟩
  ·intro l hl;rcases List.mem_cons.1 hl with rfl | hl
   ·exact bh
   cases hl
  ·refine (Xx _ a).trans ?_;simp only [bP Nat.one_pos,ab,ae];by_cases h1:a<1<;>by_cases h2:a>256<;>simp [h1,h2,bO,cO]
 ·cases h
def Ed:fr:=fun ai R K=>match ai with
 | [.int .i64 a,.int .i64 b,.int .i64 c]=>K [.v (.int .i64 (S_ (if b<0\/b>a\/c<0\/c>a then 3 else if c<b then 11 else 0)))]
 | _=>none
theorem Ng:bG Tryz.prog 31 Ed:=by
 intro ai R K r ha h
 unfold Ed at h
 split at h
 ·rename_i a b c
  refine ⟨[.v (.int .i64 (if b<0\/b>a\/c<0\/c>a then 3 else if c<b then 11 else 0))],fun _ _=>by simp only [Ed,ab],?_,bf (l:=[]) trivial (W:=aK) (N:=1) (k:=6) (ms:=[false]) ?_ ha trivial⟩
  ·intro l hl;rcases List.mem_cons.1 hl with rfl | hl
   ·exact bh
   cases hl
  ·refine (Xy _ a b c).trans ?_;simp only [bP Nat.one_pos,ab,ae];by_cases h1:b<0<;>by_cases h2:b>a<;>by_cases h3:c<0<;>by_cases h4:c>a<;>by_cases h5:c<b<;>simp [h1,h2,h3,h4,h5,bO,cO]
 ·cases h
def Ll:fr:=fun ai R K=>match ai with
 | [.int .i64 a]=>K [.v (.int .i64 (S_ (if a<1\/a>2048 then 3 else 0)))]
 | _=>none
theorem PW:bG Tryz.prog 39 Ll:=by
 intro ai R K r ha h
 unfold Ll at h
 split at h
 ·rename_i a
  refine ⟨[.v (.int .i64 (if a<1\/a>2048 then 3 else 0))],fun _ _=>by simp only [Ll,ab],?_,bf (l:=[]) trivial (W:=aK) (N:=1) (k:=6) (ms:=[false]) ?_ ha trivial⟩
  ·intro l hl;rcases List.mem_cons.1 hl with rfl | hl
   ·exact bh
   cases hl
  ·refine (Xz _ a).trans ?_;simp only [bP Nat.one_pos,ab,ae];by_cases h1:a<1<;>by_cases h2:a>2048<;>simp [h1,h2,bO,cO]
 ·cases h
def Lm:fr:=fun ai R K=>match ai with
 | [.int .i64 a,.int .i64 b]=>K [.v (.int .i64 (S_ (if b<0\/b>a then 3 else 0)))]
 | _=>none
theorem PX:bG Tryz.prog 49 Lm:=by
 intro ai R K r ha h
 unfold Lm at h
 split at h
 ·rename_i a b
  refine ⟨[.v (.int .i64 (if b<0\/b>a then 3 else 0))],fun _ _=>by simp only [Lm,ab],?_,bf (l:=[]) trivial (W:=aK) (N:=1) (k:=6) (ms:=[false]) ?_ ha trivial⟩
  ·intro l hl;rcases List.mem_cons.1 hl with rfl | hl
   ·exact bh
   cases hl
  ·refine (XA _ a b).trans ?_;simp only [bP Nat.one_pos,ab,ae];by_cases h1:b<0<;>by_cases h2:b>a<;>simp [h1,h2,bO,cO]
 ·cases h
def yc:fr:=fun ai R K=>match ai with
 | [.int .i64 a,.int .i64 b,.int .i64 c]=>K [.v (.int .i64 (S_ (if a<b\/a>c then 3 else 0)))]
 | _=>none
theorem Jk:bG Tryz.prog 84 yc:=by
 intro ai R K r ha h
 unfold yc at h
 split at h
 ·rename_i a b c
  refine ⟨[.v (.int .i64 (if a<b\/a>c then 3 else 0))],fun _ _=>by simp only [yc,ab],?_,bf (l:=[]) trivial (W:=aK) (N:=1) (k:=6) (ms:=[false]) ?_ ha trivial⟩
  ·intro l hl;rcases List.mem_cons.1 hl with rfl | hl
   ·exact bh
   cases hl
  ·refine (XB _ a b c).trans ?_;simp only [bP Nat.one_pos,ab,ae];by_cases h1:a<b<;>by_cases h2:a>c<;>simp [h1,h2,bO,cO]
 ·cases h
def Ee:fr:=fun ai R K=>match ai with
 | [.list n cs]=>gO (S_ (decide (jD n cs))) (K [.v (.int .i64 (S_ (D9 n (aB cs))))])
 | _=>none
theorem Nh:bG Tryz.prog 68 Ee:=by
 intro ai R K r ha h
 unfold Ee at h
 split at h
 ·rename_i n cs
  obtain ⟨h1,h2⟩:=aD h
  rw [ab] at h1
  have bM:=of_decide_eq_true h1
  refine ⟨[.v (.int .i64 (D9 n (aB cs)))],fun _ _=>by simp only [Ee,ab,decide_eq_true bM,gO],?_,bf (l:=[]) trivial (W:=aK) (N:=n+1) (k:=6) (ms:=[false]) ?_ ha trivial⟩
  ·intro l hl;rcases List.mem_cons.1 hl with rfl | hl
   ·exact bh
   cases hl
  ·exact TM bM
 ·cases h
def wX:fr:=fun ai R K=>match ai with
 | [.list n cs]=>gO (S_ (decide (bu n cs))) (K [.v (.int .i64 (S_ (aY n (fO cs))))])
 | _=>none
theorem PY:bG Tryz.prog 22 wX:=by
 intro ai R K r ha h
 unfold wX at h
 split at h
 ·rename_i n cs
  obtain ⟨h1,h2⟩:=aD h
  rw [ab] at h1
  have bM:=of_decide_eq_true h1
  refine ⟨[.v (.int .i64 (aY n (fO cs)))],fun _ _=>by simp only [wX,ab,decide_eq_true bM,gO],?_,bf (l:=[]) trivial (W:=aK) (N:=n+1) (k:=6) (ms:=[false]) ?_ ha trivial⟩
  ·intro l hl;rcases List.mem_cons.1 hl with rfl | hl
   ·exact bh
   cases hl
  ·exact TN bM
 ·cases h
theorem PZ:bG Tryz.prog 83 wX:=by
 intro ai R K r ha h
 unfold wX at h
 split at h
 ·rename_i n cs
  obtain ⟨h1,h2⟩:=aD h
  rw [ab] at h1
  have bM:=of_decide_eq_true h1
  refine ⟨[.v (.int .i64 (aY n (fO cs)))],fun _ _=>by simp only [wX,ab,decide_eq_true bM,gO],?_,bf (l:=[]) trivial (W:=aK) (N:=n+1) (k:=6) (ms:=[false]) ?_ ha trivial⟩
  ·intro l hl;rcases List.mem_cons.1 hl with rfl | hl
   ·exact bh
   cases hl
  ·exact TO bM
 ·cases h
def Ef:fr:=fun ai R K=>match ai with
 | [.list n cs]=>K [.v (.bool (S_ (M9 n 64 4096)))]
 | _=>none
theorem Ni:bG Tryz.prog 17 Ef:=by
 intro ai R K r ha h
 unfold Ef at h
 split at h
 ·rename_i n cs
  refine ⟨[.v (.bool (M9 n 64 4096))],fun _ _=>by simp only [Ef,ab],?_,bf (l:=[]) trivial (W:=aK) (N:=0) (k:=6) (ms:=[false]) ?_ ha trivial⟩
  ·intro l hl;rcases List.mem_cons.1 hl with rfl | hl
   ·exact dz
   cases hl
  ·refine (XC _ n cs).trans ?_;simp only [ab,ae,M9];by_cases h1:(n:Int)<=64<;>by_cases h2:(n:Int)>4096<;>simp [h1,h2,bO]
 ·cases h
def oN:fr:=fun ai R K=>match ai with
 | [.int .i64 a]=>K [.v (.int .i64 (S_ (if a<0 then 0 else a))),.v (.int .i64 (S_ (if a<0 then 7 else 0)))]
 | _=>none
theorem Nj:bG Tryz.prog 50 oN:=by
 intro ai R K r ha h
 unfold oN at h
 split at h
 ·rename_i a
  refine ⟨[.v (.int .i64 (if a<0 then 0 else a)),.v (.int .i64 (if a<0 then 7 else 0))],fun _ _=>by simp only [oN,ab],?_,bf (l:=[]) trivial (W:=aK) (N:=0) (k:=6) (ms:=[false,false]) ?_ ha trivial⟩
  ·intro l hl;rcases List.mem_cons.1 hl with rfl | hl
   ·exact bh
   rcases List.mem_cons.1 hl with rfl | hl
   ·exact bh
   cases hl
  ·refine (XD _ a).trans ?_;simp only [ab,ae];by_cases h1:a<0<;>simp [h1]
 ·cases h
theorem Nk:bG Tryz.prog 96 oN:=by
 intro ai R K r ha h
 unfold oN at h
 split at h
 ·rename_i a
  refine ⟨[.v (.int .i64 (if a<0 then 0 else a)),.v (.int .i64 (if a<0 then 7 else 0))],fun _ _=>by simp only [oN,ab],?_,bf (l:=[]) trivial (W:=aK) (N:=0) (k:=6) (ms:=[false,false]) ?_ ha trivial⟩
  ·intro l hl;rcases List.mem_cons.1 hl with rfl | hl
   ·exact bh
   rcases List.mem_cons.1 hl with rfl | hl
   ·exact bh
   cases hl
  ·refine (XE _ a).trans ?_;simp only [ab,ae];by_cases h1:a<0<;>simp [h1]
 ·cases h
def mz1:List (FuncId × fr):=[(82,oM),(138,oM),(87,wW),(126,wW),(86,xM),(127,xM),(41,xM),(104,yb),(60,D'),(71,D_),(76,Ea),(61,Eb),(62,TY),(23,Ec),(31,Ed),(39,Ll),(49,Lm),(84,yc),(68,Ee),(22,wX),(83,wX),(17,Ef),(50,oN),(96,oN)]
theorem XF:eZ Tryz.prog mz1:=⟨M',Jj,PU,M_,TU,PV,TW,GF,Na,Nb,Nc,Nd,TZ,Nf,Ng,PW,PX,Jk,Nh,PY,PZ,Ni,Nj,Nk,trivial⟩
end Go.Abs
end
noncomputable section
namespace Go.Abs
open Go.Proofs Classical
def XQ (d:Int):Int:=if d<0 then IntKind.i64.wrap (IntKind.i64.wrap (-2*d)-1) else IntKind.i64.wrap (2*d)
def XR (z:Int):Int:=if z.tmod 2=1 then IntKind.i64.wrap ((IntKind.i64.wrap (0-IntKind.i64.wrap (z+1))).tdiv 2) else IntKind.i64.wrap (z.tdiv 2)
def Ud:fr:=fun ai R K=>match ai with
 | [.int .i64 a]=>K [.v (.int .i64 (S_ (XQ a)))]
 | _=>none
theorem P4:bG Tryz.prog 118 Ud:=by
 intro ai R K r ha h
 unfold Ud at h
 split at h
 ·rename_i a
  refine ⟨[.v (.int .i64 (XQ a))],fun _ _=>by simp only [Ud,ab],?_,bf (l:=[]) trivial (W:=aK) (N:=1) (k:=6) (ms:=[false]) ?_ ha trivial⟩
  ·intro l hl;rcases List.mem_cons.1 hl with rfl | hl
   ·exact bh
   cases hl
  ·refine (Ue _ a).trans ?_;simp only [ab,ae,XQ];by_cases h1:a<0<;>simp [h1]
 ·cases h
def Uf:fr:=fun ai R K=>match ai with
 | [.int .i64 a]=>K [.v (.int .i64 (S_ (XR a)))]
 | _=>none
theorem P5:bG Tryz.prog 119 Uf:=by
 intro ai R K r ha h
 unfold Uf at h
 split at h
 ·rename_i a
  refine ⟨[.v (.int .i64 (XR a))],fun _ _=>by simp only [Uf,ab],?_,bf (l:=[]) trivial (W:=aK) (N:=1) (k:=6) (ms:=[false]) ?_ ha trivial⟩
  ·intro l hl;rcases List.mem_cons.1 hl with rfl | hl
   ·exact bh
   cases hl
  ·refine (Ug _ a).trans ?_;simp only [ab,jN,aj,XR];by_cases h1:a.tmod 2=1<;>simp [h1]
 ·cases h
def OI:List (FuncId × fr):=(118,Ud)::(119,Uf)::mz1
theorem u_:eZ Tryz.prog OI:=⟨P4,P5,XF⟩
end Go.Abs
end
