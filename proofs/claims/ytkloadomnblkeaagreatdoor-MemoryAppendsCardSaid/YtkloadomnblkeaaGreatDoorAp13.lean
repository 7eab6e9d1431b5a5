/- Part 13 of the library of the proof: an abstract run of the program. -/
import Derived.Test.YtkloadomnblkeaaGreatDoorAp10
import Derived.Test.YtkloadomnblkeaaGreatDoorAp12
set_option linter.unusedVariables false
set_option linter.unusedSimpArgs false

noncomputable section
namespace Go.Abs
open Classical Go.RowKit
structure Nums (k:IntKind) (n:Nat) (cs:List AV):Prop where
 lt:n<9223372036854775808
 eq:cs=(intsOf cs).map (AV.int k)
 len:cs.length=n
section
variable {k : IntKind} {n m : Nat} {cs ds : List AV}
theorem Nums.il (h:Nums k n cs):(intsOf cs).length=n:=by simp [intsOf,h.len]
theorem Nums.get (h:Nums k n cs) {i:Nat} (hi:i<n):asInt k (cs.getD i .top)=some ((intsOf cs).getD i 0):=by
 have h4:=h.il
 have h5:i<(intsOf cs).length:=by omega
 rw [List.getD_eq_getElem?_getD,List.getD_eq_getElem?_getD]
 conv=>lhs;rw [h.eq]
 simp [h5,asInt]
def numsL (k:IntKind) (xs:List Int):List AV:=xs.map (AV.int k)
theorem numsL_app {xs ys:List Int}:numsL k (xs++ys)=numsL k xs++numsL k ys:=by simp [numsL]
theorem numsL_plain {xs:List Int}:∀ c∈numsL k xs,PlainC c:=by
 intro c hc
 obtain ⟨z,_,rfl⟩:=List.mem_map.1 hc
 exact .int _ _
theorem same_nums (h:Nums k n cs) (h':Nums k m ds) {N:Nat} (hN:n<N):(
 cO (S_ ((↑n:Int) != (↑m:Int)))
 (
 some ([RLeaf.v (AV.bool false)]))
 (
 loopC N (fun r_1 (x0_1:Nat) (x1_1:List AV) (x2_1:Nat) (x3_1:List AV) (x4_1:Int)=>
 cO (S_ (decide (x4_1<(↑x0_1:Int))))
 (
 gO (S_ (decide ((0:Int)<=x4_1/\x4_1<(↑x0_1:Int)/\0<x1_1.length)))<|
 bO (asInt k (x1_1.getD (x4_1.toNat*1) AV.top)) fun v4=>
 gO (S_ (decide ((0:Int)<=x4_1/\x4_1<(↑x2_1:Int)/\0<x3_1.length)))<|
 bO (asInt k (x3_1.getD (x4_1.toNat*1) AV.top)) fun v6=>
 cO (S_ (v4 != v6))
 (
 some ([RLeaf.v (AV.bool false)]))
 (
 r_1 (x0_1) (x1_1) (x2_1) (x3_1) (S_ (IntKind.i64.wrap (x4_1+(1:Int))))))
 (
 some ([RLeaf.v (AV.bool true)])))
 (fun _ _ _ _ _=>none) (n) (cs) (m) (ds) ((0:Int))))=some [.v (.bool (decide (intsOf cs=intsOf ds)))]:=by
 simp only [shut_eq,condO_bne,Int.ofNat_inj]
 by_cases hnm:n=m
 ·subst hnm
  rw [if_pos rfl]
  refine loopC_rule (fun k' (r:Nat->List AV->Nat->List AV->Int->Option (List RLeaf))=>∀ i:Nat,i+k'=n->r n cs n ds (i:Int)=some [RLeaf.v (.bool (decide ((intsOf cs).drop i=(intsOf ds).drop i)))]) ?_ N n hN 0 (by omega)
  intro k' r ih i hi
  by_cases hk:i<n
  ·have h2:0<cs.length:=by rw [h.len];omega
   have h3:0<ds.length:=by rw [h'.len];omega
   rw [drop_cons (xs:=intsOf cs) (d:=0) (show i<(intsOf cs).length by rw [h.il];exact hk),drop_cons (xs:=intsOf ds) (d:=0) (show i<(intsOf ds).length by rw [h'.il];exact hk)]
   simp only [shut_eq,condO_dec,condO_bne,guardO_dec,Int.ofNat_lt,hk,h2,h3,if_true,Int.toNat_natCast,Nat.mul_one,h.get hk,h'.get hk,bindO_ok,idx64 h.lt hk,ih (k' - 1) (by omega) (i+1) (by omega),and_true,Int.natCast_nonneg,true_and,List.cons.injEq]
   by_cases hz:(intsOf cs).getD i 0=(intsOf ds).getD i 0<;>simp only [hz,if_true,if_false,true_and,false_and,decide_false]
  ·have h2:(intsOf cs).drop i=[]:=by rw [List.drop_eq_nil_iff,h.il];omega
   have h3:(intsOf ds).drop i=[]:=by rw [List.drop_eq_nil_iff,h'.il];omega
   simp only [shut_eq,condO_dec,Int.ofNat_lt,hk,h2,h3,if_false,decide_true]
 ·rw [if_neg hnm]
  have:intsOf cs≠intsOf ds:=fun e=>hnm (by rw [←h.il,e,h'.il])
  simp only [this,decide_false]
theorem first_ints (h:Ints n cs) {N:Nat} (hN:n<N):(
 loopC N (fun r_0 (x0_0:Nat) (x1_0:List AV) (x2_0:Int) (x3_0:Int)=>
 cO (S_ (decide (x3_0<x2_0)))
 (
 gO (S_ (decide ((0:Int)<=x3_0/\x3_0<(↑x0_0:Int)/\0<x1_0.length)))<|
 bO (asInt IntKind.i64 (x1_0.getD (x3_0.toNat*1) AV.top)) fun v3=>
 cO (S_ (v3 != (0:Int)))
 (
 some ([RLeaf.v (AV.int IntKind.i64 v3)]))
 (
 r_0 (x0_0) (x1_0) (x2_0) (S_ (IntKind.i64.wrap (x3_0+(1:Int))))))
 (
 some ([RLeaf.v (AV.int IntKind.i64 (0:Int))])))
 (fun _ _ _ _=>none) (n) (cs) ((↑n:Int)) ((0:Int)))=some [.v (.int .i64 (firstNZ (intsOf cs)))]:=by
 refine loopC_rule (fun k (r:Nat->List AV->Int->Int->Option (List RLeaf))=>∀ i:Nat,i+k=n->r n cs (n:Int) (i:Int)=some [RLeaf.v (.int .i64 (firstNZ ((intsOf cs).drop i)))]) ?_ N n hN 0 (by omega)
 intro k r ih i hi
 by_cases hk:i<n
 ·have h2:0<cs.length:=by rw [h.2.2];omega
  rw [drop_cons (d:=0) (show i<(intsOf cs).length by rw [h.len];exact hk)]
  simp only [shut_eq,condO_dec,condO_bne,guardO_dec,Int.ofNat_lt,hk,h2,if_true,Int.toNat_natCast,Nat.mul_one,h.get hk,bindO_ok,idx64 h.1 hk,ih (k-1) (by omega) (i+1) (by omega),and_true,Int.natCast_nonneg,true_and,firstNZ]
  by_cases hz:(intsOf cs).getD i 0=0<;>simp only [hz,if_true,if_false]
 ·have h2:(intsOf cs).drop i=[]:=by rw [List.drop_eq_nil_iff,h.len];omega
  simp only [shut_eq,condO_dec,Int.ofNat_lt,hk,h2,firstNZ,if_false]
end
end Go.Abs
end
noncomputable section
namespace Go.Abs
open Go.Proofs Classical
def codesE (n:Nat) (xs:List Int):Int:=if n>4096 then 5 else if xs.all (fun z=>decide (0<=z/\z<=4095)) then 0 else 3
theorem run_68' {n:Nat} {cs:List AV} (h:Ints n cs):(fsM [] waysP (n+1) 6).call (List RLeaf) 68 [.ofB (.list n cs)] [] (resK [false])=some [.v (.int .i64 (codesE n (intsOf cs)))]:=by
 rw [run_68]
 simp only [shut_eq,condO_dec,codesE]
 by_cases h0:n>4096
 ·rw [if_pos (by omega),if_pos h0]
 rw [if_neg (by omega),if_neg h0]
 refine loopC_rule (fun k (r:Nat->List AV->Int->Option (List RLeaf))=>∀ i:Nat,i+k=n->r n cs (i:Int)=some [RLeaf.v (.int .i64 (if ((intsOf cs).drop i).all (fun z=>decide (0<=z/\z<=4095)) then 0 else 3))]) ?_ (n+1) n (by omega) 0 (by omega)
 intro k r ih i hi
 by_cases hk:i<n
 ·have h2:0<cs.length:=by rw [h.2.2];omega
  rw [drop_cons (d:=0) (show i<(intsOf cs).length by rw [h.len];exact hk)]
  simp only [joinC_pos (Nat.succ_pos n),shut_eq,condO_dec,condO_not,guardO_dec,Int.ofNat_lt,hk,h2,if_true,Int.toNat_natCast,Nat.mul_one,h.get hk,bindO_ok,idx64 h.1 hk,ih (k-1) (by omega) (i+1) (by omega),and_true,Int.natCast_nonneg,true_and,List.all_cons,Bool.and_eq_true,decide_eq_true_eq]
  generalize (intsOf cs).getD i 0=z
  by_cases h3:z<0
  ·simp [h3,cO,bO,show ¬ 0<=z by omega]
  ·by_cases h4:z>4095
   ·simp [h3,h4,cO,bO,show ¬ z<=4095 by omega]
   ·simp [h3,h4,cO,bO,show 0<=z by omega,show z<=4095 by omega]
 ·have h2:(intsOf cs).drop i=[]:=by rw [List.drop_eq_nil_iff,h.len];omega
  simp only [shut_eq,condO_dec,Int.ofNat_lt,hk,h2,if_false,List.all_nil,if_true]
theorem run_22' {n:Nat} {cs:List AV} (h:Flos n cs):(fsM [] waysP (n+1) 6).call (List RLeaf) 22 [.ofB (.list n cs)] [] (resK [false])=some [.v (.int .i64 (sampErr n (fO cs)))]:=by
 rw [run_22]
 simp only [shut_eq,condO_dec,sampErr]
 by_cases h0:n>4096
 ·rw [if_pos (by omega),if_pos h0]
 rw [if_neg (by omega),if_neg h0]
 refine loopC_rule (fun k (r:Nat->List AV->Int->Option (List RLeaf))=>∀ i:Nat,i+k=n->r n cs (i:Int)=some [RLeaf.v (.int .i64 (if ((fO cs).drop i).all finB then 0 else 1))]) ?_ (n+1) n (by omega) 0 (by omega)
 intro k r ih i hi
 by_cases hk:i<n
 ·have h2:0<cs.length:=by rw [h.2.2];omega
  rw [drop_cons (d:=none) (show i<(fO cs).length by rw [h.len];exact hk)]
  simp only [shut_eq,condO_dec,condO_not,guardO_dec,Int.ofNat_lt,hk,h2,if_true,Int.toNat_natCast,Nat.mul_one,h.get hk,bindO_ok,idx64 h.1 hk,ih (k-1) (by omega) (i+1) (by omega),and_true,Int.natCast_nonneg,true_and,List.all_cons,Bool.and_eq_true]
  rw [show (ordO .f32 (arithO .sub .f32 ((fO cs).getD i none) ((fO cs).getD i none)) (some 0)==some .eq)=finB ((fO cs).getD i none) from rfl]
  by_cases hz:finB ((fO cs).getD i none)=true<;>simp only [hz,if_true,if_false,true_and,false_and,Bool.false_eq_true]
 ·have h2:(fO cs).drop i=[]:=by rw [List.drop_eq_nil_iff,h.len];omega
  simp only [shut_eq,condO_dec,Int.ofNat_lt,hk,h2,if_false,List.all_nil,if_true]
theorem run_83' {n:Nat} {cs:List AV} (h:Flos n cs):(fsM [] waysP (n+1) 6).call (List RLeaf) 83 [.ofB (.list n cs)] [] (resK [false])=some [.v (.int .i64 (sampErr n (fO cs)))]:=by
 rw [run_83]
 simp only [shut_eq,condO_dec,sampErr]
 by_cases h0:n>4096
 ·rw [if_pos (by omega),if_pos h0]
 rw [if_neg (by omega),if_neg h0]
 refine loopC_rule (fun k (r:Nat->List AV->Int->Int->Option (List RLeaf))=>∀ i:Nat,i+k=n->r n cs (n:Int) (i:Int)=some [RLeaf.v (.int .i64 (if ((fO cs).drop i).all finB then 0 else 1))]) ?_ (n+1) n (by omega) 0 (by omega)
 intro k r ih i hi
 by_cases hk:i<n
 ·have h2:0<cs.length:=by rw [h.2.2];omega
  rw [drop_cons (d:=none) (show i<(fO cs).length by rw [h.len];exact hk)]
  simp only [shut_eq,condO_dec,condO_bne,condO_not,guardO_dec,Int.ofNat_lt,hk,h2,if_true,Int.toNat_natCast,Nat.mul_one,h.get hk,bindO_ok,idx64 h.1 hk,ih (k-1) (by omega) (i+1) (by omega),and_true,Int.natCast_nonneg,true_and,List.all_cons,Bool.and_eq_true]
  rw [show (ordO .f32 (arithO .sub .f32 ((fO cs).getD i none) ((fO cs).getD i none)) (some 0)==some .eq)=finB ((fO cs).getD i none) from rfl]
  generalize finB ((fO cs).getD i none)=z
  cases z<;>simp
 ·have h2:(fO cs).drop i=[]:=by rw [List.drop_eq_nil_iff,h.len];omega
  simp only [shut_eq,condO_dec,Int.ofNat_lt,hk,h2,if_false,List.all_nil,if_true]
theorem run_61' {n m:Nat} {cs ds:List AV} (h:Flos n cs) (h':Flos m ds):(fsM [] waysP (n+1) 6).call (List RLeaf) 61 [.ofB (.list n cs),.ofB (.list m ds)] [] (resK [false])=some [.v (.bool (sameF (fO cs) (fO ds)))]:=by
 rw [run_61]
 simp only [shut_eq,condO_bne,Int.ofNat_inj,sameF,h.len,h'.len]
 by_cases hnm:n=m
 ·subst hnm
  rw [if_pos rfl,beq_self_eq_true,Bool.true_and]
  refine loopC_rule (fun k (r:Nat->List AV->Nat->List AV->Int->Option (List RLeaf))=>∀ i:Nat,i+k=n->r n cs n ds (i:Int)=some [RLeaf.v (.bool (((List.range n).drop i).all fun i=>ordO .f32 ((fO cs).getD i none) ((fO ds).getD i none)==some .eq))]) ?_ (n+1) n (by omega) 0 (by omega)
  intro k r ih i hi
  by_cases hk:i<n
  ·have h2:0<cs.length:=by rw [h.2.2];omega
   have h3:0<ds.length:=by rw [h'.2.2];omega
   rw [range_all_drop hk]
   simp only [shut_eq,condO_dec,condO_ordne,guardO_dec,Int.ofNat_lt,hk,h2,h3,if_true,Int.toNat_natCast,Nat.mul_one,h.get hk,h'.get hk,bindO_ok,idx64 h.1 hk,ih (k-1) (by omega) (i+1) (by omega),and_true,Int.natCast_nonneg,true_and]
   by_cases hz:ordO .f32 ((fO cs).getD i none) ((fO ds).getD i none)=some .eq
   ·rw [if_pos hz,beq_iff_eq.mpr hz,Bool.true_and]
   ·rw [if_neg hz,beq_eq_false_iff_ne.mpr hz,Bool.false_and]
  ·have h2:(List.range n).drop i=[]:=by rw [List.drop_eq_nil_iff,List.length_range];omega
   simp only [shut_eq,condO_dec,Int.ofNat_lt,hk,h2,if_false,List.all_nil]
 ·rw [if_neg hnm,beq_eq_false_iff_ne.mpr hnm,Bool.false_and]
def lenB (a b c:Int):Bool:=decide (a<=b\/(a>c/\a<=IntKind.i64.wrap (c+2)))
def eFirst:Ent:=fun args' R K=>match args' with
 | [.list n cs]=>gO (S_ (decide (Ints n cs))) (K [.v (.int .i64 (S_ (firstNZ (intsOf cs))))])
 | _=>none
theorem eFirst_82:EntOk Tryz.prog 82 eFirst:=by
 intro args' R K r ha h
 unfold eFirst at h
 split at h
 ·rename_i n cs
  obtain ⟨h1,h2⟩:=guardO_some h
  rw [shut_eq] at h1
  have h1':=of_decide_eq_true h1
  refine ⟨[.v (.int .i64 (firstNZ (intsOf cs)))],fun _ _=>by simp only [eFirst,shut_eq,decide_eq_true h1',gO],?_,con_of (l:=[]) trivial (W:=waysP) (N:=n+1) (k:=6) (ms:=[false]) ?_ ha trivial⟩
  ·intro l hl;rcases List.mem_cons.1 hl with rfl | hl
   ·exact leaf_int
   cases hl
  ·exact (run_82 _ _ _).trans (first_ints h1' (by omega))
 ·cases h
theorem eFirst_138:EntOk Tryz.prog 138 eFirst:=by
 intro args' R K r ha h
 unfold eFirst at h
 split at h
 ·rename_i n cs
  obtain ⟨h1,h2⟩:=guardO_some h
  rw [shut_eq] at h1
  have h1':=of_decide_eq_true h1
  refine ⟨[.v (.int .i64 (firstNZ (intsOf cs)))],fun _ _=>by simp only [eFirst,shut_eq,decide_eq_true h1',gO],?_,con_of (l:=[]) trivial (W:=waysP) (N:=n+1) (k:=6) (ms:=[false]) ?_ ha trivial⟩
  ·intro l hl;rcases List.mem_cons.1 hl with rfl | hl
   ·exact leaf_int
   cases hl
  ·exact (run_138 _ _ _).trans (first_ints h1' (by omega))
 ·cases h
def eWhen:Ent:=fun args' R K=>match args' with
 | [.bool b,.int .i64 a]=>K [.v (.int .i64 (S_ (if b=true then a else 0)))]
 | _=>none
theorem eWhen_87:EntOk Tryz.prog 87 eWhen:=by
 intro args' R K r ha h
 unfold eWhen at h
 split at h
 ·rename_i b a
  refine ⟨[.v (.int .i64 (if b=true then a else 0))],fun _ _=>by simp only [eWhen,shut_eq],?_,con_of (l:=[]) trivial (W:=waysP) (N:=0) (k:=6) (ms:=[false]) ?_ ha trivial⟩
  ·intro l hl;rcases List.mem_cons.1 hl with rfl | hl
   ·exact leaf_int
   cases hl
  ·refine (run_87 _ b a).trans ?_;cases b<;>rfl
 ·cases h
theorem eWhen_126:EntOk Tryz.prog 126 eWhen:=by
 intro args' R K r ha h
 unfold eWhen at h
 split at h
 ·rename_i b a
  refine ⟨[.v (.int .i64 (if b=true then a else 0))],fun _ _=>by simp only [eWhen,shut_eq],?_,con_of (l:=[]) trivial (W:=waysP) (N:=0) (k:=6) (ms:=[false]) ?_ ha trivial⟩
  ·intro l hl;rcases List.mem_cons.1 hl with rfl | hl
   ·exact leaf_int
   cases hl
  ·refine (run_126 _ b a).trans ?_;cases b<;>rfl
 ·cases h
def eFin:Ent:=fun args' R K=>match args' with
 | [.flo .f32 o]=>K [.v (.bool (S_ (finB o)))]
 | _=>none
theorem eFin_86:EntOk Tryz.prog 86 eFin:=by
 intro args' R K r ha h
 unfold eFin at h
 split at h
 ·rename_i o
  refine ⟨[.v (.bool (finB o))],fun _ _=>by simp only [eFin,shut_eq],?_,con_of (l:=[]) trivial (W:=waysP) (N:=0) (k:=6) (ms:=[false]) ?_ ha trivial⟩
  ·intro l hl;rcases List.mem_cons.1 hl with rfl | hl
   ·exact leaf_bool
   cases hl
  ·refine (run_86 _ o).trans ?_;simp only [shut_eq,finB]
 ·cases h
theorem eFin_127:EntOk Tryz.prog 127 eFin:=by
 intro args' R K r ha h
 unfold eFin at h
 split at h
 ·rename_i o
  refine ⟨[.v (.bool (finB o))],fun _ _=>by simp only [eFin,shut_eq],?_,con_of (l:=[]) trivial (W:=waysP) (N:=0) (k:=6) (ms:=[false]) ?_ ha trivial⟩
  ·intro l hl;rcases List.mem_cons.1 hl with rfl | hl
   ·exact leaf_bool
   cases hl
  ·refine (run_127 _ o).trans ?_;simp only [shut_eq,finB]
 ·cases h
theorem eFin_41:EntOk Tryz.prog 41 eFin:=by
 intro args' R K r ha h
 unfold eFin at h
 split at h
 ·rename_i o
  refine ⟨[.v (.bool (finB o))],fun _ _=>by simp only [eFin,shut_eq],?_,con_of (l:=[]) trivial (W:=waysP) (N:=0) (k:=6) (ms:=[false]) ?_ ha trivial⟩
  ·intro l hl;rcases List.mem_cons.1 hl with rfl | hl
   ·exact leaf_bool
   cases hl
  ·refine (run_41 _ o).trans ?_;simp only [shut_eq,finB]
 ·cases h
def eClean1:Ent:=fun args' R K=>match args' with
 | [.flo .f32 o]=>K [.v (.flo .f32 (S_ (clean1 o)))]
 | _=>none
theorem eClean1_104:EntOk Tryz.prog 104 eClean1:=by
 intro args' R K r ha h
 unfold eClean1 at h
 split at h
 ·rename_i o
  refine ⟨[.v (.flo .f32 (clean1 o))],fun _ _=>by simp only [eClean1,shut_eq],?_,con_of (l:=[]) trivial (W:=waysP) (N:=0) (k:=6) (ms:=[false]) ?_ ha trivial⟩
  ·intro l hl;rcases List.mem_cons.1 hl with rfl | hl
   ·exact leaf_flo
   cases hl
  ·refine (run_104 _ o).trans ?_;simp only [shut_eq,condO_ord,clean1];split<;>rfl
 ·cases h
def eSameI:Ent:=fun args' R K=>match args' with
 | [.list n cs,.list m ds]=>gO (S_ (decide (Nums .i64 n cs/\Nums .i64 m ds))) (K [.v (.bool (S_ (decide (intsOf cs=intsOf ds))))])
 | _=>none
theorem eSameI_60:EntOk Tryz.prog 60 eSameI:=by
 intro args' R K r ha h
 unfold eSameI at h
 split at h
 ·rename_i n cs m ds
  obtain ⟨h1,h2⟩:=guardO_some h
  rw [shut_eq] at h1
  have h1':=of_decide_eq_true h1
  refine ⟨[.v (.bool (decide (intsOf cs=intsOf ds)))],fun _ _=>by simp only [eSameI,shut_eq,decide_eq_true h1',gO],?_,con_of (l:=[]) trivial (W:=waysP) (N:=n+1) (k:=6) (ms:=[false]) ?_ ha trivial⟩
  ·intro l hl;rcases List.mem_cons.1 hl with rfl | hl
   ·exact leaf_bool
   cases hl
  ·exact (run_60 _ _ _ _ _).trans (same_nums h1'.1 h1'.2 (by omega))
 ·cases h
def eSameB:Ent:=fun args' R K=>match args' with
 | [.list n cs,.list m ds]=>gO (S_ (decide (Nums .u8 n cs/\Nums .u8 m ds))) (K [.v (.bool (S_ (decide (intsOf cs=intsOf ds))))])
 | _=>none
theorem eSameB_71:EntOk Tryz.prog 71 eSameB:=by
 intro args' R K r ha h
 unfold eSameB at h
 split at h
 ·rename_i n cs m ds
  obtain ⟨h1,h2⟩:=guardO_some h
  rw [shut_eq] at h1
  have h1':=of_decide_eq_true h1
  refine ⟨[.v (.bool (decide (intsOf cs=intsOf ds)))],fun _ _=>by simp only [eSameB,shut_eq,decide_eq_true h1',gO],?_,con_of (l:=[]) trivial (W:=waysP) (N:=n+1) (k:=6) (ms:=[false]) ?_ ha trivial⟩
  ·intro l hl;rcases List.mem_cons.1 hl with rfl | hl
   ·exact leaf_bool
   cases hl
  ·exact (run_71 _ _ _ _ _).trans (same_nums h1'.1 h1'.2 (by omega))
 ·cases h
def eSameW:Ent:=fun args' R K=>match args' with
 | [.list n cs,.list m ds]=>gO (S_ (decide (Nums .u16 n cs/\Nums .u16 m ds))) (K [.v (.bool (S_ (decide (intsOf cs=intsOf ds))))])
 | _=>none
theorem eSameW_76:EntOk Tryz.prog 76 eSameW:=by
 intro args' R K r ha h
 unfold eSameW at h
 split at h
 ·rename_i n cs m ds
  obtain ⟨h1,h2⟩:=guardO_some h
  rw [shut_eq] at h1
  have h1':=of_decide_eq_true h1
  refine ⟨[.v (.bool (decide (intsOf cs=intsOf ds)))],fun _ _=>by simp only [eSameW,shut_eq,decide_eq_true h1',gO],?_,con_of (l:=[]) trivial (W:=waysP) (N:=n+1) (k:=6) (ms:=[false]) ?_ ha trivial⟩
  ·intro l hl;rcases List.mem_cons.1 hl with rfl | hl
   ·exact leaf_bool
   cases hl
  ·exact (run_76 _ _ _ _ _).trans (same_nums h1'.1 h1'.2 (by omega))
 ·cases h
def eSameF:Ent:=fun args' R K=>match args' with
 | [.list n cs,.list m ds]=>gO (S_ (decide (Flos n cs/\Flos m ds))) (K [.v (.bool (S_ (sameF (fO cs) (fO ds))))])
 | _=>none
theorem eSameF_61:EntOk Tryz.prog 61 eSameF:=by
 intro args' R K r ha h
 unfold eSameF at h
 split at h
 ·rename_i n cs m ds
  obtain ⟨h1,h2⟩:=guardO_some h
  rw [shut_eq] at h1
  have h1':=of_decide_eq_true h1
  refine ⟨[.v (.bool (sameF (fO cs) (fO ds)))],fun _ _=>by simp only [eSameF,shut_eq,decide_eq_true h1',gO],?_,con_of (l:=[]) trivial (W:=waysP) (N:=n+1) (k:=6) (ms:=[false]) ?_ ha trivial⟩
  ·intro l hl;rcases List.mem_cons.1 hl with rfl | hl
   ·exact leaf_bool
   cases hl
  ·exact run_61' h1'.1 h1'.2
 ·cases h
def eLen:Ent:=fun args' R K=>match args' with
 | [.int .i64 a,.int .i64 b,.int .i64 c]=>K [.v (.bool (S_ (lenB a b c)))]
 | _=>none
theorem eLen_62:EntOk Tryz.prog 62 eLen:=by
 intro args' R K r ha h
 unfold eLen at h
 split at h
 ·rename_i a b c
  refine ⟨[.v (.bool (lenB a b c))],fun _ _=>by simp only [eLen,shut_eq],?_,con_of (l:=[]) trivial (W:=waysP) (N:=1) (k:=6) (ms:=[false]) ?_ ha trivial⟩
  ·intro l hl;rcases List.mem_cons.1 hl with rfl | hl
   ·exact leaf_bool
   cases hl
  ·refine (run_62 _ a b c).trans ?_;simp only [joinC_pos Nat.one_pos,shut_eq,condO_dec,lenB];by_cases h1:a<=b<;>by_cases h2:a>c<;>simp [h1,h2,bO]
 ·cases h
def eBlock:Ent:=fun args' R K=>match args' with
 | [.int .i64 a]=>K [.v (.int .i64 (S_ (if a<1\/a>256 then 3 else 0)))]
 | _=>none
theorem eBlock_23:EntOk Tryz.prog 23 eBlock:=by
 intro args' R K r ha h
 unfold eBlock at h
 split at h
 ·rename_i a
  refine ⟨[.v (.int .i64 (if a<1\/a>256 then 3 else 0))],fun _ _=>by simp only [eBlock,shut_eq],?_,con_of (l:=[]) trivial (W:=waysP) (N:=1) (k:=6) (ms:=[false]) ?_ ha trivial⟩
  ·intro l hl;rcases List.mem_cons.1 hl with rfl | hl
   ·exact leaf_int
   cases hl
  ·refine (run_23 _ a).trans ?_;simp only [joinC_pos Nat.one_pos,shut_eq,condO_dec];by_cases h1:a<1<;>by_cases h2:a>256<;>simp [h1,h2,bO,cO]
 ·cases h
def eRange:Ent:=fun args' R K=>match args' with
 | [.int .i64 a,.int .i64 b,.int .i64 c]=>K [.v (.int .i64 (S_ (if b<0\/b>a\/c<0\/c>a then 3 else if c<b then 11 else 0)))]
 | _=>none
theorem eRange_31:EntOk Tryz.prog 31 eRange:=by
 intro args' R K r ha h
 unfold eRange at h
 split at h
 ·rename_i a b c
  refine ⟨[.v (.int .i64 (if b<0\/b>a\/c<0\/c>a then 3 else if c<b then 11 else 0))],fun _ _=>by simp only [eRange,shut_eq],?_,con_of (l:=[]) trivial (W:=waysP) (N:=1) (k:=6) (ms:=[false]) ?_ ha trivial⟩
  ·intro l hl;rcases List.mem_cons.1 hl with rfl | hl
   ·exact leaf_int
   cases hl
  ·refine (run_31 _ a b c).trans ?_;simp only [joinC_pos Nat.one_pos,shut_eq,condO_dec];by_cases h1:b<0<;>by_cases h2:b>a<;>by_cases h3:c<0<;>by_cases h4:c>a<;>by_cases h5:c<b<;>simp [h1,h2,h3,h4,h5,bO,cO]
 ·cases h
def eCols:Ent:=fun args' R K=>match args' with
 | [.int .i64 a]=>K [.v (.int .i64 (S_ (if a<1\/a>2048 then 3 else 0)))]
 | _=>none
theorem eCols_39:EntOk Tryz.prog 39 eCols:=by
 intro args' R K r ha h
 unfold eCols at h
 split at h
 ·rename_i a
  refine ⟨[.v (.int .i64 (if a<1\/a>2048 then 3 else 0))],fun _ _=>by simp only [eCols,shut_eq],?_,con_of (l:=[]) trivial (W:=waysP) (N:=1) (k:=6) (ms:=[false]) ?_ ha trivial⟩
  ·intro l hl;rcases List.mem_cons.1 hl with rfl | hl
   ·exact leaf_int
   cases hl
  ·refine (run_39 _ a).trans ?_;simp only [joinC_pos Nat.one_pos,shut_eq,condO_dec];by_cases h1:a<1<;>by_cases h2:a>2048<;>simp [h1,h2,bO,cO]
 ·cases h
def eFrom:Ent:=fun args' R K=>match args' with
 | [.int .i64 a,.int .i64 b]=>K [.v (.int .i64 (S_ (if b<0\/b>a then 3 else 0)))]
 | _=>none
theorem eFrom_49:EntOk Tryz.prog 49 eFrom:=by
 intro args' R K r ha h
 unfold eFrom at h
 split at h
 ·rename_i a b
  refine ⟨[.v (.int .i64 (if b<0\/b>a then 3 else 0))],fun _ _=>by simp only [eFrom,shut_eq],?_,con_of (l:=[]) trivial (W:=waysP) (N:=1) (k:=6) (ms:=[false]) ?_ ha trivial⟩
  ·intro l hl;rcases List.mem_cons.1 hl with rfl | hl
   ·exact leaf_int
   cases hl
  ·refine (run_49 _ a b).trans ?_;simp only [joinC_pos Nat.one_pos,shut_eq,condO_dec];by_cases h1:b<0<;>by_cases h2:b>a<;>simp [h1,h2,bO,cO]
 ·cases h
def eWithin:Ent:=fun args' R K=>match args' with
 | [.int .i64 a,.int .i64 b,.int .i64 c]=>K [.v (.int .i64 (S_ (if a<b\/a>c then 3 else 0)))]
 | _=>none
theorem eWithin_84:EntOk Tryz.prog 84 eWithin:=by
 intro args' R K r ha h
 unfold eWithin at h
 split at h
 ·rename_i a b c
  refine ⟨[.v (.int .i64 (if a<b\/a>c then 3 else 0))],fun _ _=>by simp only [eWithin,shut_eq],?_,con_of (l:=[]) trivial (W:=waysP) (N:=1) (k:=6) (ms:=[false]) ?_ ha trivial⟩
  ·intro l hl;rcases List.mem_cons.1 hl with rfl | hl
   ·exact leaf_int
   cases hl
  ·refine (run_84 _ a b c).trans ?_;simp only [joinC_pos Nat.one_pos,shut_eq,condO_dec];by_cases h1:a<b<;>by_cases h2:a>c<;>simp [h1,h2,bO,cO]
 ·cases h
def eCodes:Ent:=fun args' R K=>match args' with
 | [.list n cs]=>gO (S_ (decide (Ints n cs))) (K [.v (.int .i64 (S_ (codesE n (intsOf cs))))])
 | _=>none
theorem eCodes_68:EntOk Tryz.prog 68 eCodes:=by
 intro args' R K r ha h
 unfold eCodes at h
 split at h
 ·rename_i n cs
  obtain ⟨h1,h2⟩:=guardO_some h
  rw [shut_eq] at h1
  have h1':=of_decide_eq_true h1
  refine ⟨[.v (.int .i64 (codesE n (intsOf cs)))],fun _ _=>by simp only [eCodes,shut_eq,decide_eq_true h1',gO],?_,con_of (l:=[]) trivial (W:=waysP) (N:=n+1) (k:=6) (ms:=[false]) ?_ ha trivial⟩
  ·intro l hl;rcases List.mem_cons.1 hl with rfl | hl
   ·exact leaf_int
   cases hl
  ·exact run_68' h1'
 ·cases h
def eSamp:Ent:=fun args' R K=>match args' with
 | [.list n cs]=>gO (S_ (decide (Flos n cs))) (K [.v (.int .i64 (S_ (sampErr n (fO cs))))])
 | _=>none
theorem eSamp_22:EntOk Tryz.prog 22 eSamp:=by
 intro args' R K r ha h
 unfold eSamp at h
 split at h
 ·rename_i n cs
  obtain ⟨h1,h2⟩:=guardO_some h
  rw [shut_eq] at h1
  have h1':=of_decide_eq_true h1
  refine ⟨[.v (.int .i64 (sampErr n (fO cs)))],fun _ _=>by simp only [eSamp,shut_eq,decide_eq_true h1',gO],?_,con_of (l:=[]) trivial (W:=waysP) (N:=n+1) (k:=6) (ms:=[false]) ?_ ha trivial⟩
  ·intro l hl;rcases List.mem_cons.1 hl with rfl | hl
   ·exact leaf_int
   cases hl
  ·exact run_22' h1'
 ·cases h
theorem eSamp_83:EntOk Tryz.prog 83 eSamp:=by
 intro args' R K r ha h
 unfold eSamp at h
 split at h
 ·rename_i n cs
  obtain ⟨h1,h2⟩:=guardO_some h
  rw [shut_eq] at h1
  have h1':=of_decide_eq_true h1
  refine ⟨[.v (.int .i64 (sampErr n (fO cs)))],fun _ _=>by simp only [eSamp,shut_eq,decide_eq_true h1',gO],?_,con_of (l:=[]) trivial (W:=waysP) (N:=n+1) (k:=6) (ms:=[false]) ?_ ha trivial⟩
  ·intro l hl;rcases List.mem_cons.1 hl with rfl | hl
   ·exact leaf_int
   cases hl
  ·exact run_83' h1'
 ·cases h
def eShort:Ent:=fun args' R K=>match args' with
 | [.list n cs]=>K [.v (.bool (S_ (lenB n 64 4096)))]
 | _=>none
theorem eShort_17:EntOk Tryz.prog 17 eShort:=by
 intro args' R K r ha h
 unfold eShort at h
 split at h
 ·rename_i n cs
  refine ⟨[.v (.bool (lenB n 64 4096))],fun _ _=>by simp only [eShort,shut_eq],?_,con_of (l:=[]) trivial (W:=waysP) (N:=0) (k:=6) (ms:=[false]) ?_ ha trivial⟩
  ·intro l hl;rcases List.mem_cons.1 hl with rfl | hl
   ·exact leaf_bool
   cases hl
  ·refine (run_17 _ n cs).trans ?_;simp only [shut_eq,condO_dec,lenB];by_cases h1:(n:Int)<=64<;>by_cases h2:(n:Int)>4096<;>simp [h1,h2,bO]
 ·cases h
def eFound:Ent:=fun args' R K=>match args' with
 | [.int .i64 a]=>K [.v (.int .i64 (S_ (if a<0 then 0 else a))),.v (.int .i64 (S_ (if a<0 then 7 else 0)))]
 | _=>none
theorem eFound_50:EntOk Tryz.prog 50 eFound:=by
 intro args' R K r ha h
 unfold eFound at h
 split at h
 ·rename_i a
  refine ⟨[.v (.int .i64 (if a<0 then 0 else a)),.v (.int .i64 (if a<0 then 7 else 0))],fun _ _=>by simp only [eFound,shut_eq],?_,con_of (l:=[]) trivial (W:=waysP) (N:=0) (k:=6) (ms:=[false,false]) ?_ ha trivial⟩
  ·intro l hl;rcases List.mem_cons.1 hl with rfl | hl
   ·exact leaf_int
   rcases List.mem_cons.1 hl with rfl | hl
   ·exact leaf_int
   cases hl
  ·refine (run_50 _ a).trans ?_;simp only [shut_eq,condO_dec];by_cases h1:a<0<;>simp [h1]
 ·cases h
theorem eFound_96:EntOk Tryz.prog 96 eFound:=by
 intro args' R K r ha h
 unfold eFound at h
 split at h
 ·rename_i a
  refine ⟨[.v (.int .i64 (if a<0 then 0 else a)),.v (.int .i64 (if a<0 then 7 else 0))],fun _ _=>by simp only [eFound,shut_eq],?_,con_of (l:=[]) trivial (W:=waysP) (N:=0) (k:=6) (ms:=[false,false]) ?_ ha trivial⟩
  ·intro l hl;rcases List.mem_cons.1 hl with rfl | hl
   ·exact leaf_int
   rcases List.mem_cons.1 hl with rfl | hl
   ·exact leaf_int
   cases hl
  ·refine (run_96 _ a).trans ?_;simp only [shut_eq,condO_dec];by_cases h1:a<0<;>simp [h1]
 ·cases h
def mz1:List (FuncId × Ent):=[(82,eFirst),(138,eFirst),(87,eWhen),(126,eWhen),(86,eFin),(127,eFin),(41,eFin),(104,eClean1),(60,eSameI),(71,eSameB),(76,eSameW),(61,eSameF),(62,eLen),(23,eBlock),(31,eRange),(39,eCols),(49,eFrom),(84,eWithin),(68,eCodes),(22,eSamp),(83,eSamp),(17,eShort),(50,eFound),(96,eFound)]
theorem mz1_ok:TabLOk Tryz.prog mz1:=⟨eFirst_82,eFirst_138,eWhen_87,eWhen_126,eFin_86,eFin_127,eFin_41,eClean1_104,eSameI_60,eSameB_71,eSameW_76,eSameF_61,eLen_62,eBlock_23,eRange_31,eCols_39,eFrom_49,eWithin_84,eCodes_68,eSamp_22,eSamp_83,eShort_17,eFound_50,eFound_96,trivial⟩
end Go.Abs
end
noncomputable section
namespace Go.Abs
open Go.Proofs Classical
def zigW (d:Int):Int:=if d<0 then IntKind.i64.wrap (IntKind.i64.wrap (-2*d)-1) else IntKind.i64.wrap (2*d)
def unzW (z:Int):Int:=if z.tmod 2=1 then IntKind.i64.wrap ((IntKind.i64.wrap (0-IntKind.i64.wrap (z+1))).tdiv 2) else IntKind.i64.wrap (z.tdiv 2)
def eZig:Ent:=fun args' R K=>match args' with
 | [.int .i64 a]=>K [.v (.int .i64 (S_ (zigW a)))]
 | _=>none
theorem eZig_118:EntOk Tryz.prog 118 eZig:=by
 intro args' R K r ha h
 unfold eZig at h
 split at h
 ·rename_i a
  refine ⟨[.v (.int .i64 (zigW a))],fun _ _=>by simp only [eZig,shut_eq],?_,con_of (l:=[]) trivial (W:=waysP) (N:=1) (k:=6) (ms:=[false]) ?_ ha trivial⟩
  ·intro l hl;rcases List.mem_cons.1 hl with rfl | hl
   ·exact leaf_int
   cases hl
  ·refine (run_118 _ a).trans ?_;simp only [shut_eq,condO_dec,zigW];by_cases h1:a<0<;>simp [h1]
 ·cases h
def eUnz:Ent:=fun args' R K=>match args' with
 | [.int .i64 a]=>K [.v (.int .i64 (S_ (unzW a)))]
 | _=>none
theorem eUnz_119:EntOk Tryz.prog 119 eUnz:=by
 intro args' R K r ha h
 unfold eUnz at h
 split at h
 ·rename_i a
  refine ⟨[.v (.int .i64 (unzW a))],fun _ _=>by simp only [eUnz,shut_eq],?_,con_of (l:=[]) trivial (W:=waysP) (N:=1) (k:=6) (ms:=[false]) ?_ ha trivial⟩
  ·intro l hl;rcases List.mem_cons.1 hl with rfl | hl
   ·exact leaf_int
   cases hl
  ·refine (run_119 _ a).trans ?_;simp only [shut_eq,condO_beq,guardO_dec,unzW];by_cases h1:a.tmod 2=1<;>simp [h1]
 ·cases h
def mz2:List (FuncId × Ent):=(118,eZig)::(119,eUnz)::mz1
theorem mz2_ok:TabLOk Tryz.prog mz2:=⟨eZig_118,eUnz_119,mz1_ok⟩
end Go.Abs
end
