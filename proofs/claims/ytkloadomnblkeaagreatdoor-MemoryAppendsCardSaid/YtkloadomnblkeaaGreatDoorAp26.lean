/- Part 26 of the library of the proof: an abstract run of the program. -/
import Derived.Test.YtkloadomnblkeaaGreatDoorAp15
import Derived.Test.YtkloadomnblkeaaGreatDoorAp16
import Derived.Test.YtkloadomnblkeaaGreatDoorAp24
import Derived.Test.YtkloadomnblkeaaGreatDoorAp25
set_option linter.unusedVariables false
set_option linter.unusedSimpArgs false

noncomputable section
namespace Go.Abs
open Go.Proofs Classical Go.Abs.Fin
theorem samp_all {n:Nat} {xs:List (Option Nat)} (h:sampErr n xs=0):n<=4096/\∀ x∈xs,finB x=true:=by
 unfold sampErr at h
 split at h
 ·omega
 ·split at h
  ·rename_i h1 h2
   exact ⟨by omega,List.all_eq_true.1 h2⟩
  ·omega
end Go.Abs
end
noncomputable section
namespace Go.Abs
open Go.Proofs Classical Go.Abs.Fin
def extV (c:Ordering):Option Nat->List (Option Nat)->Option Nat
 | p,[]=>p
 | p,x::xs=>extV c (if ordO .f32 x p=some c then x else p) xs
theorem run_38' {n:Nat} {cs:List AV} (h:Flos n cs) (h0:0<n):(fsM mzC waysP (n+1) 12).call (List RLeaf) 38 [.ofB (.list n cs)] [] (resK [false])=
  some [.v (.agg [.flo .f32 (extV .lt ((fO cs).getD 0 none) (fO cs)),.flo .f32 (extV .gt ((fO cs).getD 0 none) (fO cs))])]:=by
 rw [run_38]
 have hl:=h.len
 have hcl:=h.2.2
 have hg0:asFloat .f32 (cs.getD 0 .top)=some ((fO cs).getD 0 none):=h.get h0
 simp only [shut_eq,guardO_dec,Int.le_refl,true_and,show ((0:Int)<(n:Int))=True from eq_true (by omega),show (0<cs.length)=True from eq_true (by omega),if_true,hg0,bindO_ok]
 refine loopC_rule (fun k (r:Nat->List AV->Int->Option Nat->Option Nat->Option Nat->Option Nat->Option (List RLeaf))=>∀ (i:Nat) (p q:Option Nat) (x3:Option Nat) (x4:Option Nat),i+k=n->
  r n cs (i:Int) x3 x4 p q=some [.v (.agg [.flo .f32 (extV .lt p ((fO cs).drop i)),.flo .f32 (extV .gt q ((fO cs).drop i))])]) ?_ (n+1) n (by omega) 0 _ _ _ _ (by omega)
 intro k r ih i p q x3 x4 hi
 by_cases hk:i<n
 ·rw [drop_cons (d:=none) (show i<(fO cs).length by omega),extV,extV]
  generalize hv:(fO cs).getD i none=x
  have hg:asFloat .f32 (cs.getD i .top)=some x:=by rw [h.get hk,hv]
  have h2:0<cs.length:=by omega
  simp only [shut_eq,condO_dec,condO_ord,guardO_dec,Int.ofNat_lt,hk,h2,if_true,Int.toNat_natCast,Nat.mul_one,hg,bindO_ok,and_true,true_and,Int.natCast_nonneg,idx64 h.1 hk,ih (n-(i+1)) (by omega) (i+1) _ _ _ _ (show i+1+(n-(i+1))=n by omega)]
  by_cases c1:ordO .f32 x p=some .lt<;>by_cases c2:ordO .f32 x q=some .gt<;>simp only [c1,c2,if_true,if_false]
 ·have hnil:(fO cs).drop i=[]:=by rw [List.drop_eq_nil_iff];omega
  simp only [shut_eq,condO_dec,Int.ofNat_lt,hk,if_false,hnil,extV]
end Go.Abs
end
noncomputable section
namespace Go.Abs
open Go.Proofs Classical
def ePairOf:Ent:=fun args' R K=>match args' with
 | [.list n cs]=>gO (S_ (decide (Flos n cs/\0<n))) (K [.v (.agg [.flo .f32 (S_ (extV .lt ((fO cs).getD 0 none) (fO cs))),.flo .f32 (S_ (extV .gt ((fO cs).getD 0 none) (fO cs)))])])
 | _=>none
theorem ePairOf_38:EntOk Tryz.prog 38 ePairOf:=by
 intro args' R K r ha h
 unfold ePairOf at h
 split at h
 ·rename_i n cs
  obtain ⟨h1,h2⟩:=guardO_some h
  rw [shut_eq] at h1
  have h1':=of_decide_eq_true h1
  refine ⟨[.v (.agg [.flo .f32 (extV .lt ((fO cs).getD 0 none) (fO cs)),.flo .f32 (extV .gt ((fO cs).getD 0 none) (fO cs))])],fun _ _=>by simp only [ePairOf,shut_eq,decide_eq_true h1',gO],?_,con_of mzC_ok (W:=waysP) (N:=n+1) (k:=12) (ms:=[false]) ?_ ha trivial⟩
  ·intro l hl;rcases List.mem_cons.1 hl with rfl | hl
   ·exact (leaf_agg (cells_ff _ _))
   cases hl
  ·exact run_38' h1'.1 h1'.2
 ·cases h
end Go.Abs
end
noncomputable section
namespace Go.Abs
open Go.Proofs Classical
def ePairs:Ent:=fun args' R K=>match args' with
 | [.list n cs]=>gO (S_ (decide (Flos (2*n) cs/\n<=100000))) (K [.fz (S_ (n)) (S_ (cs))])
 | _=>none
theorem ePairs_44:EntOk Tryz.prog 44 ePairs:=by
 intro args' R K r ha h
 unfold ePairs at h
 split at h
 ·rename_i n cs
  obtain ⟨h1,h2⟩:=guardO_some h
  rw [shut_eq] at h1
  have h1':=of_decide_eq_true h1
  refine ⟨[.fz (n) (cs)],fun _ _=>by simp only [ePairs,shut_eq,decide_eq_true h1',gO],?_,con_of mzJ_ok (W:=waysP) (N:=n+1) (k:=12) (ms:=[true]) ?_ ha ⟨(flos2_plain h1'.1),trivial⟩⟩
  ·intro l hl;rcases List.mem_cons.1 hl with rfl | hl
   ·exact (leaf_fz ((flos2_plain h1'.1)))
   cases hl
  ·exact run_44' h1'.1 h1'.2
 ·cases h
def mzK:List (FuncId × Ent):=(44,ePairs)::(38,ePairOf)::mzJ
theorem mzK_ok:TabLOk Tryz.prog mzK:=⟨ePairs_44,ePairOf_38,mzJ_ok⟩
end Go.Abs
end
