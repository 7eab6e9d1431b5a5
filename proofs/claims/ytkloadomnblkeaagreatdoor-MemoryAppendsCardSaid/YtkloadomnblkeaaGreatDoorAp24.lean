/- Part 24 of the library of the proof: an abstract run of the program. -/
import Derived.Test.YtkloadomnblkeaaGreatDoorAp23
set_option linter.unusedVariables false
set_option linter.unusedSimpArgs false

noncomputable section
namespace Go.Abs
open Go.Proofs Classical Go.Abs.Fin
theorem take_two {xs:List (Option Nat)} {i:Nat} (h:2*i+2<=xs.length):xs.take (2*(i+1))=xs.take (2*i)++[xs.getD (2*i) none,xs.getD (2*i+1) none]:=by
 have e1:xs[2*i]?=some (xs.getD (2*i) none):=by rw [List.getD_eq_getElem?_getD,List.getElem?_eq_getElem (by omega)];rfl
 have e2:xs[2*i+1]?=some (xs.getD (2*i+1) none):=by rw [List.getD_eq_getElem?_getD,List.getElem?_eq_getElem (by omega)];rfl
 rw [show 2*(i+1)=2*i+1+1 by omega,List.take_add_one,List.take_add_one,e1,e2,List.append_assoc]
 rfl
theorem run_44' {n:Nat} {cs:List AV} (h:Flos (2*n) cs) (hn:n<=100000):(fsM mzJ waysP (n+1) 12).call (List RLeaf) 44 [.ofB (.list n cs)] [] (resK [true])=some [.fz n cs]:=by
 rw [run_44]
 have hl:=h.len
 have hcl:=h.2.2
 have hcs:flosL (fO cs)=cs:=h.2.1.symm
 refine loopC_rule (fun k (r:Nat->List AV->Int->Int->Nat->List AV->Nat->List AV->Option (List RLeaf))=>∀ (i:Nat) (x4:Nat) (x5:List AV),i+k=n->
  r n cs (n:Int) (i:Int) x4 x5 i (flosL ((fO cs).take (2*i)))=some [.fz n cs]) ?_ (n+1) n (by omega) 0 _ _ (by omega)
 intro k r ih i x4 x5 hi
 by_cases hk:i<n
 ·have ge1:=h.get (i:=2*i) (by omega)
  have ge2:=h.get (i:=2*i+1) (by omega)
  have wi:IntKind.i64.wrap ((i:Int)+1)=((i+1:Nat):Int):=by rw [wrap64]<;>omega
  have p0:0<cs.length:=by omega
  have p1:(2*i+2<=cs.length)=True:=eq_true (by omega)
  have hcm:i*2=2*i:=by omega
  have g5:((i+1)*9<=549755813888)=True:=eq_true (by omega)
  simp only [shut_eq,condO_dec,guardO_dec,Int.ofNat_lt,hk,p0,if_true,Int.natCast_nonneg,true_and,and_true,Int.toNat_natCast,hcm,p1,ge1,ge2,bindO_ok,wi,g5,put_pairN,←flosL_app]
  rw [←take_two (by omega)]
  exact ih (k-1) (by omega) (i+1) _ _ (by omega)
 ·simp only [shut_eq,condO_dec,Int.ofNat_lt,hk,if_false]
  have:i=n:=by omega
  subst this
  rw [List.take_of_length_le (by omega),hcs]
theorem flos2_plain {n:Nat} {cs:List AV} (h:Flos n cs):∀ c∈cs,PlainC c:=by
 rw [h.2.1];exact flosL_plain
end Go.Abs
end
