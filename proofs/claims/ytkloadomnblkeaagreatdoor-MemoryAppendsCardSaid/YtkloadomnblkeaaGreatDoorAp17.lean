/- Part 17 of the library of the proof: an abstract run of the program. -/
import Derived.Test.YtkloadomnblkeaaGreatDoorAp15
import Derived.Test.YtkloadomnblkeaaGreatDoorAp16
set_option linter.unusedVariables false
set_option linter.unusedSimpArgs false

noncomputable section
namespace Go.Abs
open Classical Go.Abs.Fin
def minO (a b:Option Nat):Option Nat:=(minFO .f32 .f32 a b).getD none
def maxO (a b:Option Nat):Option Nat:=(maxFO .f32 .f32 a b).getD none
theorem minO_fin {a b:Option Nat} (ha:finB a=true) (hb:finB b=true):minFO .f32 .f32 a b=some (minO a b)/\finB (minO a b)=true/\fkey (minO a b)=min (fkey a) (fkey b):=by
 obtain ⟨x,s,m,i,rfl,hx⟩:=fin_of ha
 obtain ⟨y,t,n,j,rfl,hy⟩:=fin_of hb
 have ho:Go.FloatKind.f32.format.order x y=some (compare (fkey (some x)) (fkey (some y))):=ord_key ha hb
 have e:minFO .f32 .f32 (some x) (some y)=(match compare (fkey (some x)) (fkey (some y)) with | .lt=>some (some x) | .gt=>some (some y) | .eq=>some (if (Go.FloatKind.f32.decode x).neg then some x else some y)):=by
  unfold minFO amin2
  simp only [ho]
  cases compare (fkey (some x)) (fkey (some y)) with
  | lt=>rfl
  | gt=>rfl
  | eq=>simp only [decide_true];split<;>rfl
 unfold minO
 rcases Int.lt_trichotomy (fkey (some x)) (fkey (some y)) with h | h | h
 ·rw [Int.compare_eq_lt.2 h] at e
  rw [e];exact ⟨rfl,ha,by show fkey (some x)=_;omega⟩
 ·rw [Int.compare_eq_eq.2 h] at e
  simp only at e
  rw [e]
  refine ⟨rfl,?_,?_⟩
  ·show finB (if _ then some x else some y)=true
   split
   ·exact ha
   ·exact hb
  ·show fkey (if _ then some x else some y)=_
   split<;>omega
 ·rw [Int.compare_eq_gt.2 h] at e
  rw [e];exact ⟨rfl,hb,by show fkey (some y)=_;omega⟩
theorem maxO_fin {a b:Option Nat} (ha:finB a=true) (hb:finB b=true):maxFO .f32 .f32 a b=some (maxO a b)/\finB (maxO a b)=true/\fkey (maxO a b)=max (fkey a) (fkey b):=by
 obtain ⟨x,s,m,i,rfl,hx⟩:=fin_of ha
 obtain ⟨y,t,n,j,rfl,hy⟩:=fin_of hb
 have ho:Go.FloatKind.f32.format.order x y=some (compare (fkey (some x)) (fkey (some y))):=ord_key ha hb
 have e:maxFO .f32 .f32 (some x) (some y)=(match compare (fkey (some x)) (fkey (some y)) with | .lt=>some (some y) | .gt=>some (some x) | .eq=>some (if (Go.FloatKind.f32.decode x).neg then some y else some x)):=by
  unfold maxFO amax2
  simp only [ho]
  cases compare (fkey (some x)) (fkey (some y)) with
  | lt=>rfl
  | gt=>rfl
  | eq=>simp only [decide_true];split<;>rfl
 unfold maxO
 rcases Int.lt_trichotomy (fkey (some x)) (fkey (some y)) with h | h | h
 ·rw [Int.compare_eq_lt.2 h] at e
  rw [e];exact ⟨rfl,hb,by show fkey (some y)=_;omega⟩
 ·rw [Int.compare_eq_eq.2 h] at e
  simp only at e
  rw [e]
  refine ⟨rfl,?_,?_⟩
  ·show finB (if _ then some y else some x)=true
   split
   ·exact hb
   ·exact ha
  ·show fkey (if _ then some y else some x)=_
   split<;>omega
 ·rw [Int.compare_eq_gt.2 h] at e
  rw [e];exact ⟨rfl,ha,by show fkey (some x)=_;omega⟩
theorem finB_clean {o:Option Nat} (h:finB o=true):finB (clean1 o)=true:=by
 unfold clean1
 split
 ·decide +kernel
 ·exact h
theorem sameF_clean {xs:List (Option Nat)} (h:∀ x∈xs,finB x=true):sameF (xs.map clean1) xs=true:=by
 unfold sameF
 simp only [List.length_map,beq_self_eq_true,Bool.true_and,List.all_eq_true,List.mem_range]
 intro i hi
 have e:(xs.map clean1).getD i none=clean1 (xs.getD i none):=by
  rw [List.getD_eq_getElem?_getD,List.getD_eq_getElem?_getD,List.getElem?_map,List.getElem?_eq_getElem hi];rfl
 have hf:finB (xs.getD i none)=true:=by
  rw [List.getD_eq_getElem?_getD,List.getElem?_eq_getElem hi];exact h _ (List.getElem_mem _)
 rw [e,beq_iff_eq,ord_eq (finB_clean hf) hf,key_clean hf]
end Go.Abs
end
set_option maxRecDepth 100000
noncomputable section
namespace Go.Abs
open Go.Proofs Classical Go.Abs.Fin
theorem run_129 (N:Nat) (o:Option Nat):(fsM mzC waysP N 12).call (List RLeaf) 129 [.ofB (.flo .f32 o)] [] (resK [false])=(
 some ([RLeaf.v (AV.agg [AV.flo Go.FloatKind.f32 (S_ (clean1 o)),AV.flo Go.FloatKind.f32 (S_ (clean1 o))])])):=by kernel_rfl
theorem run_130 (N:Nat) (a b c d:Option Nat):(fsM mzC waysP N 12).call (List RLeaf) 130 [.s (.agg [.b (.flo .f32 a),.b (.flo .f32 b)]),.s (.agg [.b (.flo .f32 c),.b (.flo .f32 d)])] [] (resK [false])=(
 bO (minFO Go.FloatKind.f32 Go.FloatKind.f32 a c) fun v0=>
 bO (maxFO Go.FloatKind.f32 Go.FloatKind.f32 b d) fun v1=>
 some ([RLeaf.v (AV.agg [AV.flo Go.FloatKind.f32 v0,AV.flo Go.FloatKind.f32 v1])])):=by kernel_rfl
theorem run_132 (N:Nat) (a b:Option Nat):(fsM mzC waysP N 12).call (List RLeaf) 132 [.s (.agg [.b (.flo .f32 a),.b (.flo .f32 b)])] [] (resK [false])=(
 some ([RLeaf.v (AV.agg [AV.flo Go.FloatKind.f32 a,AV.flo Go.FloatKind.f32 b])])):=by kernel_rfl
theorem run_129' {o:Option Nat}:(fsM mzC waysP 1 12).call (List RLeaf) 129 [.ofB (.flo .f32 o)] [] (resK [false])=some [.v (.agg [.flo .f32 (clean1 o),.flo .f32 (clean1 o)])]:=by
 rw [run_129];simp only [shut_eq]
theorem run_132' {a b:Option Nat}:(fsM mzC waysP 1 12).call (List RLeaf) 132 [.s (.agg [.b (.flo .f32 a),.b (.flo .f32 b)])] [] (resK [false])=some [.v (.agg [.flo .f32 a,.flo .f32 b])]:=run_132 1 a b
theorem run_130' {a b c d:Option Nat} (ha:finB a=true) (hb:finB b=true) (hc:finB c=true) (hd:finB d=true):
  (fsM mzC waysP 1 12).call (List RLeaf) 130 [.s (.agg [.b (.flo .f32 a),.b (.flo .f32 b)]),.s (.agg [.b (.flo .f32 c),.b (.flo .f32 d)])] [] (resK [false])=some [.v (.agg [.flo .f32 (minO a c),.flo .f32 (maxO b d)])]:=by
 rw [run_130];simp only [(minO_fin ha hc).1,(maxO_fin hb hd).1,bindO_ok]
def eSingle:Ent:=fun args' R K=>match args' with
 | [.flo .f32 o]=>K [.v (.agg [.flo .f32 (S_ (clean1 o)),.flo .f32 (S_ (clean1 o))])]
 | _=>none
theorem eSingle_129:EntOk Tryz.prog 129 eSingle:=by
 intro args' R K r ha h
 unfold eSingle at h
 split at h
 ·rename_i o
  refine ⟨[.v (.agg [.flo .f32 (clean1 o),.flo .f32 (clean1 o)])],fun _ _=>by simp only [eSingle,shut_eq],?_,con_of mzC_ok (W:=waysP) (N:=1) (k:=12) (ms:=[false]) ?_ ha trivial⟩
  ·intro l hl;rcases List.mem_cons.1 hl with rfl | hl
   ·exact (leaf_agg (cells_ff _ _))
   cases hl
  ·exact run_129'
 ·cases h
def eSelfP:Ent:=fun args' R K=>match args' with
 | [.agg [.flo .f32 a,.flo .f32 b]]=>K [.v (.agg [.flo .f32 (S_ (a)),.flo .f32 (S_ (b))])]
 | _=>none
theorem eSelfP_132:EntOk Tryz.prog 132 eSelfP:=by
 intro args' R K r ha h
 unfold eSelfP at h
 split at h
 ·rename_i a b
  refine ⟨[.v (.agg [.flo .f32 (a),.flo .f32 (b)])],fun _ _=>by simp only [eSelfP,shut_eq],?_,con_of mzC_ok (W:=waysP) (N:=1) (k:=12) (ms:=[false]) ?_ ha trivial⟩
  ·intro l hl;rcases List.mem_cons.1 hl with rfl | hl
   ·exact (leaf_agg (cells_ff _ _))
   cases hl
  ·exact run_132'
 ·cases h
def eJoinP:Ent:=fun args' R K=>match args' with
 | [.agg [.flo .f32 a,.flo .f32 b],.agg [.flo .f32 c,.flo .f32 d]]=>gO (S_ (decide (finB a=true/\finB b=true/\finB c=true/\finB d=true))) (K [.v (.agg [.flo .f32 (S_ (minO a c)),.flo .f32 (S_ (maxO b d))])])
 | _=>none
theorem eJoinP_130:EntOk Tryz.prog 130 eJoinP:=by
 intro args' R K r ha h
 unfold eJoinP at h
 split at h
 ·rename_i a b c d
  obtain ⟨h1,h2⟩:=guardO_some h
  rw [shut_eq] at h1
  have h1':=of_decide_eq_true h1
  refine ⟨[.v (.agg [.flo .f32 (minO a c),.flo .f32 (maxO b d)])],fun _ _=>by simp only [eJoinP,shut_eq,decide_eq_true h1',gO],?_,con_of mzC_ok (W:=waysP) (N:=1) (k:=12) (ms:=[false]) ?_ ha trivial⟩
  ·intro l hl;rcases List.mem_cons.1 hl with rfl | hl
   ·exact (leaf_agg (cells_ff _ _))
   cases hl
  ·exact run_130' h1'.1 h1'.2.1 h1'.2.2.1 h1'.2.2.2
 ·cases h
def mzH:List (FuncId × Ent):=(129,eSingle)::(132,eSelfP)::(130,eJoinP)::mzC
theorem mzH_ok:TabLOk Tryz.prog mzH:=⟨eSingle_129,eSelfP_132,eJoinP_130,mzC_ok⟩
end Go.Abs
end
