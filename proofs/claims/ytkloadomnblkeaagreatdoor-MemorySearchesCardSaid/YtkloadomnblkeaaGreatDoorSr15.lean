/- Part 15 of the library that the proof of the statement uses: an abstract run of the program, proved right, and what its functions give. -/
import Derived.Test.YtkloadomnblkeaaGreatDoorSr13
import Derived.Test.YtkloadomnblkeaaGreatDoorSr14
set_option linter.unusedVariables false
set_option linter.unusedSimpArgs false

set_option maxRecDepth 100000
noncomputable section
namespace Go.Abs
open Go.Proofs Classical Go.Abs.Fin
theorem run_129 (N:Nat) (o:Option Nat):(fsM mzC waysP N 12).call (List RLeaf) 129 [.ofB (.flo .f32 o)] [] (resK [false])=(
 some ([RLeaf.v (AV.agg [AV.flo Go.FloatKind.f32 (S_ (clean1 o)),AV.flo Go.FloatKind.f32 (S_ (clean1 o))])])):=by kernel_rfl
theorem run_130 (N:Nat) (a b c d:Option Nat):(fsM mzC waysP N 12).call (List RLeaf) 130 [.s (.agg [.b (.flo .f32 a),.b (.flo .f32 b)]),.s (.agg [.b (.flo .f32 c),.b (.flo .f32 d)])] [] (resK [false])=(
 bO (minFO Go.FloatKind.f32 Go.FloatKind.f32 a c) fun v0=>
 bO (maxFO Go.FloatKind.f32 Go.FloatKind.f32 b d) fun v1=>
 some ([RLeaf.v (AV.agg [AV.flo Go.FloatKind.f32 v0,AV.flo Go.FloatKind.f32 v1])])):=by kernel_rfl
theorem run_132 (N:Nat) (a b:Option Nat):(fsM mzC waysP N 12).call (List RLeaf) 132 [.s (.agg [.b (.flo .f32 a),.b (.flo .f32 b)])] [] (resK [false])=(
 some ([RLeaf.v (AV.agg [AV.flo Go.FloatKind.f32 a,AV.flo Go.FloatKind.f32 b])])):=by kernel_rfl
theorem run_129' {o:Option Nat}:(fsM mzC waysP 1 12).call (List RLeaf) 129 [.ofB (.flo .f32 o)] [] (resK [false])=some [.v (.agg [.flo .f32 (clean1 o),.flo .f32 (clean1 o)])]:=by
 rw [run_129];simp only [shut_eq]
theorem run_132' {a b:Option Nat}:(fsM mzC waysP 1 12).call (List RLeaf) 132 [.s (.agg [.b (.flo .f32 a),.b (.flo .f32 b)])] [] (resK [false])=some [.v (.agg [.flo .f32 a,.flo .f32 b])]:=run_132 1 a b
theorem run_130' {a b c d:Option Nat} (ha:finB a=true) (hb:finB b=true) (hc:finB c=true) (hd:finB d=true):
  (fsM mzC waysP 1 12).call (List RLeaf) 130 [.s (.agg [.b (.flo .f32 a),.b (.flo .f32 b)]),.s (.agg [.b (.flo .f32 c),.b (.flo .f32 d)])] [] (resK [false])=some [.v (.agg [.flo .f32 (minO a c),.flo .f32 (maxO b d)])]:=by
 rw [run_130];simp only [(minO_fin ha hc).1,(maxO_fin hb hd).1,bindO_ok]
def eSingle:Ent:=fun args' R K=>match args' with
 | [.flo .f32 o]=>K [.v (.agg [.flo .f32 (S_ (clean1 o)),.flo .f32 (S_ (clean1 o))])]
 | _=>none
theorem eSingle_129:EntOk Tryz.prog 129 eSingle:=by
 intro args' R K r ha h
 unfold eSingle at h
 split at h
 ·rename_i o
  refine ⟨[.v (.agg [.flo .f32 (clean1 o),.flo .f32 (clean1 o)])],fun _ _=>by simp only [eSingle,shut_eq],?_,con_of mzC_ok (W:=waysP) (N:=1) (k:=12) (ms:=[false]) ?_ ha trivial⟩
  ·intro l hl;rcases List.mem_cons.1 hl with rfl | hl
   ·exact (leaf_agg (cells_ff _ _))
   cases hl
  ·exact run_129'
 ·cases h
def eSelfP:Ent:=fun args' R K=>match args' with
 | [.agg [.flo .f32 a,.flo .f32 b]]=>K [.v (.agg [.flo .f32 (S_ (a)),.flo .f32 (S_ (b))])]
 | _=>none
theorem eSelfP_132:EntOk Tryz.prog 132 eSelfP:=by
 intro args' R K r ha h
 unfold eSelfP at h
 split at h
 ·rename_i a b
  refine ⟨[.v (.agg [.flo .f32 (a),.flo .f32 (b)])],fun _ _=>by simp only [eSelfP,shut_eq],?_,con_of mzC_ok (W:=waysP) (N:=1) (k:=12) (ms:=[false]) ?_ ha trivial⟩
  ·intro l hl;rcases List.mem_cons.1 hl with rfl | hl
   ·exact (leaf_agg (cells_ff _ _))
   cases hl
  ·exact run_132'
 ·cases h
def eJoinP:Ent:=fun args' R K=>match args' with
 | [.agg [.flo .f32 a,.flo .f32 b],.agg [.flo .f32 c,.flo .f32 d]]=>gO (S_ (decide (finB a=true/\finB b=true/\finB c=true/\finB d=true))) (K [.v (.agg [.flo .f32 (S_ (minO a c)),.flo .f32 (S_ (maxO b d))])])
 | _=>none
theorem eJoinP_130:EntOk Tryz.prog 130 eJoinP:=by
 intro args' R K r ha h
 unfold eJoinP at h
 split at h
 ·rename_i a b c d
  obtain ⟨h1,h2⟩:=guardO_some h
  rw [shut_eq] at h1
  have h1':=of_decide_eq_true h1
  refine ⟨[.v (.agg [.flo .f32 (minO a c),.flo .f32 (maxO b d)])],fun _ _=>by simp only [eJoinP,shut_eq,decide_eq_true h1',gO],?_,con_of mzC_ok (W:=waysP) (N:=1) (k:=12) (ms:=[false]) ?_ ha trivial⟩
  ·intro l hl;rcases List.mem_cons.1 hl with rfl | hl
   ·exact (leaf_agg (cells_ff _ _))
   cases hl
  ·exact run_130' h1'.1 h1'.2.1 h1'.2.2.1 h1'.2.2.2
 ·cases h
def mzH:List (FuncId × Ent):=(129,eSingle)::(132,eSelfP)::(130,eJoinP)::mzC
theorem mzH_ok:TabLOk Tryz.prog mzH:=⟨eSingle_129,eSelfP_132,eJoinP_130,mzC_ok⟩
end Go.Abs
end
