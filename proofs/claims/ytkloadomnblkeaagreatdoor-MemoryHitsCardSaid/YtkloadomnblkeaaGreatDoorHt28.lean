/- Part 28 of the library of the proof: an abstract run of the program. -/
import Derived.Test.YtkloadomnblkeaaGreatDoorHt27
set_option linter.unusedVariables false
set_option linter.unusedSimpArgs false

noncomputable section
namespace Go.Abs
open Go.Proofs Classical Go.Abs.Fin
def fu (ls:List AV) (i:Nat):List (Option Nat):=match ls.getD i .top with
 | .list _ cs=>fO cs
 | _=>[]
def wZ (m:Nat) (ls ks:List AV):Bool:=(List.range m).all fun i=>mD (fu ls i) (fu ks i)
theorem Uu {m q N:Nat} {ls ks:List AV} {b c:Int} (h:qd m ls) (h':qd q ks) (hN:m+5001<N):
  (dA H8 cQ N 12).call (List aa) 25 [.s (.agg [.b (.int .i64 b),.b (.list m ls)]),.s (.agg [.b (.int .i64 c),.b (.list q ks)])] [] (bp [false])=
  some [.v (.bool (decide (b=c)&&decide (m=q)&&wZ m ls ks))]:=by
 rw [XZ]
 have hl:=h.2.1
 have nJ:=h'.2.1
 have hm:=h.1
 simp only [ab,PL,ak]
 by_cases hbc:b=c
 case neg=>
  rw [bne_iff_ne.2 hbc,decide_eq_false hbc];rfl
 by_cases hmq:m=q
 case neg=>
  have:((m:Int) != (q:Int))=true:=bne_iff_ne.2 (by omega)
  rw [this,Bool.or_true,decide_eq_false hmq,Bool.and_false];rfl
 subst hbc hmq
 simp only [bne_self_eq_false,Bool.or_false,bH,decide_true,Bool.true_and]
 unfold wZ
 refine au (fun k (r:Int->Int->Nat->List AV->Int->Nat->List AV->Option (List aa))=>∀ (i:Nat),i+k=m->
  r (i:Int) b m ls b m ks=some [.v (.bool (((List.range m).drop i).all fun i=>mD (fu ls i) (fu ks i)))]) ?_ N m (by omega) 0 (by omega)
 intro k r ih i hi
 by_cases hk:i<m
 ·obtain ⟨n,cs,e1,e2,e3⟩:=h.get hk
  obtain ⟨n',ds,d1,d2,d3⟩:=h'.get hk
  have a1:fu ls i=fO cs:=by unfold fu;rw [e1]
  have a2:fu ks i=fO ds:=by unfold fu;rw [d1]
  rw [bV hk,a1,a2]
  have p0:0<ls.length:=by omega
  have p1:0<ks.length:=by omega
  have wi:IntKind.i64.wrap ((i:Int)+1)=((i+1:Nat):Int):=by rw [wrap64]<;>omega
  simp only [ab,ae,cr,aj,Int.ofNat_lt,hk,p0,p1,if_true,Int.natCast_nonneg,true_and,and_true,Int.toNat_natCast,Nat.mul_one,e1,d1,cJ,ak,Int.ofNat_inj]
  by_cases hnn:n=n'
  case neg=>
   have:mD (fO cs) (fO ds)=false:=by
    unfold mD
    rw [e2.len,d2.len,beq_eq_false_iff_ne.2 (by omega),Bool.false_and]
   rw [if_neg hnn,this,Bool.false_and]
  subst hnn
  rw [if_pos rfl]
  have hsf:mD (fO cs) (fO ds)=(List.range (2*n)).all fun t=>aM .f32 ((fO cs).getD t none) ((fO ds).getD t none)==some .eq:=by
   unfold mD
   rw [e2.len,d2.len,beq_self_eq_true,Bool.true_and]
  rw [hsf]
  have xW:=e2.2.2
  have hdl:=d2.2.2
  refine au (fun k2 (r2:Nat->List AV->Nat->List AV->Int->Int->Nat->List AV->Int->Nat->List AV->Option (List aa))=>∀ (j:Nat),j+k2=n->
   r2 n cs n ds (j:Int) b m ls b m ks=some [.v (.bool ((((List.range (2*n)).drop (2*j)).all fun t=>aM .f32 ((fO cs).getD t none) ((fO ds).getD t none)==some .eq)&&((List.range m).drop (i+1)).all fun i=>mD (fu ls i) (fu ks i)))]) ?_ N n (by omega) 0 (by omega)
  intro k2 r2 tr j hj
  by_cases iC:j<n
  ·have GJ:=e2.get (i:=2*j) (by omega)
   have GK:=e2.get (i:=2*j+1) (by omega)
   have gd1:=d2.get (i:=2*j) (by omega)
   have gd2:=d2.get (i:=2*j+1) (by omega)
   have wj:IntKind.i64.wrap ((j:Int)+1)=((j+1:Nat):Int):=by rw [wrap64]<;>omega
   have q0:0<cs.length:=by omega
   have q0':0<ds.length:=by omega
   have q1:(2*j+2<=cs.length)=True:=eq_true (by omega)
   have q1':(2*j+2<=ds.length)=True:=eq_true (by omega)
   have GL:j*2=2*j:=by omega
   rw [bV (show 2*j<2*n by omega),bV (show 2*j+1<2*n by omega)]
   simp only [ab,ae,fN,aj,Int.ofNat_lt,iC,q0,q0',if_true,Int.natCast_nonneg,true_and,and_true,Int.toNat_natCast,GL,q1,q1',GJ,GK,gd1,gd2,ak,wj,Bool.and_true]
   have:=tr (k2-1) (by omega) (j+1) (by omega)
   rw [show 2*(j+1)=2*j+1+1 by omega] at this
   rw [this]
   cases (aM .f32 ((fO cs).getD (2*j) none) ((fO ds).getD (2*j) none)==some .eq)<;>
   cases (aM .f32 ((fO cs).getD (2*j+1) none) ((fO ds).getD (2*j+1) none)==some .eq)<;>simp
  ·have hz:(List.range (2*n)).drop (2*j)=[]:=by rw [List.drop_eq_nil_iff,List.length_range];omega
   simp only [ab,ae,Int.ofNat_lt,iC,if_false,hz,List.all_nil,Bool.true_and,wi]
   exact ih (k-1) (by omega) (i+1) (by omega)
 ·have hz:(List.range m).drop i=[]:=by rw [List.drop_eq_nil_iff,List.length_range];omega
  simp only [ab,ae,Int.ofNat_lt,hk,if_false,hz,List.all_nil]
end Go.Abs
end
noncomputable section
namespace Go.Abs
open Go.Proofs Classical
def EM:fr:=fun ai R K=>match ai with
 | [.agg [.int .i64 b,.list m ls],.agg [.int .i64 c,.list q ks]]=>gO (S_ (decide (qd m ls/\qd q ks))) (K [.v (.bool (S_ (decide (b=c)&&decide (m=q)&&wZ m ls ks)))])
 | _=>none
theorem NN:bG Tryz.prog 25 EM:=by
 intro ai R K r ha h
 unfold EM at h
 split at h
 ·rename_i b m ls c q ks
  obtain ⟨h1,h2⟩:=aD h
  rw [ab] at h1
  have bM:=of_decide_eq_true h1
  refine ⟨[.v (.bool (decide (b=c)&&decide (m=q)&&wZ m ls ks))],fun _ _=>by simp only [EM,ab,decide_eq_true bM,gO],?_,bf o5 (W:=cQ) (N:=m+5002) (k:=12) (ms:=[false]) ?_ ha trivial⟩
  ·intro l hl;rcases List.mem_cons.1 hl with rfl | hl
   ·exact dz
   cases hl
  ·exact Uu bM.1 bM.2 (by omega)
 ·cases h
def mzM:List (FuncId × fr):=(25,EM)::mzL
theorem Rd:eZ Tryz.prog mzM:=⟨NN,aat⟩
end Go.Abs
end
noncomputable section
namespace Go.Abs
open Go.Proofs Classical Go.Abs.Fin
def Em (m:Nat) (ls:List AV):Bool:=decide (m<=12)&&(List.range m).all fun i=>decide ((fu ls i).length<=160)
def Uv (m:Nat) (ls:List AV):Prop:=ls.length=m/\∀ c∈ls,∃ k cs,c=AV.list k cs/\cs=(fO cs).map (AV.aL .f32)/\cs.length=2*k
theorem Uv.get {m:Nat} {ls:List AV} (h:Uv m ls) {i:Nat} (hi:i<m):∃ k cs,ls.getD i .top=.list k cs/\cs=(fO cs).map (AV.aL .f32)/\cs.length=2*k:=by
 have hl:=h.1
 have:ls.getD i .top∈ls:=by
  rw [List.getD_eq_getElem?_getD,List.getElem?_eq_getElem (by omega)];exact List.getElem_mem _
 exact h.2 _ this
theorem Jp {cs:List AV} (h:cs=(fO cs).map (AV.aL .f32)):(fO cs).length=cs.length:=by
 have:=congrArg List.length h
 rw [List.length_map] at this
 exact this.symm
theorem Uw {m:Nat} {ls:List AV} {b:Int} (h:Uv m ls):(dA H8 cQ (m+1) 12).call (List aa) 18 [.s (.agg [.b (.int .i64 b),.b (.list m ls)])] [] (bp [false])=some [.v (.bool (Em m ls))]:=by
 rw [X0]
 have hl:=h.1
 simp only [ab,ae]
 unfold Em
 by_cases h12:m>12
 ·rw [if_pos (by omega),decide_eq_false (by omega),Bool.false_and]
 rw [if_neg (by omega),decide_eq_true (by omega),Bool.true_and]
 refine au (fun k (r:Int->Int->Nat->List AV->Option (List aa))=>∀ (i:Nat),i+k=m->
  r (i:Int) b m ls=some [.v (.bool (((List.range m).drop i).all fun i=>decide ((fu ls i).length<=160)))]) ?_ (m+1) m (by omega) 0 (by omega)
 intro k r ih i hi
 by_cases hk:i<m
 ·obtain ⟨n,cs,e1,e2,e3⟩:=h.get hk
  have a1:(fu ls i).length=2*n:=by unfold fu;rw [e1];rw [←e3];exact Jp e2
  rw [bV hk,a1]
  have p0:0<ls.length:=by omega
  have wi:IntKind.i64.wrap ((i:Int)+1)=((i+1:Nat):Int):=by rw [wrap64]<;>omega
  simp only [ab,ae,aj,Int.ofNat_lt,hk,p0,if_true,Int.natCast_nonneg,true_and,and_true,Int.toNat_natCast,Nat.mul_one,e1,cJ,ak,wi,ih (k-1) (by omega) (i+1) (by omega)]
  by_cases h80:n>80
  ·rw [if_pos (by omega),decide_eq_false (by omega),Bool.false_and]
  ·rw [if_neg (by omega),decide_eq_true (by omega),Bool.true_and]
 ·have hz:(List.range m).drop i=[]:=by rw [List.drop_eq_nil_iff,List.length_range];omega
  simp only [ab,ae,Int.ofNat_lt,hk,if_false,hz,List.all_nil]
end Go.Abs
end
