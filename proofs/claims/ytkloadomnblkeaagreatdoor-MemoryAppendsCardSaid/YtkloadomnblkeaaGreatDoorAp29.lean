/- Part 29 of the library of the proof: an abstract run of the program. -/
import Derived.Test.YtkloadomnblkeaaGreatDoorAp28
set_option linter.unusedVariables false
set_option linter.unusedSimpArgs false

noncomputable section
namespace Go.Abs
open Go.Proofs Classical Go.Abs.Fin
def lvAt (ls:List AV) (i:Nat):List (Option Nat):=match ls.getD i .top with
 | .list _ cs=>fO cs
 | _=>[]
def sameT (m:Nat) (ls ks:List AV):Bool:=(List.range m).all fun i=>sameF (lvAt ls i) (lvAt ks i)
theorem run_25' {m q N:Nat} {ls ks:List AV} {b c:Int} (h:Lvs m ls) (h':Lvs q ks) (hN:m+5001<N):
  (fsM mzK waysQ N 12).call (List RLeaf) 25 [.s (.agg [.b (.int .i64 b),.b (.list m ls)]),.s (.agg [.b (.int .i64 c),.b (.list q ks)])] [] (resK [false])=
  some [.v (.bool (decide (b=c)&&decide (m=q)&&sameT m ls ks))]:=by
 rw [run_25]
 have hl:=h.2.1
 have hl':=h'.2.1
 have hm:=h.1
 simp only [shut_eq,condO_ts,bindO_ok]
 by_cases hbc:b=c
 case neg=>
  rw [bne_iff_ne.2 hbc,decide_eq_false hbc];rfl
 by_cases hmq:m=q
 case neg=>
  have:((m:Int) != (q:Int))=true:=bne_iff_ne.2 (by omega)
  rw [this,Bool.or_true,decide_eq_false hmq,Bool.and_false];rfl
 subst hbc hmq
 simp only [bne_self_eq_false,Bool.or_false,condO_fx,decide_true,Bool.true_and]
 unfold sameT
 refine loopC_rule (fun k (r:Int->Int->Nat->List AV->Int->Nat->List AV->Option (List RLeaf))=>∀ (i:Nat),i+k=m->
  r (i:Int) b m ls b m ks=some [.v (.bool (((List.range m).drop i).all fun i=>sameF (lvAt ls i) (lvAt ks i)))]) ?_ N m (by omega) 0 (by omega)
 intro k r ih i hi
 by_cases hk:i<m
 ·obtain ⟨n,cs,e1,e2,e3⟩:=h.get hk
  obtain ⟨n',ds,d1,d2,d3⟩:=h'.get hk
  have a1:lvAt ls i=fO cs:=by unfold lvAt;rw [e1]
  have a2:lvAt ks i=fO ds:=by unfold lvAt;rw [d1]
  rw [range_all_drop hk,a1,a2]
  have p0:0<ls.length:=by omega
  have p1:0<ks.length:=by omega
  have wi:IntKind.i64.wrap ((i:Int)+1)=((i+1:Nat):Int):=by rw [wrap64]<;>omega
  simp only [shut_eq,condO_dec,condO_bne,guardO_dec,Int.ofNat_lt,hk,p0,p1,if_true,Int.natCast_nonneg,true_and,and_true,Int.toNat_natCast,Nat.mul_one,e1,d1,asList_list,bindO_ok,Int.ofNat_inj]
  by_cases hnn:n=n'
  case neg=>
   have:sameF (fO cs) (fO ds)=false:=by
    unfold sameF
    rw [e2.len,d2.len,beq_eq_false_iff_ne.2 (by omega),Bool.false_and]
   rw [if_neg hnn,this,Bool.false_and]
  subst hnn
  rw [if_pos rfl]
  have hsf:sameF (fO cs) (fO ds)=(List.range (2*n)).all fun t=>ordO .f32 ((fO cs).getD t none) ((fO ds).getD t none)==some .eq:=by
   unfold sameF
   rw [e2.len,d2.len,beq_self_eq_true,Bool.true_and]
  rw [hsf]
  have hcl:=e2.2.2
  have hdl:=d2.2.2
  refine loopC_rule (fun k2 (r2:Nat->List AV->Nat->List AV->Int->Int->Nat->List AV->Int->Nat->List AV->Option (List RLeaf))=>∀ (j:Nat),j+k2=n->
   r2 n cs n ds (j:Int) b m ls b m ks=some [.v (.bool ((((List.range (2*n)).drop (2*j)).all fun t=>ordO .f32 ((fO cs).getD t none) ((fO ds).getD t none)==some .eq)&&((List.range m).drop (i+1)).all fun i=>sameF (lvAt ls i) (lvAt ks i)))]) ?_ N n (by omega) 0 (by omega)
  intro k2 r2 ih2 j hj
  by_cases hk2:j<n
  ·have ge1:=e2.get (i:=2*j) (by omega)
   have ge2:=e2.get (i:=2*j+1) (by omega)
   have gd1:=d2.get (i:=2*j) (by omega)
   have gd2:=d2.get (i:=2*j+1) (by omega)
   have wj:IntKind.i64.wrap ((j:Int)+1)=((j+1:Nat):Int):=by rw [wrap64]<;>omega
   have q0:0<cs.length:=by omega
   have q0':0<ds.length:=by omega
   have q1:(2*j+2<=cs.length)=True:=eq_true (by omega)
   have q1':(2*j+2<=ds.length)=True:=eq_true (by omega)
   have hcm:j*2=2*j:=by omega
   rw [range_all_drop (show 2*j<2*n by omega),range_all_drop (show 2*j+1<2*n by omega)]
   simp only [shut_eq,condO_dec,condO_not,guardO_dec,Int.ofNat_lt,hk2,q0,q0',if_true,Int.natCast_nonneg,true_and,and_true,Int.toNat_natCast,hcm,q1,q1',ge1,ge2,gd1,gd2,bindO_ok,wj,Bool.and_true]
   have:=ih2 (k2-1) (by omega) (j+1) (by omega)
   rw [show 2*(j+1)=2*j+1+1 by omega] at this
   rw [this]
   cases (ordO .f32 ((fO cs).getD (2*j) none) ((fO ds).getD (2*j) none)==some .eq)<;>
   cases (ordO .f32 ((fO cs).getD (2*j+1) none) ((fO ds).getD (2*j+1) none)==some .eq)<;>simp
  ·have hz:(List.range (2*n)).drop (2*j)=[]:=by rw [List.drop_eq_nil_iff,List.length_range];omega
   simp only [shut_eq,condO_dec,Int.ofNat_lt,hk2,if_false,hz,List.all_nil,Bool.true_and,wi]
   exact ih (k-1) (by omega) (i+1) (by omega)
 ·have hz:(List.range m).drop i=[]:=by rw [List.drop_eq_nil_iff,List.length_range];omega
  simp only [shut_eq,condO_dec,Int.ofNat_lt,hk,if_false,hz,List.all_nil]
end Go.Abs
end
noncomputable section
namespace Go.Abs
open Go.Proofs Classical
def eSameT:Ent:=fun args' R K=>match args' with
 | [.agg [.int .i64 b,.list m ls],.agg [.int .i64 c,.list q ks]]=>gO (S_ (decide (Lvs m ls/\Lvs q ks))) (K [.v (.bool (S_ (decide (b=c)&&decide (m=q)&&sameT m ls ks)))])
 | _=>none
theorem eSameT_25:EntOk Tryz.prog 25 eSameT:=by
 intro args' R K r ha h
 unfold eSameT at h
 split at h
 ·rename_i b m ls c q ks
  obtain ⟨h1,h2⟩:=guardO_some h
  rw [shut_eq] at h1
  have h1':=of_decide_eq_true h1
  refine ⟨[.v (.bool (decide (b=c)&&decide (m=q)&&sameT m ls ks))],fun _ _=>by simp only [eSameT,shut_eq,decide_eq_true h1',gO],?_,con_of mzK_ok (W:=waysQ) (N:=m+5002) (k:=12) (ms:=[false]) ?_ ha trivial⟩
  ·intro l hl;rcases List.mem_cons.1 hl with rfl | hl
   ·exact leaf_bool
   cases hl
  ·exact run_25' h1'.1 h1'.2 (by omega)
 ·cases h
def mzM:List (FuncId × Ent):=(25,eSameT)::mzL
theorem mzM_ok:TabLOk Tryz.prog mzM:=⟨eSameT_25,mzL_ok⟩
end Go.Abs
end
noncomputable section
namespace Go.Abs
open Go.Proofs Classical Go.Abs.Fin
def shortT (m:Nat) (ls:List AV):Bool:=decide (m<=12)&&(List.range m).all fun i=>decide ((lvAt ls i).length<=160)
def LvsW (m:Nat) (ls:List AV):Prop:=ls.length=m/\∀ c∈ls,∃ k cs,c=AV.list k cs/\cs=(fO cs).map (AV.flo .f32)/\cs.length=2*k
theorem LvsW.get {m:Nat} {ls:List AV} (h:LvsW m ls) {i:Nat} (hi:i<m):∃ k cs,ls.getD i .top=.list k cs/\cs=(fO cs).map (AV.flo .f32)/\cs.length=2*k:=by
 have hl:=h.1
 have:ls.getD i .top∈ls:=by
  rw [List.getD_eq_getElem?_getD,List.getElem?_eq_getElem (by omega)];exact List.getElem_mem _
 exact h.2 _ this
theorem flosOf_len {cs:List AV} (h:cs=(fO cs).map (AV.flo .f32)):(fO cs).length=cs.length:=by
 have:=congrArg List.length h
 rw [List.length_map] at this
 exact this.symm
theorem LvsW.short {m:Nat} {ls:List AV} (h:LvsW m ls) (hs:shortT m ls=true):Lvs m ls:=by
 unfold shortT at hs
 rw [Bool.and_eq_true,decide_eq_true_eq,List.all_eq_true] at hs
 refine ⟨by omega,h.1,fun c hc=>?_⟩
 obtain ⟨i,hi,rfl⟩:=List.mem_iff_getElem.1 hc
 have hi':i<m:=by rw [←h.1];exact hi
 obtain ⟨k,cs,e1,e2,e3⟩:=h.get hi'
 have hk:=hs.2 i (List.mem_range.2 hi')
 unfold lvAt at hk
 rw [e1] at hk
 have hk':(fO cs).length<=160:=of_decide_eq_true hk
 rw [flosOf_len e2,e3] at hk'
 rw [List.getD_eq_getElem?_getD,List.getElem?_eq_getElem hi] at e1
 exact ⟨k,cs,e1,⟨by omega,e2,e3⟩,by omega⟩
theorem run_18' {m:Nat} {ls:List AV} {b:Int} (h:LvsW m ls):(fsM mzK waysQ (m+1) 12).call (List RLeaf) 18 [.s (.agg [.b (.int .i64 b),.b (.list m ls)])] [] (resK [false])=some [.v (.bool (shortT m ls))]:=by
 rw [run_18]
 have hl:=h.1
 simp only [shut_eq,condO_dec]
 unfold shortT
 by_cases h12:m>12
 ·rw [if_pos (by omega),decide_eq_false (by omega),Bool.false_and]
 rw [if_neg (by omega),decide_eq_true (by omega),Bool.true_and]
 refine loopC_rule (fun k (r:Int->Int->Nat->List AV->Option (List RLeaf))=>∀ (i:Nat),i+k=m->
  r (i:Int) b m ls=some [.v (.bool (((List.range m).drop i).all fun i=>decide ((lvAt ls i).length<=160)))]) ?_ (m+1) m (by omega) 0 (by omega)
 intro k r ih i hi
 by_cases hk:i<m
 ·obtain ⟨n,cs,e1,e2,e3⟩:=h.get hk
  have a1:(lvAt ls i).length=2*n:=by unfold lvAt;rw [e1];rw [←e3];exact flosOf_len e2
  rw [range_all_drop hk,a1]
  have p0:0<ls.length:=by omega
  have wi:IntKind.i64.wrap ((i:Int)+1)=((i+1:Nat):Int):=by rw [wrap64]<;>omega
  simp only [shut_eq,condO_dec,guardO_dec,Int.ofNat_lt,hk,p0,if_true,Int.natCast_nonneg,true_and,and_true,Int.toNat_natCast,Nat.mul_one,e1,asList_list,bindO_ok,wi,ih (k-1) (by omega) (i+1) (by omega)]
  by_cases h80:n>80
  ·rw [if_pos (by omega),decide_eq_false (by omega),Bool.false_and]
  ·rw [if_neg (by omega),decide_eq_true (by omega),Bool.true_and]
 ·have hz:(List.range m).drop i=[]:=by rw [List.drop_eq_nil_iff,List.length_range];omega
  simp only [shut_eq,condO_dec,Int.ofNat_lt,hk,if_false,hz,List.all_nil]
end Go.Abs
end
