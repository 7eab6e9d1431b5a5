/- Part 50 of the library of the proof: an abstract run of the program. -/
import Derived.Test.YtkloadomnblkeaaGreatDoorHt47
import Derived.Test.YtkloadomnblkeaaGreatDoorHt48
import Derived.Test.YtkloadomnblkeaaGreatDoorHt49
import Derived.Test.YtkloadomnblkeaaGreatDoorCards
import Derived.Test.YtkloadomnblkeaaGreatDoorTie
import Derived.Carry
import Derived.RowKit
set_option linter.unusedVariables false
set_option linter.unusedSimpArgs false

noncomputable section
namespace Go.Proofs.YtkloadomnblkeaaGreatDoor.memoryHitsDone
open Go Go.ChangeShapes Go.WideShapes Go.ChangeAt Go.RowKit Go.Abs
theorem Xi:B4 Tryz.prog 8 24=some [.sl [.aL .f32],.int .i64]:=by kernel_rfl
theorem Xj:B4 Tryz.prog 8 60=some [.int .i64,.int .i64,.int .i64,.aL .f32]:=by kernel_rfl
set_option maxRecDepth 100000 in
theorem GD (os:Os) {H:Type} (enc:TypeId × Value->H):
  (OpenSpec.ofChange Rows.memoryHitsSpec).preRow enc Tryz.prog Tryz.f13 Rows.memoryHitsRow.domain false Rows.memoryHitsRow.laid ((mF os).forCall (fun _ _=>0) ⟨#[],#[.agg #[.slice none 0 0,.int .i64 0],.agg #[.int .i64 0,.int .i64 0,.int .i64 0,.float .f32 0]],[]⟩).memory #[.agg #[.slice none 0 0,.int .i64 0],.agg #[.int .i64 0,.int .i64 0,.int .i64 0,.float .f32 0]]:=by
 have hw:(DataW.whole enc Tryz.prog ((mF os).forCall (fun _ _=>0) ⟨#[],#[.agg #[.slice none 0 0,.int .i64 0],.agg #[.int .i64 0,.int .i64 0,.int .i64 0,.float .f32 0]],[]⟩).memory Tryz.f13.params.toList (OpenSpec.ofChange Rows.memoryHitsSpec).vars false #[Value.agg #[.slice none 0 0,.int .i64 0],.agg #[.int .i64 0,.int .i64 0,.int .i64 0,.float .f32 0]].toList 8).map (fun x=>(x.1,x.2.1))=
   some ([.agg [.nil,.lit (.int .i64 0)],.agg [.lit (.int .i64 0),.lit (.int .i64 0),.lit (.int .i64 0),.lit (.float .f32 0)]],[]):=by kernel_rfl
 obtain ⟨⟨x1,x2,x3⟩,hx,PS⟩:=Option.map_eq_some_iff.1 hw
 simp only [Prod.mk.injEq] at PS
 obtain ⟨rfl,rfl⟩:=PS
 exact OpenSpec.preRow_of_cond 8 hx (by kernel_rfl) (fun k hk=>by cases hk) (by kernel_rfl) (laid_met os _)
set_option maxRecDepth 100000 in
theorem lifted (os:Os) (started:os.Started) (H:Type) (enc:TypeId × Value->H) (F:Stop.Interp):
  ReturnsInHanded {} Tryz.checked os 13 .any ((OpenSpec.ofChange Rows.memoryHitsSpec).preRow enc Tryz.prog Tryz.f13 Rows.memoryHitsRow.domain false Rows.memoryHitsRow.laid) (((OpenSpec.ofChange Rows.memoryHitsSpec).at F).post enc Tryz.prog Tryz.f13 false true false false):=by
 refine returnsInHanded_of_row (C:=Tryz.checked) (s:=OpenSpec.ofChange Rows.memoryHitsSpec) own started (by kernel_rfl) Tryz.func13
  (witness_row_atRef (enc:=enc) (C:=Tryz.checked) false (mF os) #[.agg #[.slice none 0 0,.int .i64 0],.agg #[.int .i64 0,.int .i64 0,.int .i64 0,.float .f32 0]] rfl (by kernel_rfl) (by kernel_rfl) (by kernel_rfl) (GD os enc)) ?_
 intro W base args ds gs before VZ hW _ _ _ _ _ _
 have uR:∀ (j:Nat) t v,Tryz.f13.params[j]?=some t->args[j]?=some v->Value.okWide Tryz.prog W .any base t v:=VZ
 have hW':=hW
 obtain ⟨p,q,hA0,hV,rfl,FD,BZ⟩:=hW
 have hA:DataW.TrodAll enc Tryz.prog W 0 (fun _=>true) true Tryz.f13.params.toList args.toList ds p:=hA0
 rw [Tryz.params13] at hA uR
 obtain ⟨v0,vs0,d0,ds0,p0,q0,cW,rfl,rfl,h0,r0⟩:=trodAll_cons hA
 obtain ⟨v1,vs1,d1,ds1,p1,q1,rfl,rfl,rfl,h1,r1⟩:=trodAll_cons r0
 obtain ⟨rfl,rfl,rfl⟩:=trodAll_nil r1
 obtain rfl:args=#[v0,v1]:=by cases args;simp_all
 obtain ⟨rfl,rfl⟩:=trodVars_none hV
 obtain ⟨a0,rfl,_⟩:=okWide_struct Tryz.underlying24 (uR 0 24 v0 rfl rfl)
 obtain ⟨a1,rfl,_⟩:=okWide_struct Tryz.underlying60 (uR 1 60 v1 rfl rfl)
 have lt0:∀ x∈p0,x.block<W.heap.size:=by obtain ⟨m,hm⟩:=h0;exact DataW.trod_lt m _ _ _ hm
 have lt1:∀ x∈p1,x.block<W.heap.size:=by obtain ⟨m,hm⟩:=h1;exact DataW.trod_lt m _ _ _ hm
 obtain ⟨x0,s0,e0⟩:=CS Xi h0
 obtain ⟨x1,s1,e1⟩:=CS Xj h1
 clear hA0 VZ
 refine (M8 s0 s1  e0 e1).mono fun e W' ⟨he,bel⟩=>?_
 subst he
 exact ⟨_,rfl,_,_,_,[],_,[],hW',trodAll_mk1 (shut_bool Tryz.underlying4 _),
  (trodAll_cons_mk (Below.trod laidOut (by kernel_rfl) (of_decide_eq_true (by kernel_rfl)) h0 bel lt0) (trodAll_cons_mk (Below.trod laidOut (by kernel_rfl) (of_decide_eq_true (by kernel_rfl)) h1 bel lt1) trodAll_mk0)),rfl,bel.frame _,fun h=>by cases h⟩
theorem said:Rows.MemoryHitsSaid:=
 OpenClaim.holds_of_cond 13 Tryz.f13 rfl rfl rfl rfl rfl rfl rfl ⟨rfl,rfl,rfl,rfl,rfl⟩ rfl rfl rfl rfl rfl (by kernel_rfl) Tryz.func13 closed
  (of_decide_eq_true (by kernel_rfl)) (by unfold Func.isWrapper;first | (rw [if_pos (by decide +kernel)];kernel_rfl) | (rw [if_neg (by decide +kernel)];exact ⟨rfl,rfl⟩))
  (fun os started H enc _ F=>by rw [OpenClaim.pre_eq_preRow];exact lifted os started H enc F)
theorem plain (f : FuncId) (fn : Func) (hf : Tryz.pinned.checked.prog.funcNamed "strobe/strobelaw09.MemoryHits" = some f) (K5 : Tryz.pinned.checked.prog.funcs[f]? = some fn) :
  true=Tryz.pinned.checked.prog.looks []/\∀ (j:Nat) t,fn.params[j]?=some t->Tryz.pinned.checked.prog.wantsStandIn t=false:=by
 obtain rfl : f = 13 := Option.some.inj ((show Tryz.prog.funcNamed "strobe/strobelaw09.MemoryHits" = some 13 by kernel_rfl).symm.trans hf) |>.symm
 obtain rfl:fn=Tryz.f13:=(Option.some.inj (Tryz.func13.symm.trans K5)).symm
 refine ⟨by kernel_rfl,fun j t ht=>?_⟩
 rw [Tryz.params13] at ht
 have hm:t∈[24,60]:=by simpa using Array.mem_of_getElem? ht
 have cR:([24,60].all fun u=>!Tryz.prog.wantsStandIn u)=true:=by kernel_rfl
 exact (show Tryz.prog.wantsStandIn t=false by simpa using List.all_eq_true.1 cR t hm)
theorem wfT:Rows.memoryHitsRow.wfByText (OpenSpec.ofChange Rows.memoryHitsSpec)=true:=by kernel_rfl
theorem abX : Tryz.pinned.checked.prog.mainIs = some (true, "b92acb95501a6ab3a323da7eab3ca000d69f70ca013ac318829e2c2bb8aea44d".toList) := by kernel_rfl
theorem abY:false=Rows.memoryHitsRow.goesBy Tryz.pinned.checked.prog:=by kernel_rfl
theorem card:Rows.MemoryHitsCardSaid:=
 Claim7.holds_tied_plain_at .later [] _ _ _ _ said (fun _ h=>by cases h) wfT (fun _ h=>by cases h) memoryHits_row_tie rfl ⟨rfl,rfl⟩ abX rfl plain abY
end Go.Proofs.YtkloadomnblkeaaGreatDoor.memoryHitsDone
end
