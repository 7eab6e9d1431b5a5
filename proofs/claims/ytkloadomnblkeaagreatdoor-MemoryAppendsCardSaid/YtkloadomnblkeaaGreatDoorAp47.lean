/- Part 47 of the library of the proof: an abstract run of the program. -/
import Derived.Test.YtkloadomnblkeaaGreatDoorAp44
import Derived.Test.YtkloadomnblkeaaGreatDoorAp45
import Derived.Test.YtkloadomnblkeaaGreatDoorAp46
import Derived.Test.YtkloadomnblkeaaGreatDoorCards
import Derived.Test.YtkloadomnblkeaaGreatDoorTie
import Derived.Carry
import Derived.RowKit
set_option linter.unusedVariables false
set_option linter.unusedSimpArgs false

noncomputable section
namespace Go.Proofs.YtkloadomnblkeaaGreatDoor.memoryAppendsDone
open Go Go.ChangeShapes Go.WideShapes Go.ChangeAt Go.RowKit Go.Abs
theorem shape0:shOf Tryz.prog 8 22=some [.sl [.flo .f32]]:=by kernel_rfl
theorem shape1:shOf Tryz.prog 8 27=some [.int .i64,.sl [.sl [.flo .f32,.flo .f32]]]:=by kernel_rfl
theorem shape2:shOf Tryz.prog 8 22=some [.sl [.flo .f32]]:=by kernel_rfl
set_option maxRecDepth 100000 in
theorem witness_row (os:Os) {H:Type} (enc:TypeId × Value->H):
  (OpenSpec.ofChange Rows.memoryAppendsSpec).preRow enc Tryz.prog Tryz.f15 Rows.memoryAppendsRow.domain false Rows.memoryAppendsRow.laid ((laidWorld os).forCall (fun _ _=>0) ⟨#[],#[.slice none 0 0,.agg #[.int .i64 0,.slice none 0 0],.slice none 0 0],[]⟩).memory #[.slice none 0 0,.agg #[.int .i64 0,.slice none 0 0],.slice none 0 0]:=by
 have hw:(DataW.whole enc Tryz.prog ((laidWorld os).forCall (fun _ _=>0) ⟨#[],#[.slice none 0 0,.agg #[.int .i64 0,.slice none 0 0],.slice none 0 0],[]⟩).memory Tryz.f15.params.toList (OpenSpec.ofChange Rows.memoryAppendsSpec).vars false #[Value.slice none 0 0,.agg #[.int .i64 0,.slice none 0 0],.slice none 0 0].toList 8).map (fun x=>(x.1,x.2.1))=
   some ([.nil,.agg [.lit (.int .i64 0),.nil],.nil],[]):=by kernel_rfl
 obtain ⟨⟨x1,x2,x3⟩,hx,hx1⟩:=Option.map_eq_some_iff.1 hw
 simp only [Prod.mk.injEq] at hx1
 obtain ⟨rfl,rfl⟩:=hx1
 exact OpenSpec.preRow_of_cond 8 hx (by kernel_rfl) (fun k hk=>by cases hk) (by kernel_rfl) (laid_met os _)
set_option maxRecDepth 100000 in
theorem lifted (os:Os) (started:os.Started) (H:Type) (enc:TypeId × Value->H) (F:Stop.Interp):
  ReturnsInHanded {} Tryz.checked os 15 .any ((OpenSpec.ofChange Rows.memoryAppendsSpec).preRow enc Tryz.prog Tryz.f15 Rows.memoryAppendsRow.domain false Rows.memoryAppendsRow.laid) (((OpenSpec.ofChange Rows.memoryAppendsSpec).at F).post enc Tryz.prog Tryz.f15 false true false false):=by
 refine returnsInHanded_of_row (C:=Tryz.checked) (s:=OpenSpec.ofChange Rows.memoryAppendsSpec) own started (by kernel_rfl) Tryz.func15
  (witness_row_atRef (enc:=enc) (C:=Tryz.checked) false (laidWorld os) #[.slice none 0 0,.agg #[.int .i64 0,.slice none 0 0],.slice none 0 0] rfl (by kernel_rfl) (by kernel_rfl) (by kernel_rfl) (witness_row os enc)) ?_
 intro W base args ds gs before hval0 hW _ _ _ _ _ _
 have hval:∀ (j:Nat) t v,Tryz.f15.params[j]?=some t->args[j]?=some v->Value.okWide Tryz.prog W .any base t v:=hval0
 have hW':=hW
 obtain ⟨p,q,hA0,hV,rfl,hfz,hnd⟩:=hW
 have hA:DataW.TrodAll enc Tryz.prog W 0 (fun _=>true) true Tryz.f15.params.toList args.toList ds p:=hA0
 rw [Tryz.params15] at hA hval
 obtain ⟨v0,vs0,d0,ds0,p0,q0,hargs,rfl,rfl,h0,r0⟩:=trodAll_cons hA
 obtain ⟨v1,vs1,d1,ds1,p1,q1,rfl,rfl,rfl,h1,r1⟩:=trodAll_cons r0
 obtain ⟨v2,vs2,d2,ds2,p2,q2,rfl,rfl,rfl,h2,r2⟩:=trodAll_cons r1
 obtain ⟨rfl,rfl,rfl⟩:=trodAll_nil r2
 obtain rfl:args=#[v0,v1,v2]:=by cases args;simp_all
 obtain ⟨rfl,rfl⟩:=trodVars_none hV
 obtain ⟨a0,len0,cap0,rfl⟩:=okWide_slice Tryz.underlying22 (hval 0 22 v0 rfl rfl)
 obtain ⟨a1,rfl,_⟩:=okWide_struct Tryz.underlying27 (hval 1 27 v1 rfl rfl)
 obtain ⟨a2,len2,cap2,rfl⟩:=okWide_slice Tryz.underlying22 (hval 2 22 v2 rfl rfl)
 have lt0:∀ x∈p0,x.block<W.heap.size:=by obtain ⟨m,hm⟩:=h0;exact DataW.trod_lt m _ _ _ hm
 have lt1:∀ x∈p1,x.block<W.heap.size:=by obtain ⟨m,hm⟩:=h1;exact DataW.trod_lt m _ _ _ hm
 have lt2:∀ x∈p2,x.block<W.heap.size:=by obtain ⟨m,hm⟩:=h2;exact DataW.trod_lt m _ _ _ hm
 obtain ⟨x0,s0,e0⟩:=open_arg shape0 h0 rfl
 obtain ⟨x1,s1,e1⟩:=open_argS shape1 h1
 obtain ⟨x2,s2,e2⟩:=open_arg shape2 h2 rfl
 clear hA0 hval0
 refine (appends_walk s0 s1 s2  e0 e1 e2).mono fun e W' ⟨he,bel⟩=>?_
 subst he
 exact ⟨_,rfl,_,_,_,[],_,[],hW',trodAll_mk1 (shut_bool Tryz.underlying4 _),
  (trodAll_cons_mk (Below.trod laidOut (by kernel_rfl) (of_decide_eq_true (by kernel_rfl)) h0 bel lt0) (trodAll_cons_mk (Below.trod laidOut (by kernel_rfl) (of_decide_eq_true (by kernel_rfl)) h1 bel lt1) (trodAll_cons_mk (Below.trod laidOut (by kernel_rfl) (of_decide_eq_true (by kernel_rfl)) h2 bel lt2) trodAll_mk0))),rfl,bel.frame _,fun h=>by cases h⟩
theorem said:Rows.MemoryAppendsSaid:=
 OpenClaim.holds_of_cond 15 Tryz.f15 rfl rfl rfl rfl rfl rfl rfl ⟨rfl,rfl,rfl,rfl,rfl⟩ rfl rfl rfl rfl rfl (by kernel_rfl) Tryz.func15 closed
  (of_decide_eq_true (by kernel_rfl)) (by unfold Func.isWrapper;first | (rw [if_pos (by decide +kernel)];kernel_rfl) | (rw [if_neg (by decide +kernel)];exact ⟨rfl,rfl⟩))
  (fun os started H enc _ F=>by rw [OpenClaim.pre_eq_preRow];exact lifted os started H enc F)
theorem plain (f : FuncId) (fn : Func) (hf : Tryz.pinned.checked.prog.funcNamed "strobe/strobelaw09.MemoryAppends" = some f) (hfn : Tryz.pinned.checked.prog.funcs[f]? = some fn) :
  true=Tryz.pinned.checked.prog.looks []/\∀ (j:Nat) t,fn.params[j]?=some t->Tryz.pinned.checked.prog.wantsStandIn t=false:=by
 obtain rfl : f = 15 := Option.some.inj ((show Tryz.prog.funcNamed "strobe/strobelaw09.MemoryAppends" = some 15 by kernel_rfl).symm.trans hf) |>.symm
 obtain rfl:fn=Tryz.f15:=(Option.some.inj (Tryz.func15.symm.trans hfn)).symm
 refine ⟨by kernel_rfl,fun j t ht=>?_⟩
 rw [Tryz.params15] at ht
 have hm:t∈[22,27,22]:=by simpa using Array.mem_of_getElem? ht
 have hall:([22,27,22].all fun u=>!Tryz.prog.wantsStandIn u)=true:=by kernel_rfl
 exact (show Tryz.prog.wantsStandIn t=false by simpa using List.all_eq_true.1 hall t hm)
theorem wfT:Rows.memoryAppendsRow.wfByText (OpenSpec.ofChange Rows.memoryAppendsSpec)=true:=by kernel_rfl
theorem mainT : Tryz.pinned.checked.prog.mainIs = some (true, "b92acb95501a6ab3a323da7eab3ca000d69f70ca013ac318829e2c2bb8aea44d".toList) := by kernel_rfl
theorem goesT:false=Rows.memoryAppendsRow.goesBy Tryz.pinned.checked.prog:=by kernel_rfl
theorem card:Rows.MemoryAppendsCardSaid:=
 Claim7.holds_tied_plain_at .later [] _ _ _ _ said (fun _ h=>by cases h) wfT (fun _ h=>by cases h) memoryAppends_row_tie rfl ⟨rfl,rfl⟩ mainT rfl plain goesT
end Go.Proofs.YtkloadomnblkeaaGreatDoor.memoryAppendsDone
end
