/- Part 16 of the library that the proof of the statement uses: an abstract run of the program, proved right, and what its functions give. -/
import Derived.Test.YtaejnfdlolfpkaaGreatDoorBlk5
import Derived.Test.YtaejnfdlolfpkaaGreatDoorCards
import Derived.Test.YtaejnfdlolfpkaaGreatDoorTie
import Derived.Carry
import Derived.RowKit
set_option linter.unusedVariables false
set_option linter.unusedSimpArgs false

section
/- The statement of AcquireBlocks. -/
namespace Go.Proofs.YtaejnfdlolfpkaaGreatDoor.acquireBlocksDone
open Go Go.ChangeShapes Go.WideShapes Go.ChangeAt Go.RowKit Go.Abs
set_option linter.unusedVariables false

theorem shape0 : shOf Tryz.prog 8 41 = some [.sl [.flo .f32]] := by kernel_rfl
theorem shape1 : shOf Tryz.prog 8 108 = some [.sl [.flo .f32, .flo .f32, .flo .f32, .flo .f32, .flo .f32, .flo .f32, .flo .f32, .flo .f32, .flo .f32, .flo .f32, .flo .f32, .flo .f32, .flo .f32, .flo .f32, .flo .f32, .flo .f32]] := by kernel_rfl

theorem walk {x0 x1 : AV} (s0 : ShR (.sl [.flo .f32]) x0) (s1 : ShR (.sl [.flo .f32, .flo .f32, .flo .f32, .flo .f32, .flo .f32, .flo .f32, .flo .f32, .flo .f32, .flo .f32, .flo .f32, .flo .f32, .flo .f32, .flo .f32, .flo .f32, .flo .f32, .flo .f32]) x1) {b : Int} (wb : (Lit.int .i64 b).wf = true)
    {w : World} {v0 v1 : Value} (r0 : VRel ⟨Old w, w.heap, id, 0⟩ x0 v0) (r1 : VRel ⟨Old w, w.heap, id, 0⟩ x1 v1) :
    Calls Tryz.prog 11 #[v0, v1, .int .i64 b] w fun e w' => e = .returned (.bool true) ∧ Below w.heap.size w w' := by
  obtain ⟨n, cs, rfl, hn0⟩ := flos_of s0
  obtain ⟨m, ds, rfl, hn1⟩ := blks_of s1
  exact law_of tz10_ok (N := n + 2) (k := 8) (ss := [_, _, .int .i64]) (xs := [.list n cs, .list m ds, .int .i64 b])
    ((ShRs.one s0).append ((ShRs.one s1).append (ShRs.one (.int .i64 b wb)))) (run_11' hn0 hn1)
    ((VRels.of_one r0).app ((VRels.of_one r1).app (VRels.of_one (.int .i64 b))))

set_option maxRecDepth 100000 in
theorem witness_row (os : Os) {H : Type} (enc : TypeId × Value → H) :
    (OpenSpec.ofChange Rows.acquireBlocksSpec).preRow enc Tryz.prog Tryz.f11 Rows.acquireBlocksRow.domain false Rows.acquireBlocksRow.laid ((laidWorld os).forCall (fun _ _ => 0) ⟨#[], #[.slice none 0 0, .slice none 0 0, .int .i64 0], []⟩).memory #[.slice none 0 0, .slice none 0 0, .int .i64 0] := by
  have hw : (DataW.whole enc Tryz.prog ((laidWorld os).forCall (fun _ _ => 0) ⟨#[], #[.slice none 0 0, .slice none 0 0, .int .i64 0], []⟩).memory Tryz.f11.params.toList (OpenSpec.ofChange Rows.acquireBlocksSpec).vars false #[Value.slice none 0 0, .slice none 0 0, .int .i64 0].toList 8).map (fun x => (x.1, x.2.1)) =
      some ([.nil, .nil, .lit (.int .i64 0)], []) := by kernel_rfl
  obtain ⟨⟨x1, x2, x3⟩, hx, hx1⟩ := Option.map_eq_some_iff.1 hw
  simp only [Prod.mk.injEq] at hx1
  obtain ⟨rfl, rfl⟩ := hx1
  exact OpenSpec.preRow_of_cond 8 hx (by kernel_rfl) (fun k hk => by cases hk) (by kernel_rfl) (laid_met os _)

set_option maxRecDepth 100000 in
theorem lifted (os : Os) (started : os.Started) (H : Type) (enc : TypeId × Value → H) (F : Stop.Interp) :
    ReturnsInHanded {} Tryz.checked os 11 .any ((OpenSpec.ofChange Rows.acquireBlocksSpec).preRow enc Tryz.prog Tryz.f11 Rows.acquireBlocksRow.domain false Rows.acquireBlocksRow.laid) (((OpenSpec.ofChange Rows.acquireBlocksSpec).at F).post enc Tryz.prog Tryz.f11 false true false false) := by
  refine returnsInHanded_of_row (C := Tryz.checked) (s := OpenSpec.ofChange Rows.acquireBlocksSpec) own started (by kernel_rfl) Tryz.func11
    (witness_row_atRef (enc := enc) (C := Tryz.checked) false (laidWorld os) #[.slice none 0 0, .slice none 0 0, .int .i64 0] rfl (by kernel_rfl) (by kernel_rfl) (by kernel_rfl) (witness_row os enc)) ?_
  intro W base args ds gs before hval0 hW _ _ _ _ _ _
  have hval : ∀ (j : Nat) t v, Tryz.f11.params[j]? = some t → args[j]? = some v → Value.okWide Tryz.prog W .any base t v := hval0
  have hW' := hW
  obtain ⟨p, q, hA0, hV, rfl, hfz, hnd⟩ := hW
  have hA : DataW.TrodAll enc Tryz.prog W 0 (fun _ => true) true Tryz.f11.params.toList args.toList ds p := hA0
  rw [Tryz.params11] at hA hval
  obtain ⟨v0, vs0, d0, ds0, p0, q0, hargs, rfl, rfl, h0, r0⟩ := trodAll_cons hA
  obtain ⟨v1, vs1, d1, ds1, p1, q1, rfl, rfl, rfl, h1, r1⟩ := trodAll_cons r0
  obtain ⟨v2, vs2, d2, ds2, p2, q2, rfl, rfl, rfl, h2, r2⟩ := trodAll_cons r1
  obtain ⟨rfl, rfl, rfl⟩ := trodAll_nil r2
  obtain rfl : args = #[v0, v1, v2] := by cases args; simp_all
  obtain ⟨rfl, rfl⟩ := trodVars_none hV
  obtain ⟨a0, len0, cap0, rfl⟩ := okWide_slice Tryz.underlying41 (hval 0 41 v0 rfl rfl)
  obtain ⟨a1, len1, cap1, rfl⟩ := okWide_slice Tryz.underlying108 (hval 1 108 v1 rfl rfl)
  obtain ⟨b, rfl, rfl, rfl, wb⟩ := open_int Tryz.underlying3 (hval 2 3 v2 rfl rfl) h2
  have lt0 : ∀ x ∈ p0, x.block < W.heap.size := by obtain ⟨m, hm⟩ := h0; exact DataW.trod_lt m _ _ _ hm
  have lt1 : ∀ x ∈ p1, x.block < W.heap.size := by obtain ⟨m, hm⟩ := h1; exact DataW.trod_lt m _ _ _ hm
  obtain ⟨x0, s0, e0⟩ := open_arg shape0 h0 rfl
  obtain ⟨x1, s1, e1⟩ := open_arg shape1 h1 rfl
  clear hA0 hval0
  refine (walk s0 s1 wb e0 e1).mono fun e W' ⟨he, bel⟩ => ?_
  subst he
  exact ⟨_, rfl, _, _, _, [], _, [], hW', trodAll_mk1 (shut_bool Tryz.underlying4 _),
    (trodAll_cons_mk (Below.trod laidOut (by kernel_rfl) (of_decide_eq_true (by kernel_rfl)) h0 bel lt0) (trodAll_cons_mk (Below.trod laidOut (by kernel_rfl) (of_decide_eq_true (by kernel_rfl)) h1 bel lt1) (trodAll_cons_mk (shut_int Tryz.underlying3 wb) trodAll_mk0))), rfl, bel.frame _, fun h => by cases h⟩

theorem said : Rows.AcquireBlocksSaid :=
  OpenClaim.holds_of_cond 11 Tryz.f11 rfl rfl rfl rfl rfl rfl rfl ⟨rfl, rfl, rfl, rfl, rfl⟩ rfl rfl rfl rfl rfl (by kernel_rfl) Tryz.func11 closed
    (of_decide_eq_true (by kernel_rfl)) (by unfold Func.isWrapper; first | (rw [if_pos (by decide +kernel)]; kernel_rfl) | (rw [if_neg (by decide +kernel)]; exact ⟨rfl, rfl⟩))
    (fun os started H enc _ F => by rw [OpenClaim.pre_eq_preRow]; exact lifted os started H enc F)

/-- No parameter wants a stand-in. -/
theorem plain (f : FuncId) (fn : Func) (hf : Tryz.pinned.checked.prog.funcNamed "strobe/strobelaw03.AcquireBlocks" = some f) (hfn : Tryz.pinned.checked.prog.funcs[f]? = some fn) :
    true = Tryz.pinned.checked.prog.looks [] ∧ ∀ (j : Nat) t, fn.params[j]? = some t → Tryz.pinned.checked.prog.wantsStandIn t = false := by
  obtain rfl : f = 11 := Option.some.inj ((show Tryz.prog.funcNamed "strobe/strobelaw03.AcquireBlocks" = some 11 by kernel_rfl).symm.trans hf) |>.symm
  obtain rfl : fn = Tryz.f11 := (Option.some.inj (Tryz.func11.symm.trans hfn)).symm
  refine ⟨by kernel_rfl, fun j t ht => ?_⟩
  rw [Tryz.params11] at ht
  have hm : t ∈ [41, 108, 3] := by simpa using Array.mem_of_getElem? ht
  have hall : ([41, 108, 3].all fun u => !Tryz.prog.wantsStandIn u) = true := by kernel_rfl
  exact (show Tryz.prog.wantsStandIn t = false by simpa using List.all_eq_true.1 hall t hm)

/-- The statement: for every input the law AcquireBlocks returns true, and each argument reads behind the call as it read before. -/
theorem card : Rows.AcquireBlocksCardSaid :=
  Claim7.holds_tied_plain_at .later [] _ _ _ _ said (fun _ h => by cases h) (by kernel_rfl) (fun _ h => by cases h) acquireBlocks_row_tie rfl ⟨rfl, rfl⟩ (by kernel_rfl) rfl plain (by kernel_rfl)
end Go.Proofs.YtaejnfdlolfpkaaGreatDoor.acquireBlocksDone
end

