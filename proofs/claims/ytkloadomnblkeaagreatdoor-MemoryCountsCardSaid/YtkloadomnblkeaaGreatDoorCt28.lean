/- Part 28 of the library that the proof of the statement uses: an abstract run of the program, proved right, and what its functions give. -/
import Derived.Test.YtkloadomnblkeaaGreatDoorCt27
set_option linter.unusedVariables false
set_option linter.unusedSimpArgs false

section
/- MemoryCounts: from its arguments to the call. -/
set_option linter.unusedVariables false
set_option linter.unusedSimpArgs false
namespace Go.Abs
open Go.Proofs Classical Go.RowKit

theorem ask_of {xs : List AV} (h : ShRs [.int .i64, .int .i64, .int .i64, .flo .f32] xs) : ∃ f t c o, xs = [.int .i64 f, .int .i64 t, .int .i64 c, .flo .f32 o] := by
  match xs, h.1 with
  | [x0, x1, x2, x3], _ =>
    have h0 := h.2 0 _ x0 rfl rfl
    have h1 := h.2 1 _ x1 rfl rfl
    have h2 := h.2 2 _ x2 rfl rfl
    have h3 := h.2 3 _ x3 rfl rfl
    cases h0; cases h1; cases h2; cases h3
    all_goals exact ⟨_, _, _, _, rfl⟩

theorem counts_walk {x0 x1 : AV} {y2 : List AV} (s0 : ShR (.sl [.flo .f32]) x0) (s1 : ShR (.sl [.flo .f32]) x1) (s2 : ShRs [.int .i64, .int .i64, .int .i64, .flo .f32] y2) {w : World} {v0 v1 v2 : Value}
    (r0 : VRel ⟨Old w, w.heap, id, 0⟩ x0 v0) (r1 : VRel ⟨Old w, w.heap, id, 0⟩ x1 v1) (r2 : VRel ⟨Old w, w.heap, id, 0⟩ (.agg y2) v2) :
    Calls Tryz.prog 7 #[v0, v1, v2] w fun e w' => e = .returned (.bool true) ∧ Below w.heap.size w w' := by
  obtain ⟨n, cs, rfl, h0⟩ := flos_of s0
  obtain ⟨m, ds, rfl, h1⟩ := flos_of s1
  obtain ⟨f, t, c, o, rfl⟩ := ask_of s2
  exact law_ofG tryz_orders tryz_noNum mzG_ok (M := mmMasks) (W := waysP) (N := 1) (k := 12) (xs := [.list n cs, .list m ds, .agg [.int .i64 f, .int .i64 t, .int .i64 c, .flo .f32 o]])
    (fun x hx => by
      rcases List.mem_cons.1 hx with rfl | hx
      · exact .cell s0
      rcases List.mem_cons.1 hx with rfl | hx
      · exact .cell s1
      rcases List.mem_cons.1 hx with rfl | hx
      · exact .agg s2
      cases hx) (run_7' h0 h1) (((VRels.of_one r0).app (VRels.of_one r1)).app (VRels.of_one r2))

end Go.Abs
end

