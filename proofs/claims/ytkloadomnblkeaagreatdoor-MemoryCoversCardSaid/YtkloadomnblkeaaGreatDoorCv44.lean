/- Part 44 of the library that the proof of the statement uses: an abstract run of the program, proved right, and what its functions give. -/
import Derived.Test.YtkloadomnblkeaaGreatDoorCv43
set_option linter.unusedVariables false
set_option linter.unusedSimpArgs false

section
/- MemoryCovers: from its arguments to the call. -/
set_option linter.unusedVariables false
set_option linter.unusedSimpArgs false
namespace Go.Abs
open Go.Proofs Classical Go.RowKit

theorem span_of {xs : List AV} (h : ShRs [.int .i64, .int .i64] xs) : ∃ a b, xs = [.int .i64 a, .int .i64 b] := by
  match xs, h.1 with
  | [x0, x1], _ =>
    have h0 := h.2 0 _ x0 rfl rfl
    have h1 := h.2 1 _ x1 rfl rfl
    cases h0; cases h1
    exact ⟨_, _, rfl⟩

theorem covers_walk {y2 : List AV} (s2 : ShRs [.int .i64, .int .i64] y2) {a n : Int} (wa : (Lit.int .i64 a).wf = true) (wn : (Lit.int .i64 n).wf = true) {w : World} {v2 : Value}
    (r2 : VRel ⟨Old w, w.heap, id, 0⟩ (.agg y2) v2) :
    Calls Tryz.prog 4 #[.int .i64 a, .int .i64 n, v2] w fun e w' => e = .returned (.bool true) ∧ Below w.heap.size w w' := by
  obtain ⟨f, t, rfl⟩ := span_of s2
  exact law_ofG tryz_orders tryz_noNum mzD_ok (M := mmMasks) (W := waysP) (N := 1) (k := 12) (xs := [.int .i64 a, .int .i64 n, .agg [.int .i64 f, .int .i64 t]])
    (fun x hx => by
      rcases List.mem_cons.1 hx with rfl | hx
      · exact .cell (.int _ _ wa)
      rcases List.mem_cons.1 hx with rfl | hx
      · exact .cell (.int _ _ wn)
      rcases List.mem_cons.1 hx with rfl | hx
      · exact .agg s2
      cases hx) run_4' (((VRels.of_one (.int _ _)).app (VRels.of_one (.int _ _))).app (VRels.of_one r2))

end Go.Abs
end

