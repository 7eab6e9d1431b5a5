/- Part 43 of the library that the proof of the statement uses: an abstract run of the program, proved right, and what its functions give. -/
import Derived.Test.YtkloadomnblkeaaGreatDoorKp42
set_option linter.unusedVariables false
set_option linter.unusedSimpArgs false

section
/- MemoryKeeps: from its arguments to the call. -/
set_option linter.unusedVariables false
set_option linter.unusedSimpArgs false
namespace Go.Abs
open Go.Proofs Classical Go.RowKit

theorem keeps_walk {x0 x1 x2 : AV} (s0 : ShR (.sl [.int .i64]) x0) (s1 : ShR (.sl [.int .u16]) x1) (s2 : ShR (.sl [.int .u8]) x2) {w : World} {v0 v1 v2 : Value}
    (r0 : VRel ⟨Old w, w.heap, id, 0⟩ x0 v0) (r1 : VRel ⟨Old w, w.heap, id, 0⟩ x1 v1) (r2 : VRel ⟨Old w, w.heap, id, 0⟩ x2 v2) :
    Calls Tryz.prog 14 #[v0, v1, v2] w fun e w' => e = .returned (.bool true) ∧ Below w.heap.size w w' := by
  obtain ⟨n, cs, rfl, h0⟩ := ints_of s0
  obtain ⟨m, ds, rfl, h1, h1'⟩ := nums_of s1
  obtain ⟨q, es, rfl, h2, h2'⟩ := nums_of s2
  exact law_ofG tryz_orders tryz_noNum mz10_ok (M := mmMasks) (W := waysP) (N := n + m + 1) (k := 8) (xs := [.list n cs, .list m ds, .list q es])
    (fun x hx => by
      rcases List.mem_cons.1 hx with rfl | hx
      · exact .cell s0
      rcases List.mem_cons.1 hx with rfl | hx
      · exact .cell s1
      rcases List.mem_cons.1 hx with rfl | hx
      · exact .cell s2
      cases hx) (run_14' h0 ⟨h1, fun z hz => wf_u16 (h1' z hz)⟩ ⟨h2, fun z hz => wf_u8' (h2' z hz)⟩) (((VRels.of_one r0).app (VRels.of_one r1)).app (VRels.of_one r2))

end Go.Abs
end

