/- Part 42 of the library that the proof of the statement uses: an abstract run of the program, proved right, and what its functions give. -/
import Derived.Test.YtkloadomnblkeaaGreatDoorKp41
set_option linter.unusedVariables false
set_option linter.unusedSimpArgs false

section
/- MemoryWords: from its arguments to the call. -/
set_option linter.unusedVariables false
set_option linter.unusedSimpArgs false
namespace Go.Abs
open Go.Proofs Classical Go.RowKit

theorem wf_u8' {z : Int} (h : (Lit.int .u8 z).wf = true) : 0 ≤ z ∧ z < 256 := by
  simp [Lit.wf, IntKind.min, IntKind.max, IntKind.signed, IntKind.bits] at h
  omega
theorem wf_u16 {z : Int} (h : (Lit.int .u16 z).wf = true) : 0 ≤ z ∧ z < 65536 := by
  simp [Lit.wf, IntKind.min, IntKind.max, IntKind.signed, IntKind.bits] at h
  omega

theorem words_walk {x0 x1 : AV} (s0 : ShR (.sl [.int .u16]) x0) (s1 : ShR (.sl [.int .u8]) x1) {w : World} {v0 v1 : Value}
    (r0 : VRel ⟨Old w, w.heap, id, 0⟩ x0 v0) (r1 : VRel ⟨Old w, w.heap, id, 0⟩ x1 v1) :
    Calls Tryz.prog 10 #[v0, v1] w fun e w' => e = .returned (.bool true) ∧ Below w.heap.size w w' := by
  obtain ⟨n, cs, rfl, h0, h0'⟩ := nums_of s0
  obtain ⟨m, ds, rfl, h1, h2⟩ := nums_of s1
  exact law_ofG tryz_orders tryz_noNum mz10_ok (M := mmMasks) (W := waysP) (N := 1) (k := 8) (xs := [.list n cs, .list m ds])
    (fun x hx => by
      rcases List.mem_cons.1 hx with rfl | hx
      · exact .cell s0
      rcases List.mem_cons.1 hx with rfl | hx
      · exact .cell s1
      cases hx) (run_10' ⟨h0, fun z hz => wf_u16 (h0' z hz)⟩ ⟨h1, fun z hz => wf_u8' (h2 z hz)⟩) ((VRels.of_one r0).app (VRels.of_one r1))

end Go.Abs
end

