/- Part 12 of the library that the proof of the statement uses: an abstract run of the program, proved right, and what its functions give. -/
import Derived.Test.YtaejnfdlolfpkaaGreatDoorBlk1
set_option linter.unusedVariables false
set_option linter.unusedSimpArgs false

section
/- Arguments that are blocks. -/
set_option linter.unusedVariables false
set_option linter.unusedSimpArgs false
namespace Go.Abs
open Go.Proofs

theorem blks_of {x : AV} (h : ShR (.sl [.flo .f32, .flo .f32, .flo .f32, .flo .f32, .flo .f32, .flo .f32, .flo .f32, .flo .f32, .flo .f32, .flo .f32, .flo .f32, .flo .f32, .flo .f32, .flo .f32, .flo .f32, .flo .f32]) x) : ∃ n cs, x = .list n cs ∧ Blk n cs := by
  cases h with
  | sl es n els hn hl he hv =>
    have hC : ∀ e ∈ els, e.length = 16 := he
    refine ⟨n, els.flatten, rfl, by unfold maxLen at hn; omega, ?_, by rw [flat_len hC, hl]⟩
    have : ∀ x ∈ els.flatten, AV.flo .f32 (toF x) = x := by
      intro x hx
      obtain ⟨e, he1, he2⟩ := List.mem_flatten.1 hx
      obtain ⟨j, hj, hxj⟩ := List.getElem_of_mem he2
      have hlen := hC e he1
      have hs : ∀ j, j < 16 → [Sh.flo .f32, .flo .f32, .flo .f32, .flo .f32, .flo .f32, .flo .f32, .flo .f32, .flo .f32, .flo .f32, .flo .f32, .flo .f32, .flo .f32, .flo .f32, .flo .f32, .flo .f32, .flo .f32][j]? = some (Sh.flo .f32) := by
        intro j hj
        show (List.replicate 16 (Sh.flo .f32))[j]? = _
        rw [List.getElem?_replicate, if_pos hj]
      have := hv e he1 j _ x (hs j (by omega)) (by rw [List.getElem?_eq_getElem hj, hxj])
      cases this; rfl
    unfold flosL flosOf
    rw [List.map_map]
    exact (List.map_congr_left (g := id) this |>.trans (List.map_id _)).symm

end Go.Abs
end

