/- Part 24 of the library that the proof of the statement uses: an abstract run of the program, proved right, and what its functions give. -/
import Derived.Test.YtkloadomnblkeaaGreatDoorPak23
set_option linter.unusedVariables false
set_option linter.unusedSimpArgs false

section
/- The table of MemoryPacks. -/
namespace Go.Abs
open Go.Proofs Classical

noncomputable def mz9 : List (FuncId × Ent) := (19, eAwake) :: (66, ePack) :: (69, ePackR) :: (67, eUnp) :: (70, eUnp) :: mz2

theorem mz9_ok : TabLOk Tryz.prog mz9 := ⟨eAwake_19, ePack_66, ePackR_69, eUnp_67, eUnp_70, mz2_ok⟩

end Go.Abs
end

