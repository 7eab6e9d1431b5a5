/- Part 41 of the library of the proof: an abstract run of the program. -/
import Derived.Test.YtkloadomnblkeaaGreatDoorAp22
import Derived.Test.YtkloadomnblkeaaGreatDoorAp31
import Derived.Test.YtkloadomnblkeaaGreatDoorAp37
import Derived.Test.YtkloadomnblkeaaGreatDoorAp38
set_option linter.unusedVariables false
set_option linter.unusedSimpArgs false

noncomputable section
namespace Go.Abs
open Go.Proofs Classical Go.Abs.Fin
theorem sameT_of {Ls Ms:List (List (Option Nat))} (h:SameLv Ls Ms):sameT Ls.length (lvCells Ls) (lvCells Ms)=true:=by
 unfold sameT
 refine all_range.2 fun i hi=>?_
 rw [lvAt_cells hi,lvAt_cells (by rw [←h.len];exact hi)]
 have hs:=SameLv.at i h hi
 rw [sameF_keys hs.len hs.finL hs.finM]
 unfold keysEq
 exact all_range.2 fun j hj=>decide_eq_true (hs.key j (by rw [hs.len];exact hj)).symm
end Go.Abs
end
