/- Part 42 of the library that the proof of the statement uses: an abstract run of the program, proved right, and what its functions give. -/
import Derived.Test.YtkloadomnblkeaaGreatDoorPt14
import Derived.Test.YtkloadomnblkeaaGreatDoorPt41
set_option linter.unusedVariables false
set_option linter.unusedSimpArgs false

noncomputable section
namespace Go.Abs
open Go.Proofs Classical Go.Abs.Fin
theorem own_tree {n:Nat} {xs:List (Option Nat)} {A:Nat} (hn:xs.length=n) (hs:sampErr n xs=0) (h1:1<=A) (h2:A<=256):chkT n xs (A:Int) (levelsF xs A).length (lvCells (levelsF xs A))=0:=by
 obtain ⟨hn4,hf⟩:=samp_all hs
 have hsame:=levels_same (xs:=xs) (b:=A) (by omega) (by omega) hf
 unfold chkT
 rw [if_pos hs,if_neg (by omega),Int.toNat_natCast]
 rw [←treeErr_congr hsame]
 unfold treeErr
 have e1:lensEq (levelsF xs A) (levelsF xs A).length (lvCells (levelsF xs A))=true:=all_range.2 fun i hi=>by
  rw [lvAt_cells hi];exact decide_eq_true rfl
 have e2:finsL (levelsF xs A).length (lvCells (levelsF xs A))=true:=all_range.2 fun i hi=>by
  rw [lvAt_cells hi];exact finR_iff.2 (SameLv.at i hsame hi).finL
 have e3:sameK (levelsF xs A) (levelsF xs A).length (lvCells (levelsF xs A))=true:=all_range.2 fun i hi=>by
  rw [lvAt_cells hi];exact all_range.2 fun j hj=>decide_eq_true rfl
 rw [if_pos rfl,if_pos e1,if_pos e2,if_pos e3]
end Go.Abs
end
