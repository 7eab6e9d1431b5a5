/- Part 32 of the library of the proof: an abstract run of the program. -/
import Derived.Test.YtkloadomnblkeaaGreatDoorAp22
import Derived.Test.YtkloadomnblkeaaGreatDoorAp31
set_option linter.unusedVariables false
set_option linter.unusedSimpArgs false

noncomputable section
namespace Go.Abs
open Go.Proofs Classical
def mzAp:List (FuncId × Ent):=(27,eChkT)::mzI
theorem mzAp_ok:TabLOk Tryz.prog mzAp:=⟨eChkT_27,mzI_ok⟩
end Go.Abs
end
