/- Part 36 of the library of the proof: an abstract run of the program. -/
import Derived.Test.YtkloadomnblkeaaGreatDoorHt20
set_option linter.unusedVariables false
set_option linter.unusedSimpArgs false

set_option maxRecDepth 100000
noncomputable section
namespace Go.Abs
def nP:Gw:={ cQ with
 CT:=⟨97,36,6784,35046933139456,[(12,.o (.b (.int .i64 0)))]⟩::cQ.CT
 u0:=⟨97,5,2147487376,4227858432,[(31,.o (.b (.bool false)))]⟩::cQ.u0 }
end Go.Abs
end
