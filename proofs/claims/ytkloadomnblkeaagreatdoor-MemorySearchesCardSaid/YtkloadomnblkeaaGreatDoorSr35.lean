/- Part 35 of the library that the proof of the statement uses: an abstract run of the program, proved right, and what its functions give. -/
import Derived.Test.YtkloadomnblkeaaGreatDoorSr20
set_option linter.unusedVariables false
set_option linter.unusedSimpArgs false

set_option maxRecDepth 100000
noncomputable section
namespace Go.Abs
def waysR:Ways:={ waysQ with
 joins:=⟨97,36,6784,35046933139456,[(12,.o (.b (.int .i64 0)))]⟩::waysQ.joins
 rjoins:=⟨97,5,2147487376,4227858432,[(31,.o (.b (.bool false)))]⟩::waysQ.rjoins }
end Go.Abs
end
