/- Part 33 of the library of the proof: an abstract run of the program. -/
import Derived.Test.YtkloadomnblkeaaGreatDoorHt8
import Derived.Test.YtkloadomnblkeaaGreatDoorHt9
import Derived.Test.YtkloadomnblkeaaGreatDoorHt32
set_option linter.unusedVariables false
set_option linter.unusedSimpArgs false

noncomputable section
namespace Go.Abs
open Go.Proofs Classical
def Jg:fr:=fun ai R K=>match ai with
 | []=>K [.v (.bool true)]
 | _=>none
theorem M6:bG Tryz.prog 19 Jg:=M0 dz awake_call Jg fun ai R K=>by
 cases ai<;>rfl
end Go.Abs
end
