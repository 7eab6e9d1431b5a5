/- Part 32 of the library that the proof of the statement uses: an abstract run of the program, proved right, and what its functions give. -/
import Derived.Test.YtkloadomnblkeaaGreatDoorSr8
import Derived.Test.YtkloadomnblkeaaGreatDoorSr9
import Derived.Test.YtkloadomnblkeaaGreatDoorSr31
set_option linter.unusedVariables false
set_option linter.unusedSimpArgs false

noncomputable section
namespace Go.Abs
open Go.Proofs Classical
def eAwake:Ent:=fun args' R K=>match args' with
 | []=>K [.v (.bool true)]
 | _=>none
theorem eAwake_19:EntOk Tryz.prog 19 eAwake:=ent_const leaf_bool awake_call eAwake fun args' R K=>by
 cases args'<;>rfl
end Go.Abs
end
