/- Part 37 of the library of the proof: an abstract run of the program. -/
import Derived.Test.YtkloadomnblkeaaGreatDoorAp10
import Derived.Test.YtkloadomnblkeaaGreatDoorAp11
import Derived.Test.YtkloadomnblkeaaGreatDoorAp36
set_option linter.unusedVariables false
set_option linter.unusedSimpArgs false

noncomputable section
namespace Go.Abs
open Go.Proofs Classical
def eAwake:Ent:=fun args' R K=>match args' with
 | []=>K [.v (.bool true)]
 | _=>none
theorem eAwake_19:EntOk Tryz.prog 19 eAwake:=ent_const leaf_bool awake_call eAwake fun args' R K=>by
 cases args'<;>rfl
end Go.Abs
end
