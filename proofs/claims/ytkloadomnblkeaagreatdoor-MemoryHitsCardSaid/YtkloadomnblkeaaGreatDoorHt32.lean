/- Part 32 of the library of the proof: an abstract run of the program. -/
import Derived.Test.YtkloadomnblkeaaGreatDoorHt31
set_option linter.unusedVariables false
set_option linter.unusedSimpArgs false

set_option maxRecDepth 100000
noncomputable section
namespace Go.Abs
open Go.Proofs
theorem PQ:u9 Tryz.prog tD PR (GB (Xg++Xh)) [(19,[],.bool true)]=true:=by kernel_rfl
theorem M7:gu Tryz.prog [(19,[],.bool true)]:=oL jd ka zJ (zI (abV.append abW)) PQ
theorem awake_call (H:af):CallOk Tryz.prog (fun _=>none) 19 [] H (.bool true) H:=M7.call (List.mem_cons_self) H
end Go.Abs
end
