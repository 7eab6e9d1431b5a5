/- Part 36 of the library of the proof: an abstract run of the program. -/
import Derived.Test.YtkloadomnblkeaaGreatDoorAp35
set_option linter.unusedVariables false
set_option linter.unusedSimpArgs false

set_option maxRecDepth 100000
noncomputable section
namespace Go.Abs
open Go.Proofs
theorem mmAwakeB:entsOk Tryz.prog tryzExt mmSel (tabOf (mmAL++mmBL)) [(19,[],.bool true)]=true:=by kernel_rfl
theorem mmAwakeOk:EntsOk Tryz.prog [(19,[],.bool true)]:=entsOk_spec tryz_orders tryz_noNum tryz_ext (tabOf_ok (mmAOk.append mmBOk)) mmAwakeB
theorem awake_call (H:Heap):CallOk Tryz.prog (fun _=>none) 19 [] H (.bool true) H:=mmAwakeOk.call (List.mem_cons_self) H
end Go.Abs
end
