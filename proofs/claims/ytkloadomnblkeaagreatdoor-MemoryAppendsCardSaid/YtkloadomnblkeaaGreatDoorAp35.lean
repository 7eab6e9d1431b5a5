/- Part 35 of the library of the proof: an abstract run of the program. -/
import Derived.Test.YtkloadomnblkeaaGreatDoorAp9
set_option linter.unusedVariables false
set_option linter.unusedSimpArgs false

set_option maxRecDepth 100000
noncomputable section
namespace Go.Abs
open Go.Proofs
def mmSel:FuncId->Nat:=selOf 182184494337199479313587592654750719332037874137624821111334527131341149991701315584
def mmAL:List AwE:=[
 (108,[.string ⟨#[49]⟩],.int .i64 (0)),
 (109,[.string ⟨#[49]⟩],.agg [.int .i64 (1),.nl 0 [],.int .i64 (1),.nl 0 []]),
 (145,[.float .f32 1077936128],.tuple [.string ⟨#[51]⟩,.int .i64 (0)]),
 (109,[.string ⟨#[51]⟩],.agg [.int .i64 (3),.nl 0 [],.int .i64 (1),.nl 0 []]),
 (145,[.float .f32 1065353216],.tuple [.string ⟨#[49]⟩,.int .i64 (0)]),
 (145,[.float .f32 1082130432],.tuple [.string ⟨#[52]⟩,.int .i64 (0)]),
 (109,[.string ⟨#[52]⟩],.agg [.int .i64 (4),.nl 0 [],.int .i64 (1),.nl 0 []]),
 (145,[.float .f32 1084227584],.tuple [.string ⟨#[53]⟩,.int .i64 (0)]),
 (109,[.string ⟨#[53]⟩],.agg [.int .i64 (5),.nl 0 [],.int .i64 (1),.nl 0 []]),
 (145,[.float .f32 1091567616],.tuple [.string ⟨#[57]⟩,.int .i64 (0)]),
 (109,[.string ⟨#[57]⟩],.agg [.int .i64 (9),.nl 0 [],.int .i64 (1),.nl 0 []]),
 (145,[.float .f32 1073741824],.tuple [.string ⟨#[50]⟩,.int .i64 (0)]),
 (109,[.string ⟨#[50]⟩],.agg [.int .i64 (2),.nl 0 [],.int .i64 (1),.nl 0 []])]
theorem mmAB:entsOk Tryz.prog tryzExt mmSel (tabOf []) mmAL=true:=by kernel_rfl
theorem mmAOk:EntsOk Tryz.prog mmAL:=entsOk_spec tryz_orders tryz_noNum tryz_ext (tabOf_ok EntsOk.nil) mmAB
def mmBL:List AwE:=[
 (112,[.agg [.int .i64 (3),.nl 0 [],.int .i64 (1),.nl 0 []],.agg [.int .i64 (1),.nl 0 [],.int .i64 (1),.nl 0 []]],.agg [.int .i64 (2),.nl 0 [],.int .i64 (1),.nl 0 []]),
 (113,[.agg [.int .i64 (2),.nl 0 [],.int .i64 (1),.nl 0 []],.agg [.int .i64 (1),.nl 0 [],.int .i64 (1),.nl 0 []]],.int .i64 (1)),
 (112,[.agg [.int .i64 (1),.nl 0 [],.int .i64 (1),.nl 0 []],.agg [.int .i64 (1),.nl 0 [],.int .i64 (1),.nl 0 []]],.agg [.int .i64 (0),.nl 0 [],.int .i64 (1),.nl 0 []]),
 (113,[.agg [.int .i64 (0),.nl 0 [],.int .i64 (1),.nl 0 []],.agg [.int .i64 (1),.nl 0 [],.int .i64 (1),.nl 0 []]],.int .i64 (-1)),
 (112,[.agg [.int .i64 (4),.nl 0 [],.int .i64 (1),.nl 0 []],.agg [.int .i64 (5),.nl 0 [],.int .i64 (1),.nl 0 []]],.agg [.int .i64 (-1),.nl 0 [],.int .i64 (1),.nl 0 []]),
 (113,[.agg [.int .i64 (-1),.nl 0 [],.int .i64 (1),.nl 0 []],.agg [.int .i64 (1),.nl 0 [],.int .i64 (1),.nl 0 []]],.int .i64 (-1)),
 (113,[.agg [.int .i64 (1),.nl 0 [],.int .i64 (1),.nl 0 []],.agg [.int .i64 (1),.nl 0 [],.int .i64 (1),.nl 0 []]],.int .i64 (0))]
theorem mmBB:entsOk Tryz.prog tryzExt mmSel (tabOf []) mmBL=true:=by kernel_rfl
theorem mmBOk:EntsOk Tryz.prog mmBL:=entsOk_spec tryz_orders tryz_noNum tryz_ext (tabOf_ok EntsOk.nil) mmBB
end Go.Abs
end
