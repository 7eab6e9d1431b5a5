/- Part 31 of the library of the proof: an abstract run of the program. -/
import Derived.Test.YtkloadomnblkeaaGreatDoorHt7
set_option linter.unusedVariables false
set_option linter.unusedSimpArgs false

set_option maxRecDepth 100000
noncomputable section
namespace Go.Abs
open Go.Proofs
def PR:FuncId->Nat:=abU 182184494337199479313587592654750719332037874137624821111334527131341149991701315584
def Xg:List PN:=[
 (108,[.string ⟨#[49]⟩],.int .i64 (0)),
 (109,[.string ⟨#[49]⟩],.agg [.int .i64 (1),.nl 0 [],.int .i64 (1),.nl 0 []]),
 (145,[.float .f32 1077936128],.tuple [.string ⟨#[51]⟩,.int .i64 (0)]),
 (109,[.string ⟨#[51]⟩],.agg [.int .i64 (3),.nl 0 [],.int .i64 (1),.nl 0 []]),
 (145,[.float .f32 1065353216],.tuple [.string ⟨#[49]⟩,.int .i64 (0)]),
 (145,[.float .f32 1082130432],.tuple [.string ⟨#[52]⟩,.int .i64 (0)]),
 (109,[.string ⟨#[52]⟩],.agg [.int .i64 (4),.nl 0 [],.int .i64 (1),.nl 0 []]),
 (145,[.float .f32 1084227584],.tuple [.string ⟨#[53]⟩,.int .i64 (0)]),
 (109,[.string ⟨#[53]⟩],.agg [.int .i64 (5),.nl 0 [],.int .i64 (1),.nl 0 []]),
 (145,[.float .f32 1091567616],.tuple [.string ⟨#[57]⟩,.int .i64 (0)]),
 (109,[.string ⟨#[57]⟩],.agg [.int .i64 (9),.nl 0 [],.int .i64 (1),.nl 0 []]),
 (145,[.float .f32 1073741824],.tuple [.string ⟨#[50]⟩,.int .i64 (0)]),
 (109,[.string ⟨#[50]⟩],.agg [.int .i64 (2),.nl 0 [],.int .i64 (1),.nl 0 []])]
theorem afs:u9 Tryz.prog tD PR (GB []) Xg=true:=by kernel_rfl
theorem abV:gu Tryz.prog Xg:=oL jd ka zJ (zI gu.nil) afs
def Xh:List PN:=[
 (112,[.agg [.int .i64 (3),.nl 0 [],.int .i64 (1),.nl 0 []],.agg [.int .i64 (1),.nl 0 [],.int .i64 (1),.nl 0 []]],.agg [.int .i64 (2),.nl 0 [],.int .i64 (1),.nl 0 []]),
 (113,[.agg [.int .i64 (2),.nl 0 [],.int .i64 (1),.nl 0 []],.agg [.int .i64 (1),.nl 0 [],.int .i64 (1),.nl 0 []]],.int .i64 (1)),
 (112,[.agg [.int .i64 (1),.nl 0 [],.int .i64 (1),.nl 0 []],.agg [.int .i64 (1),.nl 0 [],.int .i64 (1),.nl 0 []]],.agg [.int .i64 (0),.nl 0 [],.int .i64 (1),.nl 0 []]),
 (113,[.agg [.int .i64 (0),.nl 0 [],.int .i64 (1),.nl 0 []],.agg [.int .i64 (1),.nl 0 [],.int .i64 (1),.nl 0 []]],.int .i64 (-1)),
 (112,[.agg [.int .i64 (4),.nl 0 [],.int .i64 (1),.nl 0 []],.agg [.int .i64 (5),.nl 0 [],.int .i64 (1),.nl 0 []]],.agg [.int .i64 (-1),.nl 0 [],.int .i64 (1),.nl 0 []]),
 (113,[.agg [.int .i64 (-1),.nl 0 [],.int .i64 (1),.nl 0 []],.agg [.int .i64 (1),.nl 0 [],.int .i64 (1),.nl 0 []]],.int .i64 (-1)),
 (113,[.agg [.int .i64 (1),.nl 0 [],.int .i64 (1),.nl 0 []],.agg [.int .i64 (1),.nl 0 [],.int .i64 (1),.nl 0 []]],.int .i64 (0))]
theorem aft:u9 Tryz.prog tD PR (GB []) Xh=true:=by kernel_rfl
theorem abW:gu Tryz.prog Xh:=oL jd ka zJ (zI gu.nil) aft
end Go.Abs
end
