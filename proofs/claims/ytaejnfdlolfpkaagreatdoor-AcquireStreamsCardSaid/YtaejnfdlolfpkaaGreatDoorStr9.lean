/- Part 9 of the library that the proof of the statement uses: an abstract run of the program, proved right, and what its functions give. -/
import Derived.Test.YtaejnfdlolfpkaaGreatDoorStr8
set_option linter.unusedVariables false
set_option linter.unusedSimpArgs false

section
/- Calls: exact numbers, comparisons, sums, quotients, texts. -/
set_option linter.unusedSimpArgs false
set_option maxRecDepth 100000
namespace Go.Abs
open Go.Proofs
def tabBL : List AwE := [
 (119, [.float .f32 1065353216], .agg [.int .i64 (1), .nilslice, .int .i64 (1), .nilslice]),
 (119, [.float .f32 1090519040], .agg [.int .i64 (8), .nilslice, .int .i64 (1), .nilslice]),
 (119, [.float .f32 1073741824], .agg [.int .i64 (2), .nilslice, .int .i64 (1), .nilslice]),
 (119, [.float .f32 1091567616], .agg [.int .i64 (9), .nilslice, .int .i64 (1), .nilslice]),
 (119, [.float .f32 1077936128], .agg [.int .i64 (3), .nilslice, .int .i64 (1), .nilslice]),
 (119, [.float .f32 1092616192], .agg [.int .i64 (10), .nilslice, .int .i64 (1), .nilslice]),
 (119, [.float .f32 1082130432], .agg [.int .i64 (4), .nilslice, .int .i64 (1), .nilslice]),
 (119, [.float .f32 1093664768], .agg [.int .i64 (11), .nilslice, .int .i64 (1), .nilslice]),
 (119, [.float .f32 1084227584], .agg [.int .i64 (5), .nilslice, .int .i64 (1), .nilslice]),
 (119, [.float .f32 1094713344], .agg [.int .i64 (12), .nilslice, .int .i64 (1), .nilslice]),
 (119, [.float .f32 0], .agg [.int .i64 (0), .nilslice, .int .i64 (1), .nilslice]),
 (120, [.agg [.int .i64 (0), .nilslice, .int .i64 (1), .nilslice], .agg [.int .i64 (2), .nilslice, .int .i64 (1), .nilslice]], .int .i64 (-1)),
 (120, [.agg [.int .i64 (0), .nilslice, .int .i64 (1), .nilslice], .agg [.int .i64 (1), .nilslice, .int .i64 (1), .nilslice]], .int .i64 (-1)),
 (120, [.agg [.int .i64 (2), .nilslice, .int .i64 (1), .nilslice], .agg [.int .i64 (2), .nilslice, .int .i64 (1), .nilslice]], .int .i64 (0)),
 (120, [.agg [.int .i64 (2), .nilslice, .int .i64 (1), .nilslice], .agg [.int .i64 (1), .nilslice, .int .i64 (1), .nilslice]], .int .i64 (1)),
 (120, [.agg [.int .i64 (3), .nilslice, .int .i64 (1), .nilslice], .agg [.int .i64 (2), .nilslice, .int .i64 (1), .nilslice]], .int .i64 (1)),
 (120, [.agg [.int .i64 (3), .nilslice, .int .i64 (1), .nilslice], .agg [.int .i64 (1), .nilslice, .int .i64 (1), .nilslice]], .int .i64 (1)),
 (120, [.agg [.int .i64 (1), .nilslice, .int .i64 (1), .nilslice], .agg [.int .i64 (2), .nilslice, .int .i64 (1), .nilslice]], .int .i64 (-1)),
 (120, [.agg [.int .i64 (1), .nilslice, .int .i64 (1), .nilslice], .agg [.int .i64 (1), .nilslice, .int .i64 (1), .nilslice]], .int .i64 (0)),
 (140, [.agg [.int .i64 (0), .nilslice, .int .i64 (1), .nilslice], .agg [.int .i64 (1), .nilslice, .int .i64 (1), .nilslice]], .agg [.int .i64 (1), .nilslice, .int .i64 (1), .nilslice]),
 (140, [.agg [.int .i64 (1), .nilslice, .int .i64 (1), .nilslice], .agg [.int .i64 (8), .nilslice, .int .i64 (1), .nilslice]], .agg [.int .i64 (9), .nilslice, .int .i64 (1), .nilslice]),
 (140, [.agg [.int .i64 (0), .nilslice, .int .i64 (1), .nilslice], .agg [.int .i64 (2), .nilslice, .int .i64 (1), .nilslice]], .agg [.int .i64 (2), .nilslice, .int .i64 (1), .nilslice]),
 (140, [.agg [.int .i64 (2), .nilslice, .int .i64 (1), .nilslice], .agg [.int .i64 (9), .nilslice, .int .i64 (1), .nilslice]], .agg [.int .i64 (11), .nilslice, .int .i64 (1), .nilslice]),
 (140, [.agg [.int .i64 (0), .nilslice, .int .i64 (1), .nilslice], .agg [.int .i64 (3), .nilslice, .int .i64 (1), .nilslice]], .agg [.int .i64 (3), .nilslice, .int .i64 (1), .nilslice]),
 (140, [.agg [.int .i64 (3), .nilslice, .int .i64 (1), .nilslice], .agg [.int .i64 (10), .nilslice, .int .i64 (1), .nilslice]], .agg [.int .i64 (13), .nilslice, .int .i64 (1), .nilslice]),
 (140, [.agg [.int .i64 (0), .nilslice, .int .i64 (1), .nilslice], .agg [.int .i64 (4), .nilslice, .int .i64 (1), .nilslice]], .agg [.int .i64 (4), .nilslice, .int .i64 (1), .nilslice]),
 (140, [.agg [.int .i64 (4), .nilslice, .int .i64 (1), .nilslice], .agg [.int .i64 (11), .nilslice, .int .i64 (1), .nilslice]], .agg [.int .i64 (15), .nilslice, .int .i64 (1), .nilslice]),
 (140, [.agg [.int .i64 (0), .nilslice, .int .i64 (1), .nilslice], .agg [.int .i64 (5), .nilslice, .int .i64 (1), .nilslice]], .agg [.int .i64 (5), .nilslice, .int .i64 (1), .nilslice]),
 (140, [.agg [.int .i64 (5), .nilslice, .int .i64 (1), .nilslice], .agg [.int .i64 (12), .nilslice, .int .i64 (1), .nilslice]], .agg [.int .i64 (17), .nilslice, .int .i64 (1), .nilslice]),
 (140, [.agg [.int .i64 (2), .nilslice, .int .i64 (1), .nilslice], .agg [.int .i64 (-1), .nilslice, .int .i64 (1), .nilslice]], .agg [.int .i64 (1), .nilslice, .int .i64 (1), .nilslice]),
 (141, [.agg [.int .i64 (9), .nilslice, .int .i64 (1), .nilslice], .agg [.int .i64 (2), .nilslice, .int .i64 (1), .nilslice]], .agg [.int .i64 (9), .nilslice, .int .i64 (2), .nilslice]),
 (141, [.agg [.int .i64 (11), .nilslice, .int .i64 (1), .nilslice], .agg [.int .i64 (2), .nilslice, .int .i64 (1), .nilslice]], .agg [.int .i64 (11), .nilslice, .int .i64 (2), .nilslice]),
 (141, [.agg [.int .i64 (13), .nilslice, .int .i64 (1), .nilslice], .agg [.int .i64 (2), .nilslice, .int .i64 (1), .nilslice]], .agg [.int .i64 (13), .nilslice, .int .i64 (2), .nilslice]),
 (141, [.agg [.int .i64 (15), .nilslice, .int .i64 (1), .nilslice], .agg [.int .i64 (2), .nilslice, .int .i64 (1), .nilslice]], .agg [.int .i64 (15), .nilslice, .int .i64 (2), .nilslice]),
 (141, [.agg [.int .i64 (17), .nilslice, .int .i64 (1), .nilslice], .agg [.int .i64 (2), .nilslice, .int .i64 (1), .nilslice]], .agg [.int .i64 (17), .nilslice, .int .i64 (2), .nilslice]),
 (190, [.agg [.int .i64 (1), .nilslice, .int .i64 (1), .nilslice]], .string ⟨#[49]⟩),
 (190, [.agg [.int .i64 (8), .nilslice, .int .i64 (1), .nilslice]], .string ⟨#[56]⟩),
 (190, [.agg [.int .i64 (2), .nilslice, .int .i64 (1), .nilslice]], .string ⟨#[50]⟩),
 (190, [.agg [.int .i64 (9), .nilslice, .int .i64 (1), .nilslice]], .string ⟨#[57]⟩),
 (190, [.agg [.int .i64 (3), .nilslice, .int .i64 (1), .nilslice]], .string ⟨#[51]⟩),
 (190, [.agg [.int .i64 (10), .nilslice, .int .i64 (1), .nilslice]], .string ⟨#[49, 48]⟩),
 (190, [.agg [.int .i64 (4), .nilslice, .int .i64 (1), .nilslice]], .string ⟨#[52]⟩),
 (190, [.agg [.int .i64 (11), .nilslice, .int .i64 (1), .nilslice]], .string ⟨#[49, 49]⟩),
 (190, [.agg [.int .i64 (5), .nilslice, .int .i64 (1), .nilslice]], .string ⟨#[53]⟩),
 (190, [.agg [.int .i64 (12), .nilslice, .int .i64 (1), .nilslice]], .string ⟨#[49, 50]⟩),
 (190, [.agg [.int .i64 (9), .nilslice, .int .i64 (2), .nilslice]], .string ⟨#[57, 47, 50]⟩),
 (190, [.agg [.int .i64 (11), .nilslice, .int .i64 (2), .nilslice]], .string ⟨#[49, 49, 47, 50]⟩),
 (190, [.agg [.int .i64 (13), .nilslice, .int .i64 (2), .nilslice]], .string ⟨#[49, 51, 47, 50]⟩),
 (190, [.agg [.int .i64 (15), .nilslice, .int .i64 (2), .nilslice]], .string ⟨#[49, 53, 47, 50]⟩),
 (190, [.agg [.int .i64 (17), .nilslice, .int .i64 (2), .nilslice]], .string ⟨#[49, 55, 47, 50]⟩),
 (190, [.agg [.int .i64 (0), .nilslice, .int .i64 (1), .nilslice]], .string ⟨#[48]⟩)]
theorem tabBB : entsOk tryzSel (tabOf tabAL) tabBL = true := by kernel_rfl
theorem tabBOk : EntsOk tabBL := entsOk_spec (tabOf_ok tabAOk) tabBB
end Go.Abs
end

