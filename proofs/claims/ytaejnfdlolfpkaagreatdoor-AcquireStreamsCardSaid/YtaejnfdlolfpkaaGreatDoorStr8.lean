/- Part 8 of the library that the proof of the statement uses: an abstract run of the program, proved right, and what its functions give. -/
import Derived.Test.YtaejnfdlolfpkaaGreatDoorStr7
set_option linter.unusedVariables false
set_option linter.unusedSimpArgs false

section
/- Calls: products of fractions. -/
set_option linter.unusedSimpArgs false
set_option maxRecDepth 100000
namespace Go.Abs
open Go.Proofs
def tabAL : List AwE := [
 (187, [.agg [.int .i64 (1), .nilslice, .int .i64 (1), .nilslice], .agg [.int .i64 (1), .nilslice, .int .i64 (1), .nilslice]], .agg [.int .i64 (1), .nilslice, .int .i64 (1), .nilslice]),
 (187, [.agg [.int .i64 (8), .nilslice, .int .i64 (1), .nilslice], .agg [.int .i64 (1), .nilslice, .int .i64 (1), .nilslice]], .agg [.int .i64 (8), .nilslice, .int .i64 (1), .nilslice]),
 (187, [.agg [.int .i64 (9), .nilslice, .int .i64 (1), .nilslice], .agg [.int .i64 (1), .nilslice, .int .i64 (2), .nilslice]], .agg [.int .i64 (9), .nilslice, .int .i64 (2), .nilslice]),
 (187, [.agg [.int .i64 (2), .nilslice, .int .i64 (1), .nilslice], .agg [.int .i64 (1), .nilslice, .int .i64 (1), .nilslice]], .agg [.int .i64 (2), .nilslice, .int .i64 (1), .nilslice]),
 (187, [.agg [.int .i64 (9), .nilslice, .int .i64 (1), .nilslice], .agg [.int .i64 (1), .nilslice, .int .i64 (1), .nilslice]], .agg [.int .i64 (9), .nilslice, .int .i64 (1), .nilslice]),
 (187, [.agg [.int .i64 (11), .nilslice, .int .i64 (1), .nilslice], .agg [.int .i64 (1), .nilslice, .int .i64 (2), .nilslice]], .agg [.int .i64 (11), .nilslice, .int .i64 (2), .nilslice]),
 (187, [.agg [.int .i64 (3), .nilslice, .int .i64 (1), .nilslice], .agg [.int .i64 (1), .nilslice, .int .i64 (1), .nilslice]], .agg [.int .i64 (3), .nilslice, .int .i64 (1), .nilslice]),
 (187, [.agg [.int .i64 (10), .nilslice, .int .i64 (1), .nilslice], .agg [.int .i64 (1), .nilslice, .int .i64 (1), .nilslice]], .agg [.int .i64 (10), .nilslice, .int .i64 (1), .nilslice]),
 (187, [.agg [.int .i64 (13), .nilslice, .int .i64 (1), .nilslice], .agg [.int .i64 (1), .nilslice, .int .i64 (2), .nilslice]], .agg [.int .i64 (13), .nilslice, .int .i64 (2), .nilslice]),
 (187, [.agg [.int .i64 (4), .nilslice, .int .i64 (1), .nilslice], .agg [.int .i64 (1), .nilslice, .int .i64 (1), .nilslice]], .agg [.int .i64 (4), .nilslice, .int .i64 (1), .nilslice]),
 (187, [.agg [.int .i64 (11), .nilslice, .int .i64 (1), .nilslice], .agg [.int .i64 (1), .nilslice, .int .i64 (1), .nilslice]], .agg [.int .i64 (11), .nilslice, .int .i64 (1), .nilslice]),
 (187, [.agg [.int .i64 (15), .nilslice, .int .i64 (1), .nilslice], .agg [.int .i64 (1), .nilslice, .int .i64 (2), .nilslice]], .agg [.int .i64 (15), .nilslice, .int .i64 (2), .nilslice]),
 (187, [.agg [.int .i64 (5), .nilslice, .int .i64 (1), .nilslice], .agg [.int .i64 (1), .nilslice, .int .i64 (1), .nilslice]], .agg [.int .i64 (5), .nilslice, .int .i64 (1), .nilslice]),
 (187, [.agg [.int .i64 (12), .nilslice, .int .i64 (1), .nilslice], .agg [.int .i64 (1), .nilslice, .int .i64 (1), .nilslice]], .agg [.int .i64 (12), .nilslice, .int .i64 (1), .nilslice]),
 (187, [.agg [.int .i64 (17), .nilslice, .int .i64 (1), .nilslice], .agg [.int .i64 (1), .nilslice, .int .i64 (2), .nilslice]], .agg [.int .i64 (17), .nilslice, .int .i64 (2), .nilslice]),
 (187, [.agg [.int .i64 (0), .nilslice, .int .i64 (1), .nilslice], .agg [.int .i64 (1), .nilslice, .int .i64 (1), .nilslice]], .agg [.int .i64 (0), .nilslice, .int .i64 (1), .nilslice])]
theorem tabAB : entsOk tryzSel (tabOf []) tabAL = true := by kernel_rfl
theorem tabAOk : EntsOk tabAL := entsOk_spec (tabOf_ok EntsOk.nil) tabAB
end Go.Abs
end

