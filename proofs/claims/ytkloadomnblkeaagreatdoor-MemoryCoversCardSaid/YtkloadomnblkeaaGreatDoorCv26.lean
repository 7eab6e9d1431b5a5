/- Part 26 of the library that the proof of the statement uses: an abstract run of the program, proved right, and what its functions give. -/
import Derived.Test.YtkloadomnblkeaaGreatDoorCv25
set_option linter.unusedVariables false
set_option linter.unusedSimpArgs false

section
/- Functions of the Memory seat, lifted (printed by the tool gen2.py). -/
set_option maxRecDepth 100000
set_option linter.unusedVariables false
namespace Go.Abs
open Go.Proofs Classical

theorem run_174 (N : Nat) (a b : Int) : (fsM mz2 waysP N 8).call (List RLeaf) 174 [.ofB (.int .u64 a), .ofB (.int .u64 b)] [] (resK [false, false]) = (
 guardO (shut (decide ((0 : Int) ≤ (32 : Int)))) <|
 guardO (shut (decide ((0 : Int) ≤ (32 : Int)))) <|
 guardO (shut (decide ((0 : Int) ≤ (32 : Int)))) <|
 guardO (shut (decide ((0 : Int) ≤ (32 : Int)))) <|
 guardO (shut (decide ((0 : Int) ≤ (32 : Int)))) <|
 some ([RLeaf.v (AV.int IntKind.u64 (shut (IntKind.u64.wrap (shut (IntKind.u64.wrap (shut (IntKind.u64.wrap (shut (a.fdiv ((2 : Int) ^ 32)) * shut (b.fdiv ((2 : Int) ^ 32)))) + shut ((shut (IntKind.u64.wrap (shut (IntKind.u64.wrap (shut (a.fdiv ((2 : Int) ^ 32)) * shut (Go.bits Go.BinOp.and IntKind.u64 b (4294967295 : Int)))) + shut ((shut (IntKind.u64.wrap (shut (Go.bits Go.BinOp.and IntKind.u64 a (4294967295 : Int)) * shut (Go.bits Go.BinOp.and IntKind.u64 b (4294967295 : Int))))).fdiv ((2 : Int) ^ 32))))).fdiv ((2 : Int) ^ 32)))) + shut ((shut (IntKind.u64.wrap (shut (Go.bits Go.BinOp.and IntKind.u64 (shut (IntKind.u64.wrap (shut (IntKind.u64.wrap (shut (a.fdiv ((2 : Int) ^ 32)) * shut (Go.bits Go.BinOp.and IntKind.u64 b (4294967295 : Int)))) + shut ((shut (IntKind.u64.wrap (shut (Go.bits Go.BinOp.and IntKind.u64 a (4294967295 : Int)) * shut (Go.bits Go.BinOp.and IntKind.u64 b (4294967295 : Int))))).fdiv ((2 : Int) ^ 32))))) (4294967295 : Int)) + shut (IntKind.u64.wrap (shut (Go.bits Go.BinOp.and IntKind.u64 a (4294967295 : Int)) * shut (b.fdiv ((2 : Int) ^ 32))))))).fdiv ((2 : Int) ^ 32)))))), RLeaf.v (AV.int IntKind.u64 (shut (IntKind.u64.wrap (a * b))))])) := by kernel_rfl


end Go.Abs
end

