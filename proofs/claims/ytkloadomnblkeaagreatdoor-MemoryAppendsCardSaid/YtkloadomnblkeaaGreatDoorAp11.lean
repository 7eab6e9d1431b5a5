/- Part 11 of the library of the proof: an abstract run of the program. -/
import Derived.Test.YtkloadomnblkeaaGreatDoorAp7
import Derived.Test.YtkloadomnblkeaaGreatDoorAp9
import Derived.Test.YtkloadomnblkeaaGreatDoorAp10
set_option linter.unusedVariables false
set_option linter.unusedSimpArgs false

noncomputable section
namespace Go.Abs
open Go.Proofs
def fsM (l:List (FuncId × Ent)) (W:Ways) (N k:Nat):FnS:=fsG Tryz.prog mmMasks l W N k
def waysP:Ways where
 vary:=fun _ _=>none
 unroll:=fun _ _=>none
 join:=[]
 picks:=[3,4,5,6,7,8,9,10,11,12,13,14,15,16,17,18,19,20,21,22,23,24,25,26,27,28,29,30,31,32,33,34,35,36,37,38,39,40,41,42,43,44,45,46,47,48,49,50,51,52,53,54,55,56,57,58,59,60,61,62,63,64,65,66,67,68,69,70,71,72,73,74,75,76,77,78,79,80,81,82,83,84,85,86,87,88,89,90,91,92,93,94,95,96,97,98,99,100,101,102,103,104,105,106,107,108,109,110,111,112,113,114,115,116,117,118,119,120,121,122,123,124,125,126,127,128,129,130,131,132,133,134]
 joins:=[⟨69,23,169,251658368,[(7,.o (.b (.int .i64 0)))]⟩,
  ⟨70,54,113,18410715276690587680,[(5,.o (.b (.int .i64 0)))]⟩,
  ⟨70,23,241,4503599610593484,[(6,.o (.b (.int .i64 0))),(7,.o (.b (.int .i64 0)))]⟩,
  ⟨67,25,241,562949886312908,[(6,.o (.b (.int .i64 0))),(7,.o (.b (.int .i64 0)))]⟩]
 rjoins:=[⟨75,11,1152921504606847025,2305843009180139520,[(60,.o (.b (.bool false)))]⟩,
  ⟨74,5,4294967353,8589933568,[(32,.o (.b (.bool false)))]⟩,
  ⟨70,19,590295810358705651825,1162144876643701751808,[(69,.o (.b (.bool false)))]⟩,
  ⟨70,13,4398046511345,8793945538560,[(42,.o (.b (.bool false)))]⟩,
  ⟨67,14,8796093022705,17317308137472,[(43,.o (.b (.bool false)))]⟩,
  ⟨72,7,68719476849,137438937088,[(36,.o (.b (.bool false)))]⟩,
  ⟨68,6,16777225,33546240,[(24,.o (.b (.bool false)))]⟩,
  ⟨23,1,256,504,[(8,.o (.b (.bool false)))]⟩,
  ⟨29,20,2475880078570760549798249288,4951759861993615920243671040,[(91,.o (.b (.bool false)))]⟩,
  ⟨31,1,4194310,8388480,[(22,.o (.b (.bool false)))]⟩,
  ⟨49,1,2048,4064,[(11,.o (.b (.bool false)))]⟩,
  ⟨52,4,1073741957,2147418112,[(30,.o (.b (.bool false)))]⟩,
  ⟨56,6,268435923,536739840,[(28,.o (.b (.bool false)))]⟩,
  ⟨57,10,34359738377,68715282432,[(35,.o (.b (.bool false)))]⟩,
  ⟨58,6,4294967523,8589672448,[(32,.o (.b (.bool false)))]⟩]
 deeps:=[]
theorem con_of {l:List (FuncId × Ent)} (hl:TabLOk Tryz.prog l) {W:Ways} {N k:Nat} {g:FuncId} {args':List AV} {ms:List Bool} {d:List RLeaf}
  (h:(fsM l W N k).call (List RLeaf) g (args'.map symA) [] (resK ms)=some d) (ha:∀ x∈args',ArgOk x) (hp:FzPlain d):Contract Tryz.prog g args' d:=
 con_ofG tryz_orders tryz_noNum hl h ha hp
end Go.Abs
end
