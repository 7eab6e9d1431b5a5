/- Part 9 of the library of the proof: an abstract run of the program. -/
import Derived.Test.YtkloadomnblkeaaGreatDoorHt5
import Derived.Test.YtkloadomnblkeaaGreatDoorHt7
import Derived.Test.YtkloadomnblkeaaGreatDoorHt8
set_option linter.unusedVariables false
set_option linter.unusedSimpArgs false

noncomputable section
namespace Go.Abs
open Go.Proofs
def dA (l:List (FuncId × fr)) (W:Gw) (N k:Nat):sS:=fsG Tryz.prog Lk l W N k
def aK:Gw where
 oG:=fun _ _=>none
 D3:=fun _ _=>none
 join:=[]
 VW:=[3,4,5,6,7,8,9,10,11,12,13,14,15,16,17,18,19,20,21,22,23,24,25,26,27,28,29,30,31,32,33,34,35,36,37,38,39,40,41,42,43,44,45,46,47,48,49,50,51,52,53,54,55,56,57,58,59,60,61,62,63,64,65,66,67,68,69,70,71,72,73,74,75,76,77,78,79,80,81,82,83,84,85,86,87,88,89,90,91,92,93,94,95,96,97,98,99,100,101,102,103,104,105,106,107,108,109,110,111,112,113,114,115,116,117,118,119,120,121,122,123,124,125,126,127,128,129,130,131,132,133,134]
 CT:=[⟨69,23,169,251658368,[(7,.o (.b (.int .i64 0)))]⟩,
  ⟨70,54,113,18410715276690587680,[(5,.o (.b (.int .i64 0)))]⟩,
  ⟨70,23,241,4503599610593484,[(6,.o (.b (.int .i64 0))),(7,.o (.b (.int .i64 0)))]⟩,
  ⟨67,25,241,562949886312908,[(6,.o (.b (.int .i64 0))),(7,.o (.b (.int .i64 0)))]⟩]
 u0:=[⟨75,11,1152921504606847025,2305843009180139520,[(60,.o (.b (.bool false)))]⟩,
  ⟨74,5,4294967353,8589933568,[(32,.o (.b (.bool false)))]⟩,
  ⟨70,19,590295810358705651825,1162144876643701751808,[(69,.o (.b (.bool false)))]⟩,
  ⟨70,13,4398046511345,8793945538560,[(42,.o (.b (.bool false)))]⟩,
  ⟨67,14,8796093022705,17317308137472,[(43,.o (.b (.bool false)))]⟩,
  ⟨72,7,68719476849,137438937088,[(36,.o (.b (.bool false)))]⟩,
  ⟨68,6,16777225,33546240,[(24,.o (.b (.bool false)))]⟩,
  ⟨23,1,256,504,[(8,.o (.b (.bool false)))]⟩,
  ⟨29,20,2475880078570760549798249288,4951759861993615920243671040,[(91,.o (.b (.bool false)))]⟩,
  ⟨31,1,4194310,8388480,[(22,.o (.b (.bool false)))]⟩,
  ⟨49,1,2048,4064,[(11,.o (.b (.bool false)))]⟩,
  ⟨52,4,1073741957,2147418112,[(30,.o (.b (.bool false)))]⟩,
  ⟨56,6,268435923,536739840,[(28,.o (.b (.bool false)))]⟩,
  ⟨57,10,34359738377,68715282432,[(35,.o (.b (.bool false)))]⟩,
  ⟨58,6,4294967523,8589672448,[(32,.o (.b (.bool false)))]⟩]
 VX:=[]
theorem bf {l:List (FuncId × fr)} (hl:eZ Tryz.prog l) {W:Gw} {N k:Nat} {g:FuncId} {ai:List AV} {ms:List Bool} {d:List aa}
  (h:(dA l W N k).call (List aa) g (ai.map Jc) [] (bp ms)=some d) (ha:∀ x∈ai,lG x) (hp:iW d):tA Tryz.prog g ai d:=
 Li jd ka hl h ha hp
end Go.Abs
end
