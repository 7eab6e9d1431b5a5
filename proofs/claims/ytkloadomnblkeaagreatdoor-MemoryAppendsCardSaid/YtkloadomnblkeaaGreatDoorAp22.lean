/- Part 22 of the library of the proof: an abstract run of the program. -/
import Derived.Test.YtkloadomnblkeaaGreatDoorAp11
set_option linter.unusedVariables false
set_option linter.unusedSimpArgs false

set_option maxRecDepth 100000
noncomputable section
namespace Go.Abs
def rowAt' (s:SSt) (t:Tmp):Nat:=
 match s.tmps[t]? with
 | some (.s (.o (.b (.ptr r _))))=>r
 | _=>0
def varyT (t:Tmp) (s:SSt):Vary:=
 match doMv [.cell (rowAt' s t) 1 1] s with
 | s1=>⟨[.cell (rowAt' s t) 1 1],[s1]⟩
def waysQ:Ways:={ waysP with
 vary:=fun g b=>match Nat.beq g 24 with
  | true=>(match Nat.beq b 0 with | true=>some (varyT 5) | false=>none)
  | false=>match Nat.beq g 26||Nat.beq g 28 with
   | true=>(match Nat.beq b 0 with | true=>some (varyT 3) | false=>none)
   | false=>none }
end Go.Abs
end
