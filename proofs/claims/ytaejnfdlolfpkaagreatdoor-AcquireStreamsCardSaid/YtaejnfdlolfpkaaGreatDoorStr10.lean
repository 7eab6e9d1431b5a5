/- Part 10 of the library that the proof of the statement uses: an abstract run of the program, proved right, and what its functions give. -/
import Derived.Test.YtaejnfdlolfpkaaGreatDoorStr9
set_option linter.unusedVariables false
set_option linter.unusedSimpArgs false

section
/- The chapter's 'awake' returns true. -/
set_option linter.unusedSimpArgs false
set_option maxRecDepth 100000
namespace Go.Abs
open Go.Proofs
theorem awakeB : entsOk tryzSel (tabOf (tabAL ++ tabBL)) [(15, [], .bool true)] = true := by kernel_rfl
theorem awakeOk : EntsOk [(15, [], .bool true)] := entsOk_spec (tabOf_ok (tabAOk.append tabBOk)) awakeB
theorem awake_call (H : Heap) : CallOk Tryz.prog (fun _ => none) 15 [] H (.bool true) H := by
 obtain ⟨h1, H', h2⟩ := awakeOk _ (List.mem_cons_self)
 exact h2.anywhere (fun g cells h => by cases h) (fun x hx => by cases hx) h1 H
end Go.Abs
end

