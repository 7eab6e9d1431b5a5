/- Part 10 of the library that the proof of the statement uses: an abstract run of the program, proved right, and what its functions give. -/
import Derived.Test.YtaejnfdlolfpkaaGreatDoorStm9
set_option linter.unusedVariables false
set_option linter.unusedSimpArgs false

section
/- The table with the chapter's 'awake'. -/
namespace Go.Abs
open Go.Proofs Classical

noncomputable def eAwake : Ent := fun args' R K => match args' with
  | [] => K [.v (.bool true)]
  | _ => none

theorem eAwake_15 : EntOk Tryz.prog 15 eAwake := by
  intro args' R K r ha h
  unfold eAwake at h
  split at h
  · refine ⟨[.v (.bool true)], fun _ _ => rfl, fun l hl => by simp only [List.mem_singleton] at hl; subst hl; exact leaf_bool, ?_⟩
    intro H args bor hn hb
    have : args = [] := by
      cases args with
      | nil => rfl
      | cons x xs =>
        simp only [normArgs] at hn
        split at hn
        · simp at hn
        · cases hn
    subst this
    exact awake_call H
  · cases h

noncomputable def tz6 : List (FuncId × Ent) := (15, eAwake) :: tz5

theorem tz6_ok : TabLOk Tryz.prog tz6 := ⟨eAwake_15, tz5_ok⟩

end Go.Abs
end

