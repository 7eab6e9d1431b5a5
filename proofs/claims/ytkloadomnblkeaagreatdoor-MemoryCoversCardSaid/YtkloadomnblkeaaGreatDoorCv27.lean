/- Part 27 of the library that the proof of the statement uses: an abstract run of the program, proved right, and what its functions give. -/
import Derived.Test.YtkloadomnblkeaaGreatDoorCv26
set_option linter.unusedVariables false
set_option linter.unusedSimpArgs false

section
/- Words that are repeated: entries of the functions that the program's UnpackWords asks. -/
set_option linter.unusedVariables false
set_option linter.unusedSimpArgs false
namespace Go.Abs
open Go.Proofs Classical

noncomputable def eMul64 : Ent := fun args' R K => match args' with
  | [.int .u64 a, .int .u64 b] => guardO (shut (decide (0 ≤ a ∧ a < 18446744073709551616 ∧ 0 ≤ b ∧ b < 18446744073709551616))) (K [.v (.int .u64 (shut (a * b / 18446744073709551616))), .v (.int .u64 (shut (a * b % 18446744073709551616)))])
  | _ => none

theorem eMul64_174 : EntOk Tryz.prog 174 eMul64 := by
  intro args' R K r ha h
  unfold eMul64 at h
  split at h
  · rename_i a b
    obtain ⟨h1, h2⟩ := guardO_some h
    rw [shut_eq] at h1
    have h1' := of_decide_eq_true h1
    refine ⟨[.v (.int .u64 (a * b / 18446744073709551616)), .v (.int .u64 (a * b % 18446744073709551616))], fun _ _ => by simp only [eMul64, shut_eq, decide_eq_true h1', guardO], ?_, con_of mz2_ok (W := waysP) (N := 1) (k := 8) (ms := [false, false]) ?_ ha trivial⟩
    · intro l hl; rcases List.mem_cons.1 hl with rfl | hl
      · exact leaf_int
      rcases List.mem_cons.1 hl with rfl | hl
      · exact leaf_int
      cases hl
    · refine (run_174 _ a b).trans ?_; simp only [shut_eq, guardO_dec, show ((0 : Int) ≤ 32) = True from eq_true (by omega), if_true, mul64_hi h1'.1 h1'.2.1 h1'.2.2.1 h1'.2.2.2]; rw [wrapu64' (a * b)]
  · cases h


noncomputable def mzA : List (FuncId × Ent) := (174, eMul64) :: mz2
theorem mzA_ok : TabLOk Tryz.prog mzA := ⟨eMul64_174, mz2_ok⟩

end Go.Abs
end

