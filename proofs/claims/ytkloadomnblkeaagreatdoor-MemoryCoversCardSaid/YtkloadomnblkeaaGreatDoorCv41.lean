/- Part 41 of the library that the proof of the statement uses: an abstract run of the program, proved right, and what its functions give. -/
import Derived.Test.YtkloadomnblkeaaGreatDoorCv40
set_option linter.unusedVariables false
set_option linter.unusedSimpArgs false

section
/- Entries: covers; the table of MemoryCovers. -/
set_option linter.unusedVariables false
set_option linter.unusedSimpArgs false
namespace Go.Abs
open Go.Proofs Classical

noncomputable def eCover : Ent := fun args' R K => match args' with
  | [.int .i64 a, .int .i64 n, .int .i64 f, .int .i64 t] => K [.fz (shut ((covL a n f t).length / 2)) (shut (numsL .i64 (covL a n f t))), .v (.int .i64 (shut (covE a n f t)))]
  | _ => none

theorem eCover_30 : EntOk Tryz.prog 30 eCover := by
  intro args' R K r ha h
  unfold eCover at h
  split at h
  · rename_i a n f t
    refine ⟨[.fz ((covL a n f t).length / 2) (numsL .i64 (covL a n f t)), .v (.int .i64 (covE a n f t))], fun _ _ => by simp only [eCover, shut_eq], ?_, con_of mzC_ok (W := waysP) (N := 5000) (k := 12) (ms := [true, false]) ?_ ha ⟨numsL_plain, trivial⟩⟩
    · intro l hl; rcases List.mem_cons.1 hl with rfl | hl
      · exact (leaf_fz (numsL_plain))
      rcases List.mem_cons.1 hl with rfl | hl
      · exact leaf_int
      cases hl
    · exact run_30'
  · cases h

noncomputable def eCoverR : Ent := fun args' R K => match args' with
  | [.int .i64 a, .int .i64 n, .int .i64 f, .int .i64 t] => guardO (shut (decide (1 ≤ a ∧ a ≤ 256 ∧ 0 ≤ n ∧ n ≤ 4096 ∧ 0 ≤ f ∧ t ≤ n ∧ f ≤ t))) (K [.fz (shut ((coverL a n t 4097 f).length / 2)) (shut (numsL .i64 (coverL a n t 4097 f)))])
  | _ => none

theorem eCoverR_32 : EntOk Tryz.prog 32 eCoverR := by
  intro args' R K r ha h
  unfold eCoverR at h
  split at h
  · rename_i a n f t
    obtain ⟨h1, h2⟩ := guardO_some h
    rw [shut_eq] at h1
    have h1' := of_decide_eq_true h1
    refine ⟨[.fz ((coverL a n t 4097 f).length / 2) (numsL .i64 (coverL a n t 4097 f))], fun _ _ => by simp only [eCoverR, shut_eq, decide_eq_true h1', guardO], ?_, con_of mzC_ok (W := waysP) (N := 5000) (k := 12) (ms := [true]) ?_ ha ⟨numsL_plain, trivial⟩⟩
    · intro l hl; rcases List.mem_cons.1 hl with rfl | hl
      · exact (leaf_fz (numsL_plain))
      cases hl
    · exact run_32' h1'.1 h1'.2.1 h1'.2.2.1 h1'.2.2.2.1 h1'.2.2.2.2.1 h1'.2.2.2.2.2.1 h1'.2.2.2.2.2.2
  · cases h


noncomputable def mzD : List (FuncId × Ent) := (19, eAwake) :: (30, eCover) :: (32, eCoverR) :: mzC
theorem mzD_ok : TabLOk Tryz.prog mzD := ⟨eAwake_19, eCover_30, eCoverR_32, mzC_ok⟩

end Go.Abs
end

