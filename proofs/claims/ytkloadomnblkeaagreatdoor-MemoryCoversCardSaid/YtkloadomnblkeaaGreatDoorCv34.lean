/- Part 34 of the library that the proof of the statement uses: an abstract run of the program, proved right, and what its functions give. -/
import Derived.Test.YtkloadomnblkeaaGreatDoorCv33
set_option linter.unusedVariables false
set_option linter.unusedSimpArgs false

section
/- Entries of the small functions of covers. -/
set_option linter.unusedVariables false
set_option linter.unusedSimpArgs false
namespace Go.Abs
open Go.Proofs Classical

noncomputable def eLevN : Ent := fun args' R K => match args' with
  | [.int .i64 a, .int .i64 n] => guardO (shut (decide (1 ≤ a ∧ a ≤ 256 ∧ 0 ≤ n ∧ n ≤ 4096))) (K [.v (.int .i64 (shut ((levN a n : Int))))])
  | _ => none

theorem eLevN_90 : EntOk Tryz.prog 90 eLevN := by
  intro args' R K r ha h
  unfold eLevN at h
  split at h
  · rename_i a n
    obtain ⟨h1, h2⟩ := guardO_some h
    rw [shut_eq] at h1
    have h1' := of_decide_eq_true h1
    refine ⟨[.v (.int .i64 ((levN a n : Int)))], fun _ _ => by simp only [eLevN, shut_eq, decide_eq_true h1', guardO], ?_, con_of mz2_ok (W := waysP) (N := 14) (k := 12) (ms := [false]) ?_ ha trivial⟩
    · intro l hl; rcases List.mem_cons.1 hl with rfl | hl
      · exact leaf_int
      cases hl
    · exact run_90' h1'.1 h1'.2.1 h1'.2.2.1 h1'.2.2.2
  · cases h

noncomputable def eEnds : Ent := fun args' R K => match args' with
  | [.int .i64 a, .int .i64 n, .agg [.int .i64 l, .int .i64 i]] => guardO (shut (decide (1 ≤ a ∧ a ≤ 256 ∧ 0 ≤ n ∧ n ≤ 4096 ∧ l ≤ 13 ∧ 0 ≤ i ∧ i ≤ 4096))) (K [.v (.int .i64 (shut ((endsL a n l i).1))), .v (.int .i64 (shut ((endsL a n l i).2)))])
  | _ => none

theorem eEnds_78 : EntOk Tryz.prog 78 eEnds := by
  intro args' R K r ha h
  unfold eEnds at h
  split at h
  · rename_i a n l i
    obtain ⟨h1, h2⟩ := guardO_some h
    rw [shut_eq] at h1
    have h1' := of_decide_eq_true h1
    refine ⟨[.v (.int .i64 ((endsL a n l i).1)), .v (.int .i64 ((endsL a n l i).2))], fun _ _ => by simp only [eEnds, shut_eq, decide_eq_true h1', guardO], ?_, con_of mz2_ok (W := waysP) (N := 15) (k := 12) (ms := [false, false]) ?_ ha trivial⟩
    · intro l hl; rcases List.mem_cons.1 hl with rfl | hl
      · exact leaf_int
      rcases List.mem_cons.1 hl with rfl | hl
      · exact leaf_int
      cases hl
    · exact run_78' h1'.1 h1'.2.1 h1'.2.2.1 h1'.2.2.2.1 h1'.2.2.2.2.1 h1'.2.2.2.2.2.1 h1'.2.2.2.2.2.2
  · cases h

noncomputable def eSameN : Ent := fun args' R K => match args' with
  | [.list n cs, .list m ds] => guardO (shut (decide (Prs n cs ∧ Prs m ds))) (K [.v (.bool (shut (decide (intsOf cs = intsOf ds))))])
  | _ => none

theorem eSameN_33 : EntOk Tryz.prog 33 eSameN := by
  intro args' R K r ha h
  unfold eSameN at h
  split at h
  · rename_i n cs m ds
    obtain ⟨h1, h2⟩ := guardO_some h
    rw [shut_eq] at h1
    have h1' := of_decide_eq_true h1
    refine ⟨[.v (.bool (decide (intsOf cs = intsOf ds)))], fun _ _ => by simp only [eSameN, shut_eq, decide_eq_true h1', guardO], ?_, con_of mz2_ok (W := waysP) (N := n + 1) (k := 12) (ms := [false]) ?_ ha trivial⟩
    · intro l hl; rcases List.mem_cons.1 hl with rfl | hl
      · exact leaf_bool
      cases hl
    · exact run_33' h1'.1 h1'.2
  · cases h

noncomputable def eNodes : Ent := fun args' R K => match args' with
  | [.list n cs] => guardO (shut (decide (Prs n cs))) (K [.fz (shut (n)) (shut (cs))])
  | _ => none

theorem eNodes_34 : EntOk Tryz.prog 34 eNodes := by
  intro args' R K r ha h
  unfold eNodes at h
  split at h
  · rename_i n cs
    obtain ⟨h1, h2⟩ := guardO_some h
    rw [shut_eq] at h1
    have h1' := of_decide_eq_true h1
    refine ⟨[.fz (n) (cs)], fun _ _ => by simp only [eNodes, shut_eq, decide_eq_true h1', guardO], ?_, con_of mz2_ok (W := waysP) (N := n + 1) (k := 12) (ms := [true]) ?_ ha ⟨h1'.plain, trivial⟩⟩
    · intro l hl; rcases List.mem_cons.1 hl with rfl | hl
      · exact (leaf_fz (h1'.plain))
      cases hl
    · exact run_34' h1'
  · cases h

noncomputable def eChk : Ent := fun args' R K => match args' with
  | [.int .i64 a, .int .i64 b, .int .i64 c] => K [.v (.int .i64 (shut (if b < 0 ∨ b > a then 3 else if c < 0 ∨ c > a then 3 else if c < b then 11 else 0)))]
  | _ => none

theorem eChk_88 : EntOk Tryz.prog 88 eChk := by
  intro args' R K r ha h
  unfold eChk at h
  split at h
  · rename_i a b c
    refine ⟨[.v (.int .i64 (if b < 0 ∨ b > a then 3 else if c < 0 ∨ c > a then 3 else if c < b then 11 else 0))], fun _ _ => by simp only [eChk, shut_eq], ?_, con_of mz2_ok (W := waysP) (N := 1) (k := 12) (ms := [false]) ?_ ha trivial⟩
    · intro l hl; rcases List.mem_cons.1 hl with rfl | hl
      · exact leaf_int
      cases hl
    · exact run_88'
  · cases h


noncomputable def mzC : List (FuncId × Ent) := (90, eLevN) :: (78, eEnds) :: (33, eSameN) :: (34, eNodes) :: (88, eChk) :: mz2
theorem mzC_ok : TabLOk Tryz.prog mzC := ⟨eLevN_90, eEnds_78, eSameN_33, eNodes_34, eChk_88, mz2_ok⟩

end Go.Abs
end

