/- Part 31 of the library that the proof of the statement uses: an abstract run of the program, proved right, and what its functions give. -/
import Derived.Test.YtkloadomnblkeaaGreatDoorKp30
set_option linter.unusedVariables false
set_option linter.unusedSimpArgs false

section
/- Entries: codes that are packed and unpacked. -/
set_option linter.unusedVariables false
set_option linter.unusedSimpArgs false
namespace Go.Abs
open Go.Proofs Classical

noncomputable def ePack : Ent := fun args' R K => match args' with
  | [.list n cs] => guardO (shut (decide (Ints n cs))) (K [.fz (shut ((packR n (intsOf cs)).1.length)) (shut (numsL .u8 (packR n (intsOf cs)).1)), .v (.int .i64 (shut ((packR n (intsOf cs)).2)))])
  | _ => none

theorem ePack_66 : EntOk Tryz.prog 66 ePack := by
  intro args' R K r ha h
  unfold ePack at h
  split at h
  · rename_i n cs
    obtain ⟨h1, h2⟩ := guardO_some h
    rw [shut_eq] at h1
    have h1' := of_decide_eq_true h1
    refine ⟨[.fz ((packR n (intsOf cs)).1.length) (numsL .u8 (packR n (intsOf cs)).1), .v (.int .i64 ((packR n (intsOf cs)).2))], fun _ _ => by simp only [ePack, shut_eq, decide_eq_true h1', guardO], ?_, con_of mz2_ok (W := waysP) (N := n + 1) (k := 8) (ms := [true, false]) ?_ ha ⟨numsL_plain, trivial⟩⟩
    · intro l hl; rcases List.mem_cons.1 hl with rfl | hl
      · exact (leaf_fz (numsL_plain))
      rcases List.mem_cons.1 hl with rfl | hl
      · exact leaf_int
      cases hl
    · exact run_66' h1'
  · cases h

noncomputable def ePackR : Ent := fun args' R K => match args' with
  | [.list n cs] => guardO (shut (decide (Ints n cs ∧ codesE n (intsOf cs) = 0))) (K [.fz (shut ((packL 0 (intsOf cs)).length)) (shut (numsL .u8 (packL 0 (intsOf cs))))])
  | _ => none

theorem ePackR_69 : EntOk Tryz.prog 69 ePackR := by
  intro args' R K r ha h
  unfold ePackR at h
  split at h
  · rename_i n cs
    obtain ⟨h1, h2⟩ := guardO_some h
    rw [shut_eq] at h1
    have h1' := of_decide_eq_true h1
    refine ⟨[.fz ((packL 0 (intsOf cs)).length) (numsL .u8 (packL 0 (intsOf cs)))], fun _ _ => by simp only [ePackR, shut_eq, decide_eq_true h1', guardO], ?_, con_of mz2_ok (W := waysP) (N := n + 1) (k := 8) (ms := [true]) ?_ ha ⟨numsL_plain, trivial⟩⟩
    · intro l hl; rcases List.mem_cons.1 hl with rfl | hl
      · exact (leaf_fz (numsL_plain))
      cases hl
    · exact run_69' h1'.1 h1'.2
  · cases h

noncomputable def eUnp : Ent := fun args' R K => match args' with
  | [.list n cs] => guardO (shut (decide (Bytes n cs))) (K [.fz (shut ((okL (unpR n (intsOf cs))).length)) (shut (numsL .i64 (okL (unpR n (intsOf cs))))), .v (.int .i64 (shut (erE (unpR n (intsOf cs)))))])
  | _ => none

theorem eUnp_67 : EntOk Tryz.prog 67 eUnp := by
  intro args' R K r ha h
  unfold eUnp at h
  split at h
  · rename_i n cs
    obtain ⟨h1, h2⟩ := guardO_some h
    rw [shut_eq] at h1
    have h1' := of_decide_eq_true h1
    refine ⟨[.fz ((okL (unpR n (intsOf cs))).length) (numsL .i64 (okL (unpR n (intsOf cs)))), .v (.int .i64 (erE (unpR n (intsOf cs))))], fun _ _ => by simp only [eUnp, shut_eq, decide_eq_true h1', guardO], ?_, con_of mz2_ok (W := waysP) (N := n + 1) (k := 8) (ms := [true, false]) ?_ ha ⟨numsL_plain, trivial⟩⟩
    · intro l hl; rcases List.mem_cons.1 hl with rfl | hl
      · exact (leaf_fz (numsL_plain))
      rcases List.mem_cons.1 hl with rfl | hl
      · exact leaf_int
      cases hl
    · exact run_67' h1'
  · cases h

theorem eUnp_70 : EntOk Tryz.prog 70 eUnp := by
  intro args' R K r ha h
  unfold eUnp at h
  split at h
  · rename_i n cs
    obtain ⟨h1, h2⟩ := guardO_some h
    rw [shut_eq] at h1
    have h1' := of_decide_eq_true h1
    refine ⟨[.fz ((okL (unpR n (intsOf cs))).length) (numsL .i64 (okL (unpR n (intsOf cs)))), .v (.int .i64 (erE (unpR n (intsOf cs))))], fun _ _ => by simp only [eUnp, shut_eq, decide_eq_true h1', guardO], ?_, con_of mz2_ok (W := waysP) (N := n + 1) (k := 8) (ms := [true, false]) ?_ ha ⟨numsL_plain, trivial⟩⟩
    · intro l hl; rcases List.mem_cons.1 hl with rfl | hl
      · exact (leaf_fz (numsL_plain))
      rcases List.mem_cons.1 hl with rfl | hl
      · exact leaf_int
      cases hl
    · exact run_70' h1'
  · cases h

end Go.Abs
end

