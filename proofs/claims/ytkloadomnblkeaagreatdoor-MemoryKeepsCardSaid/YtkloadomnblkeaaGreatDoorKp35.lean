/- Part 35 of the library that the proof of the statement uses: an abstract run of the program, proved right, and what its functions give. -/
import Derived.Test.YtkloadomnblkeaaGreatDoorKp34
set_option linter.unusedVariables false
set_option linter.unusedSimpArgs false

section
/- Entries: words that are packed and unpacked; the tables of the laws MemoryWords and MemoryKeeps. -/
set_option linter.unusedVariables false
set_option linter.unusedSimpArgs false
namespace Go.Abs
open Go.Proofs Classical

noncomputable def ePackW : Ent := fun args' R K => match args' with
  | [.list n cs] => guardO (shut (decide (Words n cs))) (K [.fz (shut ((if n > 4096 then [] else packW (intsOf cs)).length)) (shut (numsL .u8 (if n > 4096 then [] else packW (intsOf cs)))), .v (.int .i64 (shut (if n > 4096 then 5 else 0)))])
  | _ => none

theorem ePackW_72 : EntOk Tryz.prog 72 ePackW := by
  intro args' R K r ha h
  unfold ePackW at h
  split at h
  · rename_i n cs
    obtain ⟨h1, h2⟩ := guardO_some h
    rw [shut_eq] at h1
    have h1' := of_decide_eq_true h1
    refine ⟨[.fz ((if n > 4096 then [] else packW (intsOf cs)).length) (numsL .u8 (if n > 4096 then [] else packW (intsOf cs))), .v (.int .i64 (if n > 4096 then 5 else 0))], fun _ _ => by simp only [ePackW, shut_eq, decide_eq_true h1', guardO], ?_, con_of mz2_ok (W := waysP) (N := n + 300) (k := 8) (ms := [true, false]) ?_ ha ⟨numsL_plain, trivial⟩⟩
    · intro l hl; rcases List.mem_cons.1 hl with rfl | hl
      · exact (leaf_fz (numsL_plain))
      rcases List.mem_cons.1 hl with rfl | hl
      · exact leaf_int
      cases hl
    · refine (run_72' h1').trans ?_; by_cases h0 : n > 4096 <;> simp only [h0, if_true, if_false] <;> rfl
  · cases h

noncomputable def ePackWR : Ent := fun args' R K => match args' with
  | [.list n cs] => guardO (shut (decide (Words n cs ∧ n ≤ 4096))) (K [.fz (shut ((packW (intsOf cs)).length)) (shut (numsL .u8 (packW (intsOf cs))))])
  | _ => none

theorem ePackWR_74 : EntOk Tryz.prog 74 ePackWR := by
  intro args' R K r ha h
  unfold ePackWR at h
  split at h
  · rename_i n cs
    obtain ⟨h1, h2⟩ := guardO_some h
    rw [shut_eq] at h1
    have h1' := of_decide_eq_true h1
    refine ⟨[.fz ((packW (intsOf cs)).length) (numsL .u8 (packW (intsOf cs)))], fun _ _ => by simp only [ePackWR, shut_eq, decide_eq_true h1', guardO], ?_, con_of mz2_ok (W := waysP) (N := n + 300) (k := 8) (ms := [true]) ?_ ha ⟨numsL_plain, trivial⟩⟩
    · intro l hl; rcases List.mem_cons.1 hl with rfl | hl
      · exact (leaf_fz (numsL_plain))
      cases hl
    · exact run_74' h1'.1 h1'.2
  · cases h

noncomputable def eUnpW : Ent := fun args' R K => match args' with
  | [.list n cs] => guardO (shut (decide (Bytes n cs))) (K [.fz (shut ((okL (unpWR n (intsOf cs))).length)) (shut (numsL .u16 (okL (unpWR n (intsOf cs))))), .v (.int .i64 (shut (erE (unpWR n (intsOf cs)))))])
  | _ => none

theorem eUnpW_75 : EntOk Tryz.prog 75 eUnpW := by
  intro args' R K r ha h
  unfold eUnpW at h
  split at h
  · rename_i n cs
    obtain ⟨h1, h2⟩ := guardO_some h
    rw [shut_eq] at h1
    have h1' := of_decide_eq_true h1
    refine ⟨[.fz ((okL (unpWR n (intsOf cs))).length) (numsL .u16 (okL (unpWR n (intsOf cs)))), .v (.int .i64 (erE (unpWR n (intsOf cs))))], fun _ _ => by simp only [eUnpW, shut_eq, decide_eq_true h1', guardO], ?_, con_of mz2_ok (W := waysP) (N := n + 300) (k := 8) (ms := [true, false]) ?_ ha ⟨numsL_plain, trivial⟩⟩
    · intro l hl; rcases List.mem_cons.1 hl with rfl | hl
      · exact (leaf_fz (numsL_plain))
      rcases List.mem_cons.1 hl with rfl | hl
      · exact leaf_int
      cases hl
    · exact run_75' h1'
  · cases h

theorem eUnpW_73 : EntOk Tryz.prog 73 eUnpW := by
  intro args' R K r ha h
  unfold eUnpW at h
  split at h
  · rename_i n cs
    obtain ⟨h1, h2⟩ := guardO_some h
    rw [shut_eq] at h1
    have h1' := of_decide_eq_true h1
    refine ⟨[.fz ((okL (unpWR n (intsOf cs))).length) (numsL .u16 (okL (unpWR n (intsOf cs)))), .v (.int .i64 (erE (unpWR n (intsOf cs))))], fun _ _ => by simp only [eUnpW, shut_eq, decide_eq_true h1', guardO], ?_, con_of mzB_ok (W := waysP) (N := n + 300) (k := 12) (ms := [true, false]) ?_ ha ⟨numsL_plain, trivial⟩⟩
    · intro l hl; rcases List.mem_cons.1 hl with rfl | hl
      · exact (leaf_fz (numsL_plain))
      rcases List.mem_cons.1 hl with rfl | hl
      · exact leaf_int
      cases hl
    · exact run_73' h1'
  · cases h


noncomputable def mz10 : List (FuncId × Ent) := (19, eAwake) :: (72, ePackW) :: (74, ePackWR) :: (73, eUnpW) :: (75, eUnpW) :: (66, ePack) :: (67, eUnp) :: mz2
theorem mz10_ok : TabLOk Tryz.prog mz10 := ⟨eAwake_19, ePackW_72, ePackWR_74, eUnpW_73, eUnpW_75, ePack_66, eUnp_67, mz2_ok⟩

end Go.Abs
end

