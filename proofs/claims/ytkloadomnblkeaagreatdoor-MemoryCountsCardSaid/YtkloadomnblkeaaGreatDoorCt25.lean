/- Part 25 of the library that the proof of the statement uses: an abstract run of the program, proved right, and what its functions give. -/
import Derived.Test.YtkloadomnblkeaaGreatDoorCt24
set_option linter.unusedVariables false
set_option linter.unusedSimpArgs false

section
/- The copy of samples, lifted; its entry. -/
set_option maxRecDepth 100000
set_option linter.unusedVariables false
set_option linter.unusedSimpArgs false
namespace Go.Abs
open Go.Proofs Classical

theorem run_21 (N : Nat) (n : Nat) (cs : List AV) : (fsM mzC waysP N 12).call (List RLeaf) 21 [.ofB (.list n cs)] [] (resK [true]) = (
 guardO (shut (decide (cs.length = n * 1))) <|
 guardO (shut (decide ((0 + n) * 5 ≤ 549755813888))) <|
 some ([RLeaf.fz (0 + n) (zrow (ofV (Go.Value.float Go.FloatKind.f32 0)).cells 0 ++ cs)])) := by kernel_rfl


theorem flos_plain {n : Nat} {cs : List AV} (h : Flos n cs) : ∀ c ∈ cs, PlainC c := by
  rw [h.2.1]; exact flosL_plain

theorem run_21' {n : Nat} {cs : List AV} (h : Flos n cs) (hn : n ≤ 100000000) : (fsM mzC waysP 1 12).call (List RLeaf) 21 [.ofB (.list n cs)] [] (resK [true]) = some [.fz n cs] := by
  rw [run_21]
  have hl := h.2.2
  have g1 : (cs.length = n * 1) = True := eq_true (by omega)
  have g2 : (n * 5 ≤ 549755813888) = True := eq_true (by omega)
  simp only [shut_eq, guardO_dec, g1, g2, if_true, Nat.zero_add]
  rfl

noncomputable def eCopyF : Ent := fun args' R K => match args' with
  | [.list n cs] => guardO (shut (decide (Flos n cs ∧ n ≤ 100000000))) (K [.fz (shut (n)) (shut (cs))])
  | _ => none

theorem eCopyF_21 : EntOk Tryz.prog 21 eCopyF := by
  intro args' R K r ha h
  unfold eCopyF at h
  split at h
  · rename_i n cs
    obtain ⟨h1, h2⟩ := guardO_some h
    rw [shut_eq] at h1
    have h1' := of_decide_eq_true h1
    refine ⟨[.fz (n) (cs)], fun _ _ => by simp only [eCopyF, shut_eq, decide_eq_true h1', guardO], ?_, con_of mzC_ok (W := waysP) (N := 1) (k := 12) (ms := [true]) ?_ ha ⟨(flos_plain h1'.1), trivial⟩⟩
    · intro l hl; rcases List.mem_cons.1 hl with rfl | hl
      · exact (leaf_fz ((flos_plain h1'.1)))
      cases hl
    · exact run_21' h1'.1 h1'.2
  · cases h


end Go.Abs
end

section
/- Entries: Decimated. -/
set_option linter.unusedVariables false
set_option linter.unusedSimpArgs false
namespace Go.Abs
open Go.Proofs Classical

noncomputable def eDec : Ent := fun args' R K => match args' with
  | [.list n cs, .int .i64 a] => guardO (shut (decide (Flos n cs))) (K [.fz (shut ((decV n (flosOf cs) a).length)) (shut (flosL (decV n (flosOf cs) a))), .v (.int .i64 (shut (decE n (flosOf cs) a)))])
  | _ => none

theorem eDec_55 : EntOk Tryz.prog 55 eDec := by
  intro args' R K r ha h
  unfold eDec at h
  split at h
  · rename_i n cs a
    obtain ⟨h1, h2⟩ := guardO_some h
    rw [shut_eq] at h1
    have h1' := of_decide_eq_true h1
    refine ⟨[.fz ((decV n (flosOf cs) a).length) (flosL (decV n (flosOf cs) a)), .v (.int .i64 (decE n (flosOf cs) a))], fun _ _ => by simp only [eDec, shut_eq, decide_eq_true h1', guardO], ?_, con_of mzC_ok (W := waysP) (N := n + 2100) (k := 12) (ms := [true, false]) ?_ ha ⟨flosL_plain, trivial⟩⟩
    · intro l hl; rcases List.mem_cons.1 hl with rfl | hl
      · exact (leaf_fz (flosL_plain))
      rcases List.mem_cons.1 hl with rfl | hl
      · exact leaf_int
      cases hl
    · exact run_55' h1'
  · cases h

noncomputable def eDecR : Ent := fun args' R K => match args' with
  | [.list n cs, .int .i64 a] => guardO (shut (decide (Flos n cs ∧ sampErr n (flosOf cs) = 0 ∧ 1 ≤ a ∧ a ≤ n))) (K [.fz (shut ((decR (flosOf cs) n a.toNat a.toNat 0).length)) (shut (flosL (decR (flosOf cs) n a.toNat a.toNat 0)))])
  | _ => none

theorem eDecR_59 : EntOk Tryz.prog 59 eDecR := by
  intro args' R K r ha h
  unfold eDecR at h
  split at h
  · rename_i n cs a
    obtain ⟨h1, h2⟩ := guardO_some h
    rw [shut_eq] at h1
    have h1' := of_decide_eq_true h1
    refine ⟨[.fz ((decR (flosOf cs) n a.toNat a.toNat 0).length) (flosL (decR (flosOf cs) n a.toNat a.toNat 0))], fun _ _ => by simp only [eDecR, shut_eq, decide_eq_true h1', guardO], ?_, con_of mzF_ok (W := waysP) (N := a.toNat + 1) (k := 12) (ms := [true]) ?_ ha ⟨flosL_plain, trivial⟩⟩
    · intro l hl; rcases List.mem_cons.1 hl with rfl | hl
      · exact (leaf_fz (flosL_plain))
      cases hl
    · exact run_59'' h1'.1 h1'.2.1 h1'.2.2.1 h1'.2.2.2
  · cases h


noncomputable def mzG : List (FuncId × Ent) := (19, eAwake) :: (21, eCopyF) :: (55, eDec) :: (59, eDecR) :: mzF
theorem mzG_ok : TabLOk Tryz.prog mzG := ⟨eAwake_19, eCopyF_21, eDec_55, eDecR_59, mzF_ok⟩

end Go.Abs
end

