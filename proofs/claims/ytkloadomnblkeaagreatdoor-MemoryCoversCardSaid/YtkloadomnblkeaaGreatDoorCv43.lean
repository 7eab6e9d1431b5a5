/- Part 43 of the library that the proof of the statement uses: an abstract run of the program, proved right, and what its functions give. -/
import Derived.Test.YtkloadomnblkeaaGreatDoorCv42
set_option linter.unusedVariables false
set_option linter.unusedSimpArgs false

section
/- The law MemoryCovers. -/
set_option linter.unusedVariables false
set_option linter.unusedSimpArgs false
namespace Go.Abs
open Go.Proofs Classical

theorem run_4' {a n f t : Int} : (fsM mzD waysP 1 12).call (List RLeaf) 4 [.ofB (.int .i64 a), .ofB (.int .i64 n), .s (.agg [.b (.int .i64 f), .b (.int .i64 t)])] [] (resK [false]) = some [.v (.bool true)] := by
  rw [run_4]
  have hP : Prs ((covL a n f t).length / 2) (numsL .i64 (covL a n f t)) := by
    have hl : (covL a n f t).length % 2 = 0 ∧ (covL a n f t).length ≤ 2 * 4097 := by
      unfold covL
      split
      · exact coverL_len a n t 4097 f
      · simp
    refine ⟨by omega, ?_⟩
    have := (Nums_L (k := .i64) (xs := covL a n f t) (by omega)).ints
    rw [show 2 * ((covL a n f t).length / 2) = (covL a n f t).length by omega]; exact this
  have hR : Prs ((coverL a n t 4097 f).length / 2) (numsL .i64 (coverL a n t 4097 f)) := by
    have hl := coverL_len a n t 4097 f
    refine ⟨by omega, ?_⟩
    have := (Nums_L (k := .i64) (xs := coverL a n t 4097 f) (by omega)).ints
    rw [show 2 * ((coverL a n t 4097 f).length / 2) = (coverL a n t 4097 f).length by omega]; exact this
  have h00 : Prs 0 [] := ⟨by omega, ⟨by omega, rfl, rfl⟩⟩
  have n0 : intsOf [] = [] := rfl
  have z3 : ((3 : Int) == 0) = false := rfl
  have z0 : ((0 : Int) == 0) = true := rfl
  have z11 : ((11 : Int) == 0) = false := rfl
  simp only [shut_eq, guardO_dec, hP, hR, h00, and_self, if_true, numsL_of, n0, z3, condO_fx, condO_sf, condO_ts, bindO_ok]
  generalize (decide (IntKind.i64.wrap (t - f) > 300) && decide (f ≥ 0) && decide (t ≤ 4096)) = v
  cases v with
  | true => rfl
  | false =>
    rw [condO_fx]
    by_cases h1 : a < 1 ∨ a > 256
    · have e : covE a n f t = 3 := by unfold covE; rw [if_pos h1]
      have e2 : covL a n f t = [] := by unfold covL; rw [e]; rfl
      simp only [h1, if_true, z3, condO_fx, e, e2]
      cases (decide (n < 0) || decide (n > 4096)) <;> rfl
    · have e1 : (if a < 1 ∨ a > 256 then (3 : Int) else 0) = 0 := if_neg h1
      by_cases h2 : n < 0 ∨ n > 4096
      · have e : covE a n f t = 3 := by unfold covE; rw [if_neg h1, if_pos h2]
        have e2 : covL a n f t = [] := by unfold covL; rw [e]; rfl
        have e3 : (decide (n < 0) || decide (n > 4096)) = true := by
          rcases h2 with h2 | h2
          · rw [decide_eq_true h2]; rfl
          · rw [decide_eq_true h2, Bool.or_true]
        simp only [e1, z0, condO_tx, e, e2, e3, Bool.true_and, decide_true] <;> rfl
      · have e3 : (decide (n < 0) || decide (n > 4096)) = false := by
          rw [decide_eq_false (fun h => h2 (.inl h)), decide_eq_false (fun h => h2 (.inr h))]; rfl
        by_cases h3 : f < 0 ∨ f > n ∨ t < 0 ∨ t > n
        · have e : covE a n f t = 3 := by
            unfold covE
            rw [if_neg h1, if_neg h2]
            by_cases h4 : f < 0 ∨ f > n
            · rw [if_pos h4]
            · rw [if_neg h4, if_pos (by omega)]
          have e2 : covL a n f t = [] := by unfold covL; rw [e]; rfl
          simp only [e1, z0, z3, condO_tx, condO_fx, e, e2, e3, Bool.true_and, h3, if_true, decide_true] <;> rfl
        · by_cases h4 : t < f
          · have e : covE a n f t = 11 := by
              unfold covE
              rw [if_neg h1, if_neg h2, if_neg (by omega), if_neg (by omega), if_pos h4]
            have e2 : covL a n f t = [] := by unfold covL; rw [e]; rfl
            simp only [e1, z0, z11, condO_tx, condO_fx, e, e2, e3, Bool.true_and, h3, h4, if_true, if_false, decide_true] <;> rfl
          · have e : covE a n f t = 0 := by
              unfold covE
              rw [if_neg h1, if_neg h2, if_neg (by omega), if_neg (by omega), if_neg h4]
            have e2 : covL a n f t = coverL a n t 4097 f := by unfold covL; rw [if_pos e]
            have g : (1 ≤ a ∧ a ≤ 256 ∧ 0 ≤ n ∧ n ≤ 4096 ∧ 0 ≤ f ∧ t ≤ n ∧ f ≤ t) = True := eq_true (by omega)
            simp only [e1, z0, condO_tx, condO_fx, e, e2, e3, Bool.true_and, h3, h4, if_true, if_false, decide_true, g] <;> rfl

end Go.Abs
end

