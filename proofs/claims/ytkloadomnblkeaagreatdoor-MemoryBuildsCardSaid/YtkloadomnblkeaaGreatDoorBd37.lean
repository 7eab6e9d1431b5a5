/- Part 37 of the library that the proof of the statement uses: an abstract run of the program, proved right, and what its functions give. -/
import Derived.Test.YtkloadomnblkeaaGreatDoorBd36
set_option linter.unusedVariables false
set_option linter.unusedSimpArgs false

section
/- The law MemoryBuilds. -/
set_option linter.unusedVariables false
set_option linter.unusedSimpArgs false
namespace Go.Abs
open Go.Proofs Classical Go.Abs.Fin

theorem sameT_of {Ls Ms : List (List (Option Nat))} (h : SameLv Ls Ms) : sameT Ls.length (lvCells Ls) (lvCells Ms) = true := by
  unfold sameT
  refine all_range.2 fun i hi => ?_
  rw [lvAt_cells hi, lvAt_cells (by rw [← h.len]; exact hi)]
  have hs := SameLv.at i h hi
  rw [sameF_keys hs.len hs.finL hs.finM]
  unfold keysEq
  exact all_range.2 fun j hj => decide_eq_true (hs.key j (by rw [hs.len]; exact hj)).symm

theorem run_3' {n m N : Nat} {cs ls : List AV} {b c : Int} (h : Flos n cs) (hw : LvsW m ls) : (fsM mzO waysQ N 12).call (List RLeaf) 3 [.s (.agg [.b (.list n cs), .b (.int .i64 b)]), .s (.agg [.b (.int .i64 c), .b (.list m ls)])] [] (resK [false]) = some [.v (.bool true)] := by
  rw [run_3]
  simp only [shut_eq, guardO_dec, hw, h, if_true, true_and]
  cases hlb : lenB (n : Int) 64 4096 with
  | false => rfl
  | true =>
  cases hsh : shortT m ls with
  | false => rfl
  | true =>
  have hL := hw.short hsh
  have hn : n ≤ 100000000 := by
    unfold lenB at hlb
    have w : IntKind.i64.wrap (4096 + 2) = 4098 := rfl
    rw [decide_eq_true_eq, w] at hlb
    omega
  have hl0 : Lvs 0 [] := ⟨by omega, rfl, fun c hc => by cases hc⟩
  have s0 : sameT 0 [] [] = true := rfl
  simp only [Bool.not_true, condO_fx, bindO_ok, hL, hn, hl0, if_true, and_self, and_true, true_and, beq_self_eq_true, condO_tx]
  by_cases hs : sampErr n (flosOf cs) = 0
  · obtain ⟨hn4, hf⟩ := samp_all hs
    have hxl := h.len
    by_cases hb : b < 1 ∨ b > 256
    · have e1 : buildE n (flosOf cs) b = 3 := by unfold buildE; rw [if_pos hs, if_pos hb]
      have e2 : buildV n (flosOf cs) b = (0, []) := by unfold buildV; rw [e1]; rfl
      have z3 : ((3 : Int) == 0) = false := rfl
      simp only [hs, beq_self_eq_true, condO_tx, hb, if_true, z3, condO_fx, e1, e2]
      have : lvCells [] = [] := rfl
      simp only [this, List.length_nil, hl0, and_self, if_true, decide_true, Bool.and_true, s0, condO_tx]
    · have e1 : buildE n (flosOf cs) b = 0 := by unfold buildE; rw [if_pos hs, if_neg hb]
      have e2 : buildV n (flosOf cs) b = (b, levelsF (flosOf cs) b.toNat) := by unfold buildV; rw [e1]; rfl
      have hsame := levels_same (xs := flosOf cs) (b := b.toNat) (by omega) (by omega) hf
      have hwl : (levelsF (flosOf cs) b.toNat).length ≤ 14 := by rw [hsame.len]; exact refLv_len _ _
      have g1 : (n ≤ 5000 ∧ 1 ≤ b ∧ b ≤ 10000) = True := eq_true ⟨by omega, by omega, by omega⟩
      have hLL := hsame.lvsL (by omega)
      have hLM := hsame.lvsM (by have := refLv_len (flosOf cs) b.toNat; omega)
      have hST := sameT_of hsame
      have hle := hsame.len
      simp only [hs, beq_self_eq_true, condO_tx, hb, if_true, if_false, e1, e2, g1, hLL, hLM, and_self, hST, hle, decide_true, Bool.and_true]
      rw [← hle]
      simp only [hST, hLL, if_true, condO_tx, and_self]
      rfl
  · have e1 : buildE n (flosOf cs) b = sampErr n (flosOf cs) := by unfold buildE; rw [if_neg hs]
    have e2 : buildV n (flosOf cs) b = (0, []) := by unfold buildV; rw [e1, if_neg hs]
    have z : (sampErr n (flosOf cs) == 0) = false := beq_eq_false_iff_ne.2 hs
    have : lvCells [] = [] := rfl
    simp only [z, condO_fx, e1, e2, this, List.length_nil, hl0, and_self, if_true, decide_true, Bool.and_true, s0, condO_tx, beq_self_eq_true]

end Go.Abs
end

