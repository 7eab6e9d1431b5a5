/- Part 36 of the library that the proof of the statement uses: an abstract run of the program, proved right, and what its functions give. -/
import Derived.Test.YtkloadomnblkeaaGreatDoorCv35
set_option linter.unusedVariables false
set_option linter.unusedSimpArgs false

section
/- Covers, plainly. -/
set_option linter.unusedVariables false
set_option linter.unusedSimpArgs false
namespace Go.Abs
open Go.Proofs Classical

/-- The node that comes next, with its end: level, size and the node so far. -/
def bestC (n to at_ : Int) : Nat → Int → Int → Int × Int × Int → Int × Int × Int
  | 0, _, _, cur => cur
  | k + 1, l, s, cur => if at_ % s = 0 ∧ min n (at_ + s) ≤ to then (if n ≤ s then (l, at_ / s, min n (at_ + s)) else bestC n to at_ k (l + 1) (2 * s) (l, at_ / s, min n (at_ + s))) else cur

def coverL (a n to : Int) : Nat → Int → List Int
  | 0, _ => []
  | k + 1, at_ => if at_ < to then [(bestC n to at_ 14 0 a (-1, at_, at_ + 1)).1, (bestC n to at_ 14 0 a (-1, at_, at_ + 1)).2.1] ++ coverL a n to k (bestC n to at_ 14 0 a (-1, at_, at_ + 1)).2.2 else []

/-- The same as the reference finds it. -/
def refBest (n to at_ : Int) : Nat → Int → Int → Int × Int → Int × Int
  | 0, _, _, cur => cur
  | m + 1, l, w, cur => if at_ % w = 0 ∧ min n (at_ + w) ≤ to then refBest n to at_ m (l + 1) (2 * w) (l, at_ / w) else refBest n to at_ m (l + 1) (2 * w) cur

theorem mod_two {x s : Int} (h : x % (2 * s) = 0) : x % s = 0 := by
  have := Int.dvd_of_emod_eq_zero h
  obtain ⟨c, rfl⟩ := this
  rw [Int.mul_comm 2 s, Int.mul_assoc]
  exact Int.mul_emod_right _ _

theorem ref_dead (n to at_ : Int) : ∀ (m : Nat) (l w : Int) (cur : Int × Int), 1 ≤ w → ¬ (at_ % w = 0 ∧ min n (at_ + w) ≤ to) → refBest n to at_ m l w cur = cur
  | 0, _, _, _, _, _ => rfl
  | m + 1, l, w, cur, hw, h => by
    rw [refBest, if_neg h]
    refine ref_dead n to at_ m (l + 1) (2 * w) cur (by omega) fun h2 => h ⟨mod_two h2.1, ?_⟩
    have := h2.2
    omega

theorem ref_best (n to at_ : Int) : ∀ (k : Nat) (l w c1 c2 c3 : Int), 1 ≤ w → n < w * 2 ^ k →
    refBest n to at_ (lvl k n w + 1) l w (c1, c2) = ((bestC n to at_ (k + 1) l w (c1, c2, c3)).1, (bestC n to at_ (k + 1) l w (c1, c2, c3)).2.1)
  | 0, l, w, c1, c2, c3, hw, hk => by
    simp only [lvl, Nat.zero_add, refBest, bestC]
    have : n ≤ w := by omega
    split
    · first | rfl | rw [if_pos this]
    · rfl
  | k + 1, l, w, c1, c2, c3, hw, hk => by
    rw [refBest, bestC]
    by_cases hok : at_ % w = 0 ∧ min n (at_ + w) ≤ to
    · rw [if_pos hok, if_pos hok]
      by_cases hn : n ≤ w
      · rw [if_pos hn, lvl, if_neg (by omega)]; rfl
      · rw [if_neg hn, lvl, if_pos (by omega)]
        exact ref_best n to at_ k (l + 1) (2 * w) _ _ _ (by omega) (by rw [Int.pow_succ] at hk; rw [Int.mul_comm 2 w, Int.mul_assoc, Int.mul_comm 2]; exact hk)
    · rw [if_neg hok, if_neg hok, ref_dead n to at_ _ _ _ _ (by omega)]
      exact fun h2 => hok ⟨mod_two h2.1, by have := h2.2; omega⟩

/-- What is found is a node with its end. -/
theorem best_end (a n to at_ : Int) (h0 : 0 ≤ at_) (hat : at_ < to) (hto : to ≤ n) : ∀ (k : Nat) (l s : Int) (cur : Int × Int × Int), 0 ≤ l → 1 ≤ s → s = a * 2 ^ l.toNat → l + k ≤ 14 →
    ((endsL a n cur.1 cur.2.1).2 = cur.2.2 ∧ at_ < cur.2.2 ∧ cur.2.2 ≤ to ∧ -1 ≤ cur.1 ∧ cur.1 ≤ 13 ∧ 0 ≤ cur.2.1 ∧ cur.2.1 ≤ at_) →
    ((endsL a n (bestC n to at_ k l s cur).1 (bestC n to at_ k l s cur).2.1).2 = (bestC n to at_ k l s cur).2.2 ∧ at_ < (bestC n to at_ k l s cur).2.2 ∧ (bestC n to at_ k l s cur).2.2 ≤ to ∧ -1 ≤ (bestC n to at_ k l s cur).1 ∧ (bestC n to at_ k l s cur).1 ≤ 13 ∧ 0 ≤ (bestC n to at_ k l s cur).2.1 ∧ (bestC n to at_ k l s cur).2.1 ≤ at_)
  | 0, l, s, cur, _, _, _, _, h => h
  | k + 1, l, s, cur, hl, hs, he, hk, h => by
    rw [bestC]
    split
    · rename_i hok
      have hnew : (endsL a n l (at_ / s)).2 = min n (at_ + s) ∧ at_ < min n (at_ + s) ∧ min n (at_ + s) ≤ to ∧ -1 ≤ l ∧ l ≤ 13 ∧ 0 ≤ at_ / s ∧ at_ / s ≤ at_ := by
        refine ⟨?_, by omega, hok.2, by omega, by omega, Int.ediv_nonneg h0 (by omega), Int.ediv_le_self _ h0⟩
        unfold endsL
        rw [if_neg (by omega), ← he]
        have e1 : s * (at_ / s) = at_ := Int.mul_ediv_cancel' (Int.dvd_of_emod_eq_zero hok.1)
        show min n (s * (at_ / s + 1)) = _
        rw [Int.mul_add, e1, Int.mul_one]
      split
      · exact hnew
      · refine best_end a n to at_ h0 hat hto k (l + 1) (2 * s) _ (by omega) (by omega) ?_ (by omega) hnew
        rw [he, show (l + 1).toNat = l.toNat + 1 by omega, Int.pow_succ]
        generalize (2 : Int) ^ l.toNat = z
        grind
    · exact h

theorem best_start {a n to at_ : Int} (h0 : 0 ≤ at_) (hat : at_ < to) (hto : to ≤ n) (ha : 1 ≤ a) :
    ∀ r, r = bestC n to at_ 14 0 a (-1, at_, at_ + 1) → (endsL a n r.1 r.2.1).2 = r.2.2 ∧ at_ < r.2.2 ∧ r.2.2 ≤ to ∧ -1 ≤ r.1 ∧ r.1 ≤ 13 ∧ 0 ≤ r.2.1 ∧ r.2.1 ≤ at_ := by
  intro r hr
  subst hr
  exact best_end a n to at_ h0 hat hto 14 0 a _ (by omega) ha (by simp) (by omega) ⟨rfl, by show at_ < at_ + 1; omega, by show at_ + 1 ≤ to; omega, by show (-1 : Int) ≤ -1; omega, by show (-1 : Int) ≤ 13; omega, h0, Int.le_refl _⟩

theorem coverL_len (a n to : Int) : ∀ (k : Nat) (at_ : Int), (coverL a n to k at_).length % 2 = 0 ∧ (coverL a n to k at_).length ≤ 2 * k
  | 0, _ => by simp [coverL]
  | k + 1, at_ => by
    rw [coverL]
    split
    · have := coverL_len a n to k (bestC n to at_ 14 0 a (-1, at_, at_ + 1)).2.2
      simp only [List.length_append, List.length_cons, List.length_nil]
      omega
    · simp

end Go.Abs
end

