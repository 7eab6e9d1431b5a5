/- Part 37 of the library that the proof of the statement uses: an abstract run of the program, proved right, and what its functions give. -/
import Derived.Test.YtkloadomnblkeaaGreatDoorCv36
set_option linter.unusedVariables false
set_option linter.unusedSimpArgs false

section
/- Covers of the program and of the reference. -/
set_option linter.unusedVariables false
set_option linter.unusedSimpArgs false
namespace Go.Abs
open Go.Proofs Classical

def covE (a n f t : Int) : Int := if a < 1 ∨ a > 256 then 3 else if n < 0 ∨ n > 4096 then 3 else if f < 0 ∨ f > n then 3 else if t < 0 ∨ t > n then 3 else if t < f then 11 else 0

def covL (a n f t : Int) : List Int := if covE a n f t = 0 then coverL a n t 4097 f else []

theorem run_30' {a n f t : Int} : (fsM mzC waysP 5000 12).call (List RLeaf) 30 [.ofB (.int .i64 a), .ofB (.int .i64 n), .ofB (.int .i64 f), .ofB (.int .i64 t)] [] (resK [true, false]) =
    some [.fz ((covL a n f t).length / 2) (numsL .i64 (covL a n f t)), .v (.int .i64 (covE a n f t))] := by
  rw [run_30]
  have he : (if (if a < 1 ∨ a > 256 then (3 : Int) else 0) = 0 then (if (if n < 0 ∨ n > 4096 then (3 : Int) else 0) = 0 then (if f < 0 ∨ f > n then 3 else if t < 0 ∨ t > n then 3 else if t < f then 11 else 0) else (if n < 0 ∨ n > 4096 then (3 : Int) else 0)) else (if a < 1 ∨ a > 256 then (3 : Int) else 0)) = covE a n f t := by
    unfold covE
    by_cases h1 : a < 1 ∨ a > 256
    · rw [if_pos h1, if_pos h1]; rfl
    · rw [if_neg h1, if_neg h1, if_pos rfl]
      by_cases h2 : n < 0 ∨ n > 4096
      · rw [if_pos h2, if_pos h2]; rfl
      · rw [if_neg h2, if_neg h2, if_pos rfl]
  simp only [shut_eq, guardO_dec, put3n, ints3n, if_true, firstNZ_3, he, condO_bne]
  by_cases h0 : covE a n f t = 0
  case neg => rw [if_neg h0]; unfold covL; rw [if_neg h0]; rfl
  rw [if_pos h0]
  unfold covL
  rw [if_pos h0, h0]
  have hv : 1 ≤ a ∧ a ≤ 256 ∧ 0 ≤ n ∧ n ≤ 4096 ∧ 0 ≤ f ∧ f ≤ n ∧ 0 ≤ t ∧ t ≤ n ∧ f ≤ t := by
    unfold covE at h0
    repeat' (split at h0)
    all_goals omega
  clear he h0
  obtain ⟨v1, v2, v3, v4, v5, v6, v7, v8, v9⟩ := hv
  refine (loopC_rule (fun k (r : Int → Nat → List AV → Nat → List AV → Nat → List AV → Int → Int → Int → Int → Option (List RLeaf)) => ∀ (i : Int) (acc : List Int) (c : Nat) (x1 : Nat) (x2 : List AV) (x3 : Nat) (x4 : List AV), 0 ≤ i → i ≤ t → t - i < k → acc.length = 2 * c → c + k ≤ 5000 →
    r i x1 x2 x3 x4 c (numsL .i64 acc) a n f t = some [.fz ((acc ++ coverL a n t k i).length / 2) (numsL .i64 (acc ++ coverL a n t k i)), .v (.int .i64 0)]) ?_ 5000 4097 (by omega) f [] 0 _ _ _ _ v5 v9 (by omega) (by simp) (by omega)).trans (by simp)
  intro k r ih i acc c x1 x2 x3 x4 hi0 hit hk hacc hck
  obtain ⟨k, rfl⟩ : ∃ k', k = k' + 1 := ⟨k - 1, by omega⟩
  rw [coverL]
  simp only [shut_eq, condO_dec]
  by_cases hlt : i < t
  case neg => rw [if_neg hlt, if_neg hlt, List.append_nil, hacc, Nat.mul_div_cancel_left _ (by omega)]
  rw [if_pos hlt, if_pos hlt]
  have hb := best_start (a := a) (n := n) hi0 hlt v8 v1 _ rfl
  generalize hr : bestC n t i 14 0 a (-1, i, i + 1) = res at hb ⊢
  obtain ⟨q0, q1, q2, q3, q4, q5, q6⟩ := hb
  have fin : ∀ (L I E : Int), (L, I, E) = res → r E x1 x2 x3 x4 (c + 1) (numsL .i64 acc ++ putCells (zrow (ofV (Go.Value.agg #[Go.Value.int IntKind.i64 (0 : Int), Go.Value.int IntKind.i64 (0 : Int)])).cells 2) 0 [AV.int IntKind.i64 L, AV.int IntKind.i64 I]) a n f t =
      some [.fz ((acc ++ ([res.1, res.2.1] ++ coverL a n t k res.2.2)).length / 2) (numsL .i64 (acc ++ ([res.1, res.2.1] ++ coverL a n t k res.2.2))), .v (.int .i64 0)] := by
    intro L I E e
    subst e
    dsimp only at q1 q2
    rw [put2a, ← numsL_app]
    have := ih k (by omega) E (acc ++ [L, I]) (c + 1) x1 x2 x3 x4 (by omega) q2 (by omega) (by simp; omega) (by omega)
    simpa using this
  have hc17 : (c + 1) * 17 ≤ 549755813888 := by omega
  rw [wrap64 (z := i + 1) (by omega) (by omega)]
  refine loopC_rule (fun m (r2 : Int → Int → Int → Int → Nat → List AV → Nat → List AV → Nat → List AV → Int → Int → Int → Int → Int → Int → Option (List RLeaf)) => ∀ (l s c1 c2 c3 : Int), 0 ≤ l → l + m ≤ 13 → 1 ≤ s → s ≤ 8192 → n < s * 2 ^ m → bestC n t i (m + 1) l s (c1, c2, c3) = res →
    r2 i c3 l s x1 x2 x3 x4 c (numsL .i64 acc) a n f t c1 c2 = some [.fz ((acc ++ ([res.1, res.2.1] ++ coverL a n t k res.2.2)).length / 2) (numsL .i64 (acc ++ ([res.1, res.2.1] ++ coverL a n t k res.2.2))), .v (.int .i64 0)]) ?_ 5000 13 (by omega) 0 a (-1) i (i + 1) (by omega) (by omega) v1 (by omega) (by omega) hr
  intro m r2 ih2 l s c1 c2 c3 hl0 hlm hs1 hs2 hsn hbe
  have w1 : IntKind.i64.wrap (i + s) = i + s := wrap64 (by omega) (by omega)
  have w2 : IntKind.i64.wrap (l + 1) = l + 1 := wrap64 (by omega) (by omega)
  have w3 : IntKind.i64.wrap (2 * s) = 2 * s := wrap64 (by omega) (by omega)
  have w4 : i.tmod s = i % s := Int.tmod_eq_emod_of_nonneg hi0
  have w5 : i.tdiv s = i / s := Int.tdiv_eq_ediv_of_nonneg hi0
  have w6 : IntKind.i64.wrap (i / s) = i / s := by
    have := Int.ediv_le_self s hi0
    have := Int.ediv_nonneg hi0 (show 0 ≤ s by omega)
    rw [wrap64 (by omega) (by omega)]
  have nz : (s ≠ 0) = True := eq_true (by omega)
  simp only [shut_eq, condO_dec, guardO_dec, nz, if_true, w1, w2, w3, w4, w5, w6, hc17, ite_min, condO_sf, bindO_ok]
  rw [bestC] at hbe
  by_cases hok : i % s = 0 ∧ min n (i + s) ≤ t
  · have e1 : ((i % s == 0) && decide (min n (i + s) ≤ t)) = true := by rw [hok.1, decide_eq_true hok.2]; rfl
    rw [e1, condO_tx]
    rw [if_pos hok] at hbe
    by_cases hn : n ≤ s
    · rw [if_pos hn] at hbe
      rw [if_pos (show s ≥ n from hn)]
      exact fin _ _ _ hbe
    · rw [if_neg hn] at hbe
      rw [if_neg (show ¬ s ≥ n from hn)]
      obtain ⟨m, rfl⟩ : ∃ m', m = m' + 1 := by
        cases m with
        | zero => omega
        | succ m => exact ⟨m, rfl⟩
      refine ih2 m (by omega) (l + 1) (2 * s) l (i / s) (min n (i + s)) (by omega) (by omega) (by omega) (by omega) ?_ hbe
      rw [Int.pow_succ] at hsn; rw [Int.mul_comm 2 s, Int.mul_assoc, Int.mul_comm 2]; exact hsn
  · have e1 : ((i % s == 0) && decide (min n (i + s) ≤ t)) = false := by
      rw [Bool.and_eq_false_iff]
      by_cases hz : i % s = 0
      · exact .inr (decide_eq_false fun h => hok ⟨hz, h⟩)
      · exact .inl (beq_eq_false_iff_ne.2 hz)
    rw [e1, condO_fx]
    rw [if_neg hok] at hbe
    exact fin _ _ _ hbe

theorem lvl_le : ∀ (k : Nat) (n w : Int), lvl k n w ≤ k
  | 0, _, _ => Nat.le_refl _
  | k + 1, n, w => by
    simp only [lvl]
    split
    · have := lvl_le k n (2 * w); omega
    · omega

theorem run_32' {a n f t : Int} (v1 : 1 ≤ a) (v2 : a ≤ 256) (v3 : 0 ≤ n) (v4 : n ≤ 4096) (v5 : 0 ≤ f) (v8 : t ≤ n) (v9 : f ≤ t) : (fsM mzC waysP 5000 12).call (List RLeaf) 32 [.ofB (.int .i64 a), .ofB (.int .i64 n), .ofB (.int .i64 f), .ofB (.int .i64 t)] [] (resK [true]) =
    some [.fz ((coverL a n t 4097 f).length / 2) (numsL .i64 (coverL a n t 4097 f))] := by
  rw [run_32]
  refine (loopC_rule (fun k (r : Int → Int → Int → Int → Nat → List AV → Nat → List AV → Option (List RLeaf)) => ∀ (i : Int) (acc : List Int) (c : Nat) (x4 : Nat) (x5 : List AV), 0 ≤ i → i ≤ t → t - i < k → acc.length = 2 * c → c + k ≤ 5000 →
    r a n i t x4 x5 c (numsL .i64 acc) = some [.fz ((acc ++ coverL a n t k i).length / 2) (numsL .i64 (acc ++ coverL a n t k i))]) ?_ 5000 4097 (by omega) f [] 0 _ _ v5 v9 (by omega) (by simp) (by omega)).trans (by simp)
  intro k r ih i acc c x4 x5 hi0 hit hk hacc hck
  obtain ⟨k, rfl⟩ : ∃ k', k = k' + 1 := ⟨k - 1, by omega⟩
  rw [coverL]
  simp only [shut_eq, condO_dec]
  by_cases hlt : i < t
  case neg => rw [if_neg hlt, if_neg hlt, List.append_nil, hacc, Nat.mul_div_cancel_left _ (by omega)]
  rw [if_pos hlt, if_pos hlt]
  have hb := best_start (a := a) (n := n) hi0 hlt v8 v1 _ rfl
  have hrf := ref_best n t i 13 0 a (-1) i (i + 1) v1 (by omega)
  generalize hr : bestC n t i 14 0 a (-1, i, i + 1) = res at hb hrf ⊢
  obtain ⟨q0, q1, q2, q3, q4, q5, q6⟩ := hb
  have hc17 : (c + 1) * 17 ≤ 549755813888 := by omega
  have hlev : levN a n = lvl 13 n a + 1 := by unfold levN; rw [if_neg (by omega)]
  have hl13 := lvl_le 13 n a
  refine loopC_rule (fun m (r2 : Int → Int → Int → Int → Int → Int → Nat → List AV → Nat → List AV → Int → Int → Option (List RLeaf)) => ∀ (l : Nat) (w c1 c2 : Int), l + m = levN a n → w = a * 2 ^ l → -1 ≤ c1 → c1 ≤ 13 → 0 ≤ c2 → c2 ≤ 4096 → refBest n t i m (l : Int) w (c1, c2) = (res.1, res.2.1) →
    r2 a n i t w (l : Int) x4 x5 c (numsL .i64 acc) c1 c2 = some [.fz ((acc ++ ([res.1, res.2.1] ++ coverL a n t k res.2.2)).length / 2) (numsL .i64 (acc ++ ([res.1, res.2.1] ++ coverL a n t k res.2.2)))]) ?_ 5000 (levN a n) (by omega) 0 a (-1) i (by omega) (by simp) (by omega) (by omega) (by omega) (by omega) (by rw [hlev]; exact hrf)
  intro m r2 ih2 l w c1 c2 hlm hw b1 b2 b3 b4 hbe
  have hp : ∀ c : Nat, c ≤ 14 → 1 ≤ (2 : Int) ^ c ∧ (2 : Int) ^ c ≤ 16384 := by
    intro c hc
    have e : (2 : Int) ^ c = ((2 ^ c : Nat) : Int) := by simp
    have := Nat.pow_le_pow_right (show 0 < 2 by omega) hc
    have := Nat.two_pow_pos c
    omega
  have hw1 : 1 ≤ w ∧ w ≤ 256 * 16384 := by
    obtain ⟨p1, p2⟩ := hp l (by omega)
    have q1 : 1 * 1 ≤ a * 2 ^ l := Int.mul_le_mul v1 p1 (by omega) (by omega)
    have q2 : a * 2 ^ l ≤ 256 * 16384 := Int.mul_le_mul v2 p2 (by omega) (by omega)
    omega
  have w2 : IntKind.i64.wrap ((l : Int) + 1) = ((l + 1 : Nat) : Int) := by rw [wrap64] <;> omega
  have w3 : IntKind.i64.wrap (2 * w) = 2 * w := wrap64 (by omega) (by omega)
  have w4 : i.tmod w = i % w := Int.tmod_eq_emod_of_nonneg hi0
  have w5 : i.tdiv w = i / w := Int.tdiv_eq_ediv_of_nonneg hi0
  have d1 := Int.ediv_le_self w hi0
  have d2 := Int.ediv_nonneg hi0 (show 0 ≤ w by omega)
  have w6 : IntKind.i64.wrap (i / w) = i / w := wrap64 (by omega) (by omega)
  have nz : (w ≠ 0) = True := eq_true (by omega)
  have g1 : (1 ≤ a ∧ a ≤ 256 ∧ 0 ≤ n ∧ n ≤ 4096) = True := eq_true ⟨v1, v2, v3, v4⟩
  have hw2 : 2 * w = a * 2 ^ (l + 1) := by
    rw [hw, Int.pow_succ]
    generalize (2 : Int) ^ l = z
    grind
  simp only [shut_eq, condO_dec, guardO_dec, nz, if_true, w2, w3, w4, w5, w6, hc17, g1, Int.ofNat_lt]
  by_cases hll : l < levN a n
  · obtain ⟨m, rfl⟩ : ∃ m', m = m' + 1 := ⟨m - 1, by omega⟩
    have g2 : (1 ≤ a ∧ a ≤ 256 ∧ 0 ≤ n ∧ n ≤ 4096 ∧ (l : Int) ≤ 13 ∧ 0 ≤ i / w ∧ i / w ≤ 4096) = True := eq_true ⟨v1, v2, v3, v4, by omega, d2, by omega⟩
    rw [if_pos hll]
    rw [refBest] at hbe
    by_cases hmod : i % w = 0
    · have e0 : (endsL a n (l : Int) (i / w)).2 = min n (i + w) := by
        unfold endsL
        rw [if_neg (by omega), Int.toNat_natCast, ← hw]
        show min n (w * (i / w + 1)) = _
        rw [Int.mul_add, Int.mul_ediv_cancel' (Int.dvd_of_emod_eq_zero hmod), Int.mul_one]
      have e1 : (i % w == 0) = true := beq_iff_eq.2 hmod
      rw [e1, condO_tx, if_pos (by simpa using g2), e0]
      by_cases hend : min n (i + w) ≤ t
      · rw [if_pos hend]
        rw [if_pos ⟨hmod, hend⟩] at hbe
        exact ih2 m (by omega) (l + 1) (2 * w) l (i / w) (by omega) hw2 (by omega) (by omega) d2 (by omega) hbe
      · rw [if_neg hend]
        rw [if_neg (fun h => hend h.2)] at hbe
        exact ih2 m (by omega) (l + 1) (2 * w) c1 c2 (by omega) hw2 b1 b2 b3 b4 hbe
    · have e1 : (i % w == 0) = false := beq_eq_false_iff_ne.2 hmod
      rw [e1, condO_fx]
      rw [if_neg (fun h => hmod h.1)] at hbe
      exact ih2 m (by omega) (l + 1) (2 * w) c1 c2 (by omega) hw2 b1 b2 b3 b4 hbe
  · have : m = 0 := by omega
    subst this
    have hbe : (c1, c2) = (res.1, res.2.1) := hbe
    simp only [Prod.mk.injEq] at hbe
    obtain ⟨rfl, rfl⟩ := hbe
    rw [if_neg hll, if_pos ⟨v1, v2, v3, v4, q4, q5, b4⟩, q0, put2a, ← numsL_app]
    have := ih k (by omega) res.2.2 (acc ++ [res.1, res.2.1]) (c + 1) x4 x5 (by omega) q2 (by omega) (by simp; omega) (by omega)
    simpa using this

end Go.Abs
end

