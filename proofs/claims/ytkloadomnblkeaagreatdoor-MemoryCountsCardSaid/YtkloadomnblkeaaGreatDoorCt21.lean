/- Part 21 of the library that the proof of the statement uses: an abstract run of the program, proved right, and what its functions give. -/
import Derived.Test.YtkloadomnblkeaaGreatDoorCt20
set_option linter.unusedVariables false
set_option linter.unusedSimpArgs false

section
/- Decimated, on both sides. -/
set_option linter.unusedVariables false
set_option linter.unusedSimpArgs false
namespace Go.Abs
open Go.Proofs Classical Go.Abs.Fin

theorem col64 {A n i : Nat} (hA : 1 ≤ A) (hi : i ≤ 4096) (hn : n ≤ 4096) : IntKind.i64.wrap ((IntKind.i64.wrap ((i : Int) * (n : Int))).tdiv (A : Int)) = ((i * n / A : Nat) : Int) := by
  have hm : i * n ≤ 4096 * 4096 := Nat.mul_le_mul hi hn
  have hd : i * n / A ≤ i * n := Nat.div_le_self _ _
  rw [show (i : Int) * (n : Int) = ((i * n : Nat) : Int) by simp]
  generalize i * n = s at hm hd
  rw [wrap64 (z := (s : Int)) (by omega) (by omega), Int.tdiv_eq_ediv_of_nonneg (by omega), ← Int.natCast_ediv]
  generalize s / A = q at hd
  rw [wrap64] <;> omega

/-- The samples of a column. -/
def colL (xs : List (Option Nat)) (n A j : Nat) : List (Option Nat) := (xs.drop (j * n / A)).take ((j + 1) * n / A - j * n / A)

def decC (l : List (Option Nat)) : List (Option Nat) := [l.getD (min (extI .lt l 0 0 l) (extI .gt l 0 0 l)) none, l.getD (max (extI .lt l 0 0 l) (extI .gt l 0 0 l)) none]

def decR (xs : List (Option Nat)) (n A : Nat) : Nat → Nat → List (Option Nat)
  | 0, _ => []
  | k + 1, j => decC (colL xs n A j) ++ decR xs n A k (j + 1)

theorem colI (j n A : Nat) : (0 + (j : Int) * ((n : Int) - 0) / (A : Int)) = ((j * n / A : Nat) : Int) := by
  rw [Int.zero_add, Int.sub_zero]; simp

theorem col_bounds {n A j : Nat} (h1 : 1 ≤ A) (h2 : A ≤ n) (h3 : j < A) : j * n / A < (j + 1) * n / A ∧ (j + 1) * n / A ≤ n := by
  constructor
  · have : j * n / A + 1 ≤ (j + 1) * n / A := by
      rw [← Nat.add_div_right _ (by omega)]
      exact Nat.div_le_div_right (by rw [Nat.add_mul]; omega)
    omega
  · refine Nat.div_le_of_le_mul ?_
    exact Nat.mul_le_mul_right n (by omega)

theorem flos_cut {n : Nat} {cs : List AV} (h : Flos n cs) {i m : Nat} (hm : i + m ≤ n) : Flos m ((cs.drop i).take m) ∧ flosOf ((cs.drop i).take m) = ((flosOf cs).drop i).take m := by
  have e : flosOf ((cs.drop i).take m) = ((flosOf cs).drop i).take m := by simp [flosOf, List.map_take, List.map_drop]
  refine ⟨⟨by have := h.1; omega, ?_, ?_⟩, e⟩
  · rw [e]
    have := h.2.1
    conv => lhs; rw [this]
    simp [List.map_take, List.map_drop]
  · have := h.2.2
    simp; omega

theorem putF2 (a b : Option Nat) : putCells (putCells (zrow (ofV (Go.Value.float Go.FloatKind.f32 0)).cells 2) 0 [AV.flo Go.FloatKind.f32 a]) 1 [AV.flo Go.FloatKind.f32 b] = flosL [a, b] := rfl

theorem colL_fin {xs : List (Option Nat)} {n A j : Nat} (h : ∀ x ∈ xs, finB x = true) : ∀ x ∈ colL xs n A j, finB x = true :=
  fun x hx => h x (List.mem_of_mem_drop (List.mem_of_mem_take hx))

theorem run_59' {n A : Nat} {cs : List AV} (h : Flos n cs) (h0 : sampErr n (flosOf cs) = 0) (h1 : 1 ≤ A) (h2 : A ≤ n) : (fsM mzF waysP (A + 1) 12).call (List RLeaf) 59 [.ofB (.list n cs), .ofB (.int .i64 (A : Int))] [] (resK [true]) =
    some [.fz (decR (flosOf cs) n A A 0).length (flosL (decR (flosOf cs) n A A 0))] := by
  rw [run_59]
  obtain ⟨hn, hf⟩ := samp_all h0
  have hl := h.len
  have hcl := h.2.2
  refine (loopC_rule (fun k (r : Nat → List AV → Int → Int → Nat → List AV → Nat → List AV → Option (List RLeaf)) => ∀ (j : Nat) (acc : List (Option Nat)) (x4 : Nat) (x5 : List AV), j + k = A → acc.length ≤ 2 * j →
    r n cs (A : Int) (j : Int) x4 x5 acc.length (flosL acc) = some [.fz (acc ++ decR (flosOf cs) n A k j).length (flosL (acc ++ decR (flosOf cs) n A k j))]) ?_ (A + 1) A (by omega) 0 [] _ _ (by omega) (by simp)).trans (by simp)
  intro k r ih j acc x4 x5 hj ha
  by_cases hk : j < A
  · obtain ⟨k, rfl⟩ : ∃ k', k = k' + 1 := ⟨k - 1, by omega⟩
    obtain ⟨b1, b2⟩ := col_bounds h1 h2 hk
    have wj : IntKind.i64.wrap ((j : Int) + 1) = ((j + 1 : Nat) : Int) := by rw [wrap64] <;> omega
    have ec0 := colI j n A
    have ec1 := colI (j + 1) n A
    rw [show (((j + 1 : Nat) : Int)) = (j : Int) + 1 by omega] at ec1
    rw [decR]
    have hcut := flos_cut h (i := j * n / A) (m := (j + 1) * n / A - j * n / A) (by omega)
    have hcol : flosOf ((cs.drop (j * n / A)).take ((j + 1) * n / A - j * n / A)) = colL (flosOf cs) n A j := hcut.2
    have hcl2 : (colL (flosOf cs) n A j).length = (j + 1) * n / A - j * n / A := by
      rw [← hcol]; exact hcut.1.len
    have hfc := colL_fin (n := n) (A := A) (j := j) hf
    obtain ⟨lo1, lo2, lo3⟩ := first_ext (.inl rfl) hfc (by omega : 0 < (colL (flosOf cs) n A j).length)
    obtain ⟨hi1, hi2, hi3⟩ := first_ext (.inr rfl) hfc (by omega : 0 < (colL (flosOf cs) n A j).length)
    rw [lo3] at lo1
    rw [hi3] at hi1
    have g1 : (1 ≤ (A : Int) ∧ (A : Int) ≤ 4096 ∧ (0 : Int) ≤ 0 ∧ 0 ≤ (n : Int) ∧ (n : Int) ≤ 4096 ∧ 0 ≤ (j : Int) ∧ (j : Int) ≤ 4096) = True := eq_true (by omega)
    have g2 : (((j * n / A : Nat) : Int) ≤ (((j + 1) * n / A : Nat) : Int)) = True := eq_true (by omega)
    have g3 : ((((j + 1) * n / A : Nat) : Int) ≤ (n : Int)) = True := eq_true (by omega)
    have g4 : (0 < (j + 1) * n / A - j * n / A) = True := eq_true (by omega)
    have g5 : ((acc.length + 2) * 5 ≤ 549755813888) = True := eq_true (by omega)
    have g6 : (extI .lt (colL (flosOf cs) n A j) 0 0 (colL (flosOf cs) n A j) < (j + 1) * n / A - j * n / A) = True := eq_true (by omega)
    have g7 : (extI .gt (colL (flosOf cs) n A j) 0 0 (colL (flosOf cs) n A j) < (j + 1) * n / A - j * n / A) = True := eq_true (by omega)
    simp only [shut_eq, condO_dec, guardO_dec, Int.ofNat_lt, hk, if_true, ec0, ec1, g1, g2, g3, g4, g5, Int.natCast_nonneg, true_and, and_true, Nat.mul_one, hcl, Int.toNat_natCast, hcut.1, hcol, lo1, hi1, g6, g7, wj, putF2, ← flosL_app, lo3, hi3]
    have e : ∀ l : List (Option Nat), l = decC (colL (flosOf cs) n A j) → r n cs (A : Int) ((j + 1 : Nat) : Int) x4 x5 (acc.length + 2) (flosL (acc ++ l)) =
        some [.fz (acc ++ (decC (colL (flosOf cs) n A j) ++ decR (flosOf cs) n A k (j + 1))).length (flosL (acc ++ (decC (colL (flosOf cs) n A j) ++ decR (flosOf cs) n A k (j + 1))))] := by
      intro l hl
      subst hl
      have := ih k (by omega) (j + 1) (acc ++ decC (colL (flosOf cs) n A j)) x4 x5 (by omega) (by simp [decC]; omega)
      simpa [decC] using this
    rw [if_pos (by omega)]
    by_cases hc : extI .lt (colL (flosOf cs) n A j) 0 0 (colL (flosOf cs) n A j) ≤ extI .gt (colL (flosOf cs) n A j) 0 0 (colL (flosOf cs) n A j)
    · rw [if_pos (by omega)]
      exact e _ (by unfold decC; rw [Nat.min_eq_left hc, Nat.max_eq_right hc])
    · rw [if_neg (by omega)]
      exact e _ (by unfold decC; rw [Nat.min_eq_right (by omega), Nat.max_eq_left (by omega)])
  · have : k = 0 := by omega
    subst this
    simp only [shut_eq, condO_dec, Int.ofNat_lt, hk, if_false, decR, List.append_nil]

theorem run_59'' {n : Nat} {a : Int} {cs : List AV} (h : Flos n cs) (h0 : sampErr n (flosOf cs) = 0) (h1 : 1 ≤ a) (h2 : a ≤ n) : (fsM mzF waysP (a.toNat + 1) 12).call (List RLeaf) 59 [.ofB (.list n cs), .ofB (.int .i64 a)] [] (resK [true]) =
    some [.fz (decR (flosOf cs) n a.toNat a.toNat 0).length (flosL (decR (flosOf cs) n a.toNat a.toNat 0))] := by
  obtain ⟨A, rfl⟩ := Int.eq_ofNat_of_zero_le (show 0 ≤ a by omega)
  exact run_59' h h0 (by omega) (by omega)

def decE (n : Nat) (xs : List (Option Nat)) (a : Int) : Int := if sampErr n xs = 0 then (if a < 1 ∨ a > 2048 then 3 else if (n : Int) < a then 16 else 0) else sampErr n xs
noncomputable def decV (n : Nat) (xs : List (Option Nat)) (a : Int) : List (Option Nat) := if decE n xs a = 0 then (decR xs n a.toNat a.toNat 0).map clean1 else []

theorem run_55' {n : Nat} {cs : List AV} {a : Int} (h : Flos n cs) : (fsM mzC waysP (n + 2100) 12).call (List RLeaf) 55 [.ofB (.list n cs), .ofB (.int .i64 a)] [] (resK [true, false]) =
    some [.fz (decV n (flosOf cs) a).length (flosL (decV n (flosOf cs) a)), .v (.int .i64 (decE n (flosOf cs) a))] := by
  rw [run_55]
  have hl := h.len
  have hcl := h.2.2
  simp only [shut_eq, guardO_dec, h, put3n, ints3n, if_true, firstNZ_3, condO_bne, decide_eq_true_eq]
  have he : (if sampErr n (flosOf cs) = 0 then (if (if a < 1 ∨ a > 2048 then (3 : Int) else 0) = 0 then (if (n : Int) < a then (16 : Int) else 0) else (if a < 1 ∨ a > 2048 then (3 : Int) else 0)) else sampErr n (flosOf cs)) = decE n (flosOf cs) a := by
    unfold decE
    by_cases h1 : a < 1 ∨ a > 2048 <;> simp only [h1, if_true, if_false, show ((3 : Int) = 0) = False from eq_false (by omega)]
  simp only [he]
  by_cases h0 : decE n (flosOf cs) a = 0
  case neg =>
    rw [if_neg h0]
    unfold decV
    rw [if_neg h0]
    rfl
  rw [if_pos h0]
  unfold decV
  rw [if_pos h0, h0]
  have hv : sampErr n (flosOf cs) = 0 ∧ 1 ≤ a ∧ a ≤ 2048 ∧ a ≤ n := by
    unfold decE at h0
    split at h0
    · rename_i h1
      refine ⟨h1, ?_⟩
      repeat' (split at h0)
      all_goals omega
    · rename_i h1; exact absurd h0 h1
  obtain ⟨v0, v1, v2, v3⟩ := hv
  obtain ⟨A, rfl⟩ := Int.eq_ofNat_of_zero_le (show 0 ≤ a by omega)
  rw [Int.toNat_natCast]
  obtain ⟨hn, hf⟩ := samp_all v0
  have h1 : 1 ≤ A := by omega
  have h2 : A ≤ n := by omega
  clear he h0
  refine (loopC_rule (fun k (r : Nat → List AV → Int → Int → Int → Int → Nat → List AV → Nat → List AV → Nat → List AV → Option (List RLeaf)) => ∀ (j : Nat) (acc : List (Option Nat)) (x6 : Nat) (x7 : List AV) (x8 : Nat) (x9 : List AV), j + k = A → acc.length ≤ 2 * j →
    r n cs (A : Int) (n : Int) (A : Int) (j : Int) x6 x7 x8 x9 acc.length (flosL acc) = some [.fz (acc ++ (decR (flosOf cs) n A k j).map clean1).length (flosL (acc ++ (decR (flosOf cs) n A k j).map clean1)), .v (.int .i64 0)]) ?_ (n + 2100) A (by omega) 0 [] _ _ _ _ (by omega) (by simp)).trans (by simp)
  intro k r ih j acc x6 x7 x8 x9 hj ha
  by_cases hk : j < A
  · obtain ⟨kk, rfl⟩ : ∃ k', k = k' + 1 := ⟨k - 1, by omega⟩
    obtain ⟨b1, b2⟩ := col_bounds h1 h2 hk
    have wj : IntKind.i64.wrap ((j : Int) + 1) = ((j + 1 : Nat) : Int) := by rw [wrap64] <;> omega
    have m1 := mul_le_sq (a := (j : Int)) (b := (n : Int)) (m := 4096) (by omega) (by omega) (by omega) (by omega)
    have m2 := mul_le_sq (a := ((j + 1 : Nat) : Int)) (b := (n : Int)) (m := 4096) (by omega) (by omega) (by omega) (by omega)
    have e0 := col64 (A := A) (n := n) (i := j) h1 (by omega) (by omega)
    have e1 := col64 (A := A) (n := n) (i := j + 1) h1 (by omega) (by omega)
    have hW4 : (j + 1) * n / A - j * n / A ≤ n := Nat.le_trans (Nat.sub_le _ _) b2
    have hWW : 0 < (j + 1) * n / A - j * n / A := by omega
    have nz : ((A : Int) ≠ 0) = True := eq_true (by omega)
    have hcut := flos_cut h (i := j * n / A) (m := (j + 1) * n / A - j * n / A) (by omega)
    have hcol : flosOf ((cs.drop (j * n / A)).take ((j + 1) * n / A - j * n / A)) = colL (flosOf cs) n A j := hcut.2
    have hF := hcut.1
    generalize hL : (cs.drop (j * n / A)).take ((j + 1) * n / A - j * n / A) = L at hF hcol
    generalize hW : (j + 1) * n / A - j * n / A = W at hF hL hWW hW4
    have hcl2 : (colL (flosOf cs) n A j).length = W := by rw [← hcol]; exact hF.len
    have hLl := hF.2.2
    have hfc := colL_fin (n := n) (A := A) (j := j) hf
    have s1 := (first_ext (.inl rfl) hfc (by rw [hcl2]; exact hWW)).2.1
    have s2 := (first_ext (.inr rfl) hfc (by rw [hcl2]; exact hWW)).2.1
    have g2 : (((j * n / A : Nat) : Int) ≤ (((j + 1) * n / A : Nat) : Int)) = True := eq_true (by omega)
    have g3 : ((((j + 1) * n / A : Nat) : Int) ≤ (n : Int)) = True := eq_true (by omega)
    rw [decR, List.map_append]
    simp only [shut_eq, condO_dec, guardO_dec, Int.ofNat_lt, hk, if_true, nz, wj, e0, e1, g2, g3, Int.natCast_nonneg, true_and, and_true, Nat.mul_one, hcl, Int.toNat_natCast, hW, hL]
    refine loopC_rule (fun k (r2 : Nat → List AV → Int → Int → Nat → List AV → Int → Int → Int → Int → Nat → List AV → Int → Int → Nat → List AV → Nat → List AV → Nat → List AV → Option (List RLeaf)) => ∀ (i lo hi : Nat), i + k = W → lo < W → hi < W → extI .lt (colL (flosOf cs) n A j) i lo ((colL (flosOf cs) n A j).drop i) = extI .lt (colL (flosOf cs) n A j) 0 0 (colL (flosOf cs) n A j) →
        extI .gt (colL (flosOf cs) n A j) i hi ((colL (flosOf cs) n A j).drop i) = extI .gt (colL (flosOf cs) n A j) 0 0 (colL (flosOf cs) n A j) →
      r2 n cs (A : Int) (n : Int) W L (lo : Int) (hi : Int) (A : Int) (j : Int) W L (W : Int) (i : Int) x6 x7 x8 x9 acc.length (flosL acc) =
        some [.fz (acc ++ ((decC (colL (flosOf cs) n A j)).map clean1 ++ (decR (flosOf cs) n A kk (j + 1)).map clean1)).length (flosL (acc ++ ((decC (colL (flosOf cs) n A j)).map clean1 ++ (decR (flosOf cs) n A kk (j + 1)).map clean1))), .v (.int .i64 0)])
      ?_ (n + 2100) W (by omega) 0 0 0 (by omega) hWW hWW rfl rfl
    clear s1 s2 e0 e1 g2 g3 nz m1 m2 hL hW hcut
    intro k2 r2 ih2 i lo hi hi0 hlo hhi x1 x2
    by_cases hk2 : i < W
    · have iL : i < (colL (flosOf cs) n A j).length := by rw [hcl2]; exact hk2
      rw [drop_cons (d := none) iL, extI] at x1 x2
      have p0 : 0 < L.length := by rw [hLl]; exact hWW
      have wi : IntKind.i64.wrap ((i : Int) + 1) = ((i + 1 : Nat) : Int) := by rw [wrap64] <;> omega
      simp only [shut_eq, condO_dec, condO_ord, guardO_dec, Int.ofNat_lt, hk2, hlo, hhi, p0, if_true, Int.natCast_nonneg, true_and, and_true, Nat.mul_one, Int.toNat_natCast, hF.get hk2, hF.get hlo, hF.get hhi, bindO_ok, hcol, wi]
      by_cases c1 : ordO .f32 ((colL (flosOf cs) n A j).getD i none) ((colL (flosOf cs) n A j).getD lo none) = some .lt <;>
      by_cases c2 : ordO .f32 ((colL (flosOf cs) n A j).getD i none) ((colL (flosOf cs) n A j).getD hi none) = some .gt <;>
      simp only [c1, c2, if_true, if_false] at x1 x2 ⊢
      · exact ih2 (k2 - 1) (by omega) (i + 1) i i (by omega) hk2 hk2 x1 x2
      · exact ih2 (k2 - 1) (by omega) (i + 1) i hi (by omega) hk2 hhi x1 x2
      · exact ih2 (k2 - 1) (by omega) (i + 1) lo i (by omega) hlo hk2 x1 x2
      · exact ih2 (k2 - 1) (by omega) (i + 1) lo hi (by omega) hlo hhi x1 x2
    · have hd : (colL (flosOf cs) n A j).drop i = [] := by rw [List.drop_eq_nil_iff, hcl2]; omega
      rw [hd, extI] at x1 x2
      have p0 : 0 < L.length := by rw [hLl]; exact hWW
      have g5 : ((acc.length + 2) * 5 ≤ 549755813888) = True := eq_true (by omega)
      have q1 : (if (hi : Int) < (lo : Int) then (hi : Int) else (lo : Int)) = ((min lo hi : Nat) : Int) := by split <;> omega
      have q2 : (if (hi : Int) > (lo : Int) then (hi : Int) else (lo : Int)) = ((max lo hi : Nat) : Int) := by split <;> omega
      have m1 : min lo hi < W := by omega
      have m2 : max lo hi < W := by omega
      simp only [shut_eq, q1, q2]
      simp only [condO_dec, guardO_dec, Int.ofNat_lt, hk2, m1, m2, p0, if_true, if_false, Int.natCast_nonneg, true_and, and_true, Nat.mul_one, Int.toNat_natCast, hF.get m1, hF.get m2, bindO_ok, hcol, wj, g5, putF2, ← flosL_app]
      have := ih kk (by omega) (j + 1) (acc ++ (decC (colL (flosOf cs) n A j)).map clean1) x6 x7 x8 x9 (by omega) (by simp [decC]; omega)
      unfold decC at this ⊢
      rw [← x1, ← x2] at this ⊢
      simpa using this
  · have : k = 0 := by omega
    subst this
    simp only [shut_eq, condO_dec, Int.ofNat_lt, hk, if_false, decR, List.map_nil, List.append_nil]

end Go.Abs
end

