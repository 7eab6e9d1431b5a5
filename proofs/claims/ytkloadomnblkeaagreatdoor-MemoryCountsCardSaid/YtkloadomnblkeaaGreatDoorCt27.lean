/- Part 27 of the library that the proof of the statement uses: an abstract run of the program, proved right, and what its functions give. -/
import Derived.Test.YtkloadomnblkeaaGreatDoorCt26
set_option linter.unusedVariables false
set_option linter.unusedSimpArgs false

section
/- The law MemoryCounts. -/
set_option linter.unusedVariables false
set_option linter.unusedSimpArgs false
namespace Go.Abs
open Go.Proofs Classical Go.Abs.Fin

theorem longR_nz : ∀ (hs : List Bool) (i a b : Nat), a ≤ b → (longR i a b hs).1 < (longR i a b hs).2 ∨ longR i a b hs = (a, b)
  | [], i, a, b, h => .inr rfl
  | h :: hs, i, a, b, hab => by
    rw [longR]
    split
    · rename_i hgt
      rcases longR_nz hs (i + 1) i (i + runT (h :: hs)) (by omega) with h1 | h1
      · exact .inl h1
      · rw [h1]; exact .inl (by show i < i + _; omega)
    · exact longR_nz hs (i + 1) a b hab

theorem decR_len (xs : List (Option Nat)) (n A : Nat) : ∀ (k j : Nat), (decR xs n A k j).length = 2 * k
  | 0, j => rfl
  | k + 1, j => by rw [decR, List.length_append, decR_len xs n A k (j + 1)]; simp [decC]; omega

theorem decR_fin {xs : List (Option Nat)} {n A : Nat} (hx : xs.length = n) (hf : ∀ x ∈ xs, finB x = true) (h1 : 1 ≤ A) (h2 : A ≤ n) : ∀ (k j : Nat), j + k ≤ A → ∀ x ∈ decR xs n A k j, finB x = true
  | 0, j, _, x, h => by cases h
  | k + 1, j, hj, x, h => by
    rw [decR] at h
    rcases List.mem_append.1 h with h | h
    · obtain ⟨b1, b2⟩ := col_bounds h1 h2 (j := j) (by omega)
      have hfc := colL_fin (n := n) (A := A) (j := j) hf
      have hcl : (colL xs n A j).length = (j + 1) * n / A - j * n / A := by
        rw [colL, List.length_take, List.length_drop, hx]; omega
      have s1 := (first_ext (.inl rfl) hfc (by rw [hcl]; omega)).2.1
      have s2 := (first_ext (.inr rfl) hfc (by rw [hcl]; omega)).2.1
      have hg : ∀ i, i < (colL xs n A j).length → finB ((colL xs n A j).getD i none) = true := fun i hi => by
        rw [List.getD_eq_getElem?_getD, List.getElem?_eq_getElem hi]; exact hfc _ (List.getElem_mem _)
      unfold decC at h
      simp only [List.mem_cons, List.not_mem_nil, or_false] at h
      rcases h with rfl | rfl
      · exact hg _ (by omega)
      · exact hg _ (by omega)
    · exact decR_fin hx hf h1 h2 k (j + 1) (by omega) x h

theorem finB_clean {o : Option Nat} (h : finB o = true) : finB (clean1 o) = true := by
  unfold clean1
  split
  · decide +kernel
  · exact h

theorem sameF_clean {xs : List (Option Nat)} (h : ∀ x ∈ xs, finB x = true) : sameF (xs.map clean1) xs = true := by
  unfold sameF
  simp only [List.length_map, beq_self_eq_true, Bool.true_and, List.all_eq_true, List.mem_range]
  intro i hi
  have e : (xs.map clean1).getD i none = clean1 (xs.getD i none) := by
    rw [List.getD_eq_getElem?_getD, List.getD_eq_getElem?_getD, List.getElem?_map, List.getElem?_eq_getElem hi]; rfl
  have hf : finB (xs.getD i none) = true := by
    rw [List.getD_eq_getElem?_getD, List.getElem?_eq_getElem hi]; exact h _ (List.getElem_mem _)
  rw [e, beq_iff_eq, ord_eq (finB_clean hf) hf, key_clean hf]

theorem sameF_nil : sameF [] [] = true := rfl

theorem fin7 {fo : Bool} {LR LV : Nat × Nat} {LE lim : Int} {HF : List Int} {m : Nat} (hnz : LR.1 < LR.2 ∨ LR = (0, 0)) (hV : (fo = true → LV = LR ∧ (LE = if LR.1 = LR.2 then 7 else 0)) ∧ (fo ≠ true → LV = (0, 0) ∧ LE = 1)) (hm64 : lim = 0 → m ≤ 64) :
    condO fo (if fo = true then condO (decide (LR.2 > LR.1)) (condO (lim == 0) (if m ≤ 64 then some [RLeaf.v (AV.bool ((LV.1 : Int) == (LR.1 : Int) && (LV.2 : Int) == (LR.2 : Int) && LE == 0 && decide ((if lim = 0 then HF else []) = HF)))] else none) (some [RLeaf.v (AV.bool ((LV.1 : Int) == (LR.1 : Int) && (LV.2 : Int) == (LR.2 : Int) && LE == 0 && decide ((if lim = 0 then HF else []) = [])))])) (condO (lim == 0) (if m ≤ 64 then some [RLeaf.v (AV.bool ((LV.1 : Int) == 0 && (LV.2 : Int) == 0 && LE == 7 && decide ((if lim = 0 then HF else []) = HF)))] else none) (some [RLeaf.v (AV.bool ((LV.1 : Int) == 0 && (LV.2 : Int) == 0 && LE == 7 && decide ((if lim = 0 then HF else []) = [])))])) else none) (condO (lim == 0) (if m ≤ 64 then some [RLeaf.v (AV.bool ((LV.1 : Int) == 0 && (LV.2 : Int) == 0 && LE == 1 && decide ((if lim = 0 then HF else []) = HF)))] else none) (some [RLeaf.v (AV.bool ((LV.1 : Int) == 0 && (LV.2 : Int) == 0 && LE == 1 && decide ((if lim = 0 then HF else []) = [])))])) = some [RLeaf.v (AV.bool true)] := by
  have tail : ∀ (b : Bool), (if m ≤ 64 then some [RLeaf.v (AV.bool b)] else none) = some [RLeaf.v (AV.bool b)] ∨ ¬ m ≤ 64 := fun b => by
    by_cases h : m ≤ 64
    · exact .inl (if_pos h)
    · exact .inr h
  have z0 : ((0 : Int) == 0) = true := rfl
  by_cases hfo : fo = true
  · obtain ⟨v1, v2⟩ := hV.1 hfo
    rw [v1, v2, hfo, condO_tx, if_pos rfl]
    rcases hnz with hk | hk
    · have k1 : decide (LR.2 > LR.1) = true := decide_eq_true hk
      have k2 : ¬ LR.1 = LR.2 := by omega
      rw [k1, condO_tx, if_neg k2]
      by_cases hm : lim = 0
      · have hm6 := hm64 hm
        simp only [hm, hm6, z0, condO_tx, if_true, beq_self_eq_true, decide_true, Bool.and_self]
      · have hm0 : (lim == 0) = false := beq_eq_false_iff_ne.2 hm
        simp only [hm, hm0, z0, condO_fx, if_false, beq_self_eq_true, decide_true, Bool.and_self]
    · rw [hk]
      have z77 : ((7 : Int) == 7) = true := rfl
      have z00 : (((0 : Nat) : Int) == 0) = true := rfl
      have k1 : decide ((0 : Nat) > 0) = false := rfl
      simp only [k1, condO_fx, if_true, z77, z00]
      by_cases hm : lim = 0
      · have hm6 := hm64 hm
        simp only [hm, hm6, z0, condO_tx, if_true, beq_self_eq_true, decide_true, Bool.and_self]
      · have hm0 : (lim == 0) = false := beq_eq_false_iff_ne.2 hm
        simp only [hm, hm0, z0, condO_fx, if_false, beq_self_eq_true, decide_true, Bool.and_self]
  · obtain ⟨v1, v2⟩ := hV.2 hfo
    have z11 : ((1 : Int) == 1) = true := rfl
    have z00 : (((0 : Nat) : Int) == 0) = true := rfl
    rw [v1, v2, Bool.eq_false_iff.2 hfo, condO_fx]
    simp only [z00, z11]
    by_cases hm : lim = 0
    · have hm6 := hm64 hm
      simp only [hm, hm6, z0, condO_tx, if_true, beq_self_eq_true, decide_true, Bool.and_self]
    · have hm0 : (lim == 0) = false := beq_eq_false_iff_ne.2 hm
      simp only [hm, hm0, z0, condO_fx, if_false, beq_self_eq_true, decide_true, Bool.and_self]

theorem run_7' {n m : Nat} {cs ds : List AV} {f t c : Int} {o : Option Nat} (h : Flos n cs) (h' : Flos m ds) :
    (fsM mzG waysP 1 12).call (List RLeaf) 7 [.ofB (.list n cs), .ofB (.list m ds), .s (.agg [.b (.int .i64 f), .b (.int .i64 t), .b (.int .i64 c), .b (.flo .f32 o)])] [] (resK [false]) = some [.v (.bool true)] := by
  rw [run_7]
  simp only [shut_eq, numsL_of, flosOf_L, condO_ts, bindO_ok]
  by_cases hg : (!lenB (n : Int) 64 4096 || decide ((m : Int) > 66)) = true
  · rw [hg]; rfl
  have hg' := Bool.eq_false_iff.2 hg
  rw [hg', condO_fx]
  have hb : n ≤ 5000 ∧ m ≤ 66 := by
    simp only [Bool.or_eq_false_iff, decide_eq_false_iff_not, Bool.not_eq_false', lenB, decide_eq_true_eq] at hg'
    have : IntKind.i64.wrap (4096 + 2) = 4098 := by decide
    rw [this] at hg'
    omega
  clear hg hg'
  have l1 : (histV n (flosOf cs) m (flosOf ds)).length ≤ 5000 := by
    unfold histV
    split
    · rw [histF_len]; simp; omega
    · simp
  have l2 : (decV n (flosOf cs) c).length ≤ 5000 := by
    unfold decV
    split
    · rename_i h0
      rw [List.length_map, decR_len]
      unfold decE at h0
      repeat' (split at h0)
      all_goals omega
    · simp
  have g1 : Nums .i64 (histV n (flosOf cs) m (flosOf ds)).length (numsL .i64 (histV n (flosOf cs) m (flosOf ds))) := Nums_L (by omega)
  have g2 : Flos (decV n (flosOf cs) c).length (flosL (decV n (flosOf cs) c)) := Flos_L (by omega)
  have g3 : Nums .i64 0 [] := Nums_L (xs := []) (by decide)
  have g4 : Flos 0 [] := Flos_L (xs := []) (by decide)
  have g5 : Nums .i64 (m + 1) (numsL .i64 (histF (flosOf ds) (List.replicate (m + 1) (0 : Int)) (flosOf cs))) := by
    have := Nums_L (k := .i64) (xs := histF (flosOf ds) (List.replicate (m + 1) (0 : Int)) (flosOf cs)) (by rw [histF_len]; simp; omega)
    rw [histF_len, List.length_replicate] at this
    exact this
  have g6 : n ≤ 100000000 := by omega
  have g7 : m ≤ 100000000 := by omega
  have n0 : intsOf [] = [] := rfl
  have f0 : flosOf [] = [] := rfl
  simp only [guardO_dec, h, h', g1, g2, g3, g4, g5, g6, g7, n0, f0, and_self, if_true, condO_sf, bindO_ok, true_and]
  by_cases h0 : sampErr n (flosOf cs) = 0
  case neg =>
    have e1 : longV n (flosOf cs) o = (0, 0) := if_neg fun hh => h0 hh.1
    have e2 : longE n (flosOf cs) o = sampErr n (flosOf cs) := if_neg h0
    have e3 : histE n (flosOf cs) m (flosOf ds) = sampErr n (flosOf cs) := if_neg h0
    have e4 : histV n (flosOf cs) m (flosOf ds) = [] := if_neg (by rw [e3]; exact h0)
    have e5 : decE n (flosOf cs) c = sampErr n (flosOf cs) := if_neg h0
    have e6 : decV n (flosOf cs) c = [] := if_neg (by rw [e5]; exact h0)
    rw [show (sampErr n (flosOf cs) == 0) = false from beq_eq_false_iff_ne.2 h0, condO_fx]
    simp only [e1, e2, e3, e4, e5, e6, sameF_nil, beq_self_eq_true, decide_true, Bool.and_self, Bool.true_or, Int.natCast_zero]
  obtain ⟨hn4, hf⟩ := samp_all h0
  have z0 : ((0 : Int) == 0) = true := rfl
  have z3 : ((3 : Int) == 0) = false := rfl
  rw [h0]
  -- the columns
  have hD : (decE n (flosOf cs) c = if c < 1 ∨ c > 2048 then 3 else if (n : Int) < c then 16 else 0) := by
    unfold decE; rw [if_pos h0]
  have key : ∃ A : Bool, A = A := ⟨true, rfl⟩
  simp only [z0, condO_tx, true_and, show (n ≤ 4096) = True from eq_true hn4]
  have L : ∀ G : Option (List RLeaf), G = some [.v (.bool true)] → G = some [.v (.bool true)] := fun _ hh => hh
  have hV : (finB o = true → longV n (flosOf cs) o = longR 0 0 0 (highs o (flosOf cs)) ∧ (longE n (flosOf cs) o = if (longR 0 0 0 (highs o (flosOf cs))).1 = (longR 0 0 0 (highs o (flosOf cs))).2 then 7 else 0)) ∧ (finB o ≠ true → longV n (flosOf cs) o = (0, 0) ∧ longE n (flosOf cs) o = 1) := by
    refine ⟨fun hh => ⟨if_pos ⟨h0, hh⟩, ?_⟩, fun hh => ⟨if_neg fun h2 => hh h2.2, ?_⟩⟩
    · unfold longE; rw [if_pos h0, if_pos hh]
    · unfold longE; rw [if_pos h0, if_neg hh]
  have hH : histE n (flosOf cs) m (flosOf ds) = limC m (flosOf ds) := if_pos h0
  have hHV : histV n (flosOf cs) m (flosOf ds) = if limC m (flosOf ds) = 0 then histF (flosOf ds) (List.replicate (m + 1) 0) (flosOf cs) else [] := by
    unfold histV; rw [hH]
  have hm64 : limC m (flosOf ds) = 0 → m ≤ 64 := by
    intro hh
    unfold limC at hh
    repeat' (split at hh)
    all_goals omega
  rw [hH, hHV]
  have hnz := longR_nz (highs o (flosOf cs)) 0 0 0 (Nat.le_refl _)
  generalize longR 0 0 0 (highs o (flosOf cs)) = LR at hV hnz ⊢
  by_cases hc : c < 1 ∨ c > 2048
  · have e5 : decE n (flosOf cs) c = 3 := by rw [hD, if_pos hc]
    have e6 : decV n (flosOf cs) c = [] := if_neg (by rw [e5]; decide)
    have z33 : ((3 : Int) == 3) = true := rfl
    simp only [e5, e6, hc, if_true, z3, z33, condO_fx, Bool.false_and, sameF_nil, beq_self_eq_true, Bool.and_true, Bool.or_false]
    exact fin7 hnz hV hm64
  by_cases hn : (n : Int) < c
  · have e5 : decE n (flosOf cs) c = 16 := by rw [hD, if_neg hc, if_pos hn]
    have e6 : decV n (flosOf cs) c = [] := if_neg (by rw [e5]; decide)
    have z16 : ((16 : Int) == 16) = true := rfl
    simp only [e5, e6, hc, hn, if_false, z0, z16, decide_true, condO_tx, Bool.true_and, sameF_nil, beq_self_eq_true, Bool.and_true, Bool.or_false]
    exact fin7 hnz hV hm64
  · have e5 : decE n (flosOf cs) c = 0 := by rw [hD, if_neg hc, if_neg hn]
    have e6 : decV n (flosOf cs) c = (decR (flosOf cs) n c.toNat c.toNat 0).map clean1 := if_pos e5
    have hfr := decR_fin h.len hf (A := c.toNat) (by omega) (by omega) c.toNat 0 (by omega)
    have e7 := sameF_clean hfr
    have e8 : Flos (decR (flosOf cs) n c.toNat c.toNat 0).length (flosL (decR (flosOf cs) n c.toNat c.toNat 0)) := Flos_L (by rw [decR_len]; omega)
    have e9 : (1 ≤ c ∧ c ≤ (n : Int)) = True := eq_true (by omega)
    simp only [e5, e6, e7, e8, e9, hc, hn, if_false, if_true, z0, decide_false, Bool.and_false, condO_fx, condO_tx, condO_sf, bindO_ok, beq_self_eq_true, Bool.and_true, Bool.or_false]
    exact fin7 hnz hV hm64

end Go.Abs
end

