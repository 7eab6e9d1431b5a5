/- Part 15 of the library that the proof of the statement uses: an abstract run of the program, proved right, and what its functions give. -/
import Derived.Test.YtkloadomnblkeaaGreatDoorCv14
set_option linter.unusedVariables false
set_option linter.unusedSimpArgs false

section
/- Lists of integers of any kind; checks of lengths. -/
set_option linter.unusedVariables false
set_option linter.unusedSimpArgs false
namespace Go.Abs
open Classical Go.RowKit

theorem tot_cond {p : Bool} {x y : Option Bool} (hx : ∃ b, x = some b) (hy : ∃ b, y = some b) : ∃ b, condO p x y = some b := by cases p <;> assumption

theorem tot_some (b : Bool) : ∃ b', some b = some b' := ⟨b, rfl⟩

/-- A list of integers of a kind. -/
structure Nums (k : IntKind) (n : Nat) (cs : List AV) : Prop where
  lt : n < 9223372036854775808
  eq : cs = (intsOf cs).map (AV.int k)
  len : cs.length = n

section
variable {k : IntKind} {n m : Nat} {cs ds : List AV}

theorem Ints.nums (h : Ints n cs) : Nums .i64 n cs := ⟨h.1, h.2.1, h.2.2⟩
theorem Nums.ints (h : Nums .i64 n cs) : Ints n cs := ⟨h.1, h.2, h.3⟩

theorem Nums.il (h : Nums k n cs) : (intsOf cs).length = n := by simp [intsOf, h.len]

theorem Nums.get (h : Nums k n cs) {i : Nat} (hi : i < n) : asInt k (cs.getD i .top) = some ((intsOf cs).getD i 0) := by
  have h4 := h.il
  have h5 : i < (intsOf cs).length := by omega
  rw [List.getD_eq_getElem?_getD, List.getD_eq_getElem?_getD]
  conv => lhs; rw [h.eq]
  simp [h5, asInt]

def numsL (k : IntKind) (xs : List Int) : List AV := xs.map (AV.int k)

theorem numsL_of {xs : List Int} : intsOf (numsL k xs) = xs := by
  simp [intsOf, numsL, List.map_map, Function.comp_def, toI]
theorem numsL_len {xs : List Int} : (numsL k xs).length = xs.length := by simp [numsL]
theorem numsL_app {xs ys : List Int} : numsL k (xs ++ ys) = numsL k xs ++ numsL k ys := by simp [numsL]
theorem Nums_L {xs : List Int} (h : xs.length < 9223372036854775808) : Nums k xs.length (numsL k xs) := ⟨h, by rw [numsL_of]; rfl, numsL_len⟩
theorem numsL_plain {xs : List Int} : ∀ c ∈ numsL k xs, PlainC c := by
  intro c hc
  obtain ⟨z, _, rfl⟩ := List.mem_map.1 hc
  exact .int _ _

theorem Nums.mem (h : Nums k n cs) {i : Nat} (hi : i < n) : (intsOf cs).getD i 0 ∈ intsOf cs := by
  have h4 := h.il
  rw [List.getD_eq_getElem?_getD, List.getElem?_eq_getElem (by omega)]
  exact List.getElem_mem _

theorem nums_of {x : AV} (h : ShR (.sl [.int k]) x) : ∃ n cs, x = .list n cs ∧ Nums k n cs ∧ ∀ z ∈ intsOf cs, (Lit.int k z).wf = true := by
  cases h with
  | sl es n els hn hl he hv =>
    have key : ∀ x ∈ els.flatten, AV.int k (toI x) = x ∧ (Lit.int k (toI x)).wf = true := by
      intro x hx
      have := hv [x] (ShR.flat1 he hx) 0 _ x rfl rfl
      cases this with
      | int _ z hz => exact ⟨rfl, hz⟩
    refine ⟨n, els.flatten, rfl, ⟨by unfold maxLen at hn; omega, ?_, by rw [flat_len he]; simp [hl]⟩, ?_⟩
    · unfold intsOf
      rw [List.map_map]
      exact (List.map_congr_left (g := id) (fun x hx => (key x hx).1) |>.trans (List.map_id _)).symm
    · intro z hz
      obtain ⟨x, hx, rfl⟩ := List.mem_map.1 hz
      exact (key x hx).2

/-- The comparison of two lists of integers, as the program makes it. -/
theorem same_nums (h : Nums k n cs) (h' : Nums k m ds) {N : Nat} (hN : n < N) : (
 condO (shut ((↑n : Int) != (↑m : Int)))
 (
 some ([RLeaf.v (AV.bool false)]))
 (
 loopC N (fun r_1 (x0_1 : Nat) (x1_1 : List AV) (x2_1 : Nat) (x3_1 : List AV) (x4_1 : Int) =>
 condO (shut (decide (x4_1 < (↑x0_1 : Int))))
 (
 guardO (shut (decide ((0 : Int) ≤ x4_1 ∧ x4_1 < (↑x0_1 : Int) ∧ 0 < x1_1.length))) <|
 bindO (asInt k (x1_1.getD (x4_1.toNat * 1) AV.top)) fun v4 =>
 guardO (shut (decide ((0 : Int) ≤ x4_1 ∧ x4_1 < (↑x2_1 : Int) ∧ 0 < x3_1.length))) <|
 bindO (asInt k (x3_1.getD (x4_1.toNat * 1) AV.top)) fun v6 =>
 condO (shut (v4 != v6))
 (
 some ([RLeaf.v (AV.bool false)]))
 (
 r_1 (x0_1) (x1_1) (x2_1) (x3_1) (shut (IntKind.i64.wrap (x4_1 + (1 : Int))))))
 (
 some ([RLeaf.v (AV.bool true)])))
 (fun _ _ _ _ _ => none) (n) (cs) (m) (ds) ((0 : Int)))) = some [.v (.bool (decide (intsOf cs = intsOf ds)))] := by
  simp only [shut_eq, condO_bne, Int.ofNat_inj]
  by_cases hnm : n = m
  · subst hnm
    rw [if_pos rfl]
    refine loopC_rule (fun k' (r : Nat → List AV → Nat → List AV → Int → Option (List RLeaf)) => ∀ i : Nat, i + k' = n → r n cs n ds (i : Int) = some [RLeaf.v (.bool (decide ((intsOf cs).drop i = (intsOf ds).drop i)))]) ?_ N n hN 0 (by omega)
    intro k' r ih i hi
    by_cases hk : i < n
    · have h2 : 0 < cs.length := by rw [h.len]; omega
      have h3 : 0 < ds.length := by rw [h'.len]; omega
      rw [drop_cons (xs := intsOf cs) (d := 0) (show i < (intsOf cs).length by rw [h.il]; exact hk), drop_cons (xs := intsOf ds) (d := 0) (show i < (intsOf ds).length by rw [h'.il]; exact hk)]
      simp only [shut_eq, condO_dec, condO_bne, guardO_dec, Int.ofNat_lt, hk, h2, h3, if_true, Int.toNat_natCast, Nat.mul_one, h.get hk, h'.get hk, bindO_ok, idx64 h.lt hk, ih (k' - 1) (by omega) (i + 1) (by omega), and_true, Int.natCast_nonneg, true_and, List.cons.injEq]
      by_cases hz : (intsOf cs).getD i 0 = (intsOf ds).getD i 0 <;> simp only [hz, if_true, if_false, true_and, false_and, decide_false]
    · have h2 : (intsOf cs).drop i = [] := by rw [List.drop_eq_nil_iff, h.il]; omega
      have h3 : (intsOf ds).drop i = [] := by rw [List.drop_eq_nil_iff, h'.il]; omega
      simp only [shut_eq, condO_dec, Int.ofNat_lt, hk, h2, h3, if_false, decide_true]
  · rw [if_neg hnm]
    have : intsOf cs ≠ intsOf ds := fun e => hnm (by rw [← h.il, e, h'.il])
    simp only [this, decide_false]

theorem first_ints (h : Ints n cs) {N : Nat} (hN : n < N) : (
 loopC N (fun r_0 (x0_0 : Nat) (x1_0 : List AV) (x2_0 : Int) (x3_0 : Int) =>
 condO (shut (decide (x3_0 < x2_0)))
 (
 guardO (shut (decide ((0 : Int) ≤ x3_0 ∧ x3_0 < (↑x0_0 : Int) ∧ 0 < x1_0.length))) <|
 bindO (asInt IntKind.i64 (x1_0.getD (x3_0.toNat * 1) AV.top)) fun v3 =>
 condO (shut (v3 != (0 : Int)))
 (
 some ([RLeaf.v (AV.int IntKind.i64 v3)]))
 (
 r_0 (x0_0) (x1_0) (x2_0) (shut (IntKind.i64.wrap (x3_0 + (1 : Int))))))
 (
 some ([RLeaf.v (AV.int IntKind.i64 (0 : Int))])))
 (fun _ _ _ _ => none) (n) (cs) ((↑n : Int)) ((0 : Int))) = some [.v (.int .i64 (firstNZ (intsOf cs)))] := by
  refine loopC_rule (fun k (r : Nat → List AV → Int → Int → Option (List RLeaf)) => ∀ i : Nat, i + k = n → r n cs (n : Int) (i : Int) = some [RLeaf.v (.int .i64 (firstNZ ((intsOf cs).drop i)))]) ?_ N n hN 0 (by omega)
  intro k r ih i hi
  by_cases hk : i < n
  · have h2 : 0 < cs.length := by rw [h.2.2]; omega
    rw [drop_cons (d := 0) (show i < (intsOf cs).length by rw [h.len]; exact hk)]
    simp only [shut_eq, condO_dec, condO_bne, guardO_dec, Int.ofNat_lt, hk, h2, if_true, Int.toNat_natCast, Nat.mul_one, h.get hk, bindO_ok, idx64 h.1 hk, ih (k - 1) (by omega) (i + 1) (by omega), and_true, Int.natCast_nonneg, true_and, firstNZ]
    by_cases hz : (intsOf cs).getD i 0 = 0 <;> simp only [hz, if_true, if_false]
  · have h2 : (intsOf cs).drop i = [] := by rw [List.drop_eq_nil_iff, h.len]; omega
    simp only [shut_eq, condO_dec, Int.ofNat_lt, hk, h2, firstNZ, if_false]

end
end Go.Abs
end

