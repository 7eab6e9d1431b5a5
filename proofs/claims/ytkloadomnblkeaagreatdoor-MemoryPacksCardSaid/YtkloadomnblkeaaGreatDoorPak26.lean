/- Part 26 of the library that the proof of the statement uses: an abstract run of the program, proved right, and what its functions give. -/
import Derived.Test.YtkloadomnblkeaaGreatDoorPak25
set_option linter.unusedVariables false
set_option linter.unusedSimpArgs false

section
/- The law MemoryPacks. -/
set_option linter.unusedVariables false
set_option linter.unusedSimpArgs false
namespace Go.Abs
open Go.Proofs Classical

theorem unpL_len : ∀ (zs : List Int) (b : Int) (c : Nat), (okL (unpL b c zs)).length ≤ zs.length
  | [], _, _ => by simp [unpL, okL]
  | [z], b, c => by
    simp only [unpL]
    split
    · cases unpS b c z <;> simp [okL]
    · simp [okL]
  | z :: m :: ms, b, c => by
    have h1 : ∀ (x : Int) (r : Except Int (List Int)), (okL (r.map (x :: ·))).length ≤ (okL r).length + 1 := by
      intro x r; cases r <;> simp [okL, Except.map]
    simp only [unpL]
    split
    · cases unpS b c z with
      | error e => simp [okL]
      | ok b' => have := h1 b' (unpL b' (c + 1) (m :: ms)); have := unpL_len (m :: ms) b' (c + 1); simp at *; omega
    · split
      · simp [okL]
      · cases unpS b c (z + 128 * (m - 1)) with
        | error e => simp [okL]
        | ok b' => have := h1 b' (unpL b' (c + 1) ms); have := unpL_len ms b' (c + 1); simp at *; omega

theorem unpR_len {n : Nat} {xs : List Int} : (okL (unpR n xs)).length ≤ xs.length := by
  unfold unpR; split
  · simp [okL]
  · exact unpL_len xs 0 0

theorem lenB_le {n b c : Int} (h : lenB n b c = true) (hb : b ≤ c) (hc : 0 ≤ c) (hc2 : c < 1000000) : n ≤ c + 2 := by
  unfold lenB at h
  rw [wrap64 (by omega) (by omega)] at h
  have := of_decide_eq_true h
  omega

theorem run_9' {n m : Nat} {cs ds : List AV} (hI : Ints n cs) (hB : Bytes m ds) : (fsM mz9 waysP 1 8).call (List RLeaf) 9 [.ofB (.list n cs), .ofB (.list m ds)] [] (resK [false]) = some [.v (.bool true)] := by
  rw [run_9]
  have e1 : zrow (ofV (Go.Value.int IntKind.i64 (0 : Int))).cells 0 ++ cs = cs := rfl
  have e2 : zrow (ofV (Go.Value.int IntKind.u8 (0 : Int))).cells 0 ++ ds = ds := rfl
  by_cases h1 : lenB n 100 4096 = true
  case neg =>
    have h1' : lenB n 100 4096 = false := by simpa using h1
    simp only [shut_eq, h1']; rfl
  have hb : (m : Int) ≤ 8194 ∨ (lenB m 100 8192 = false ∧ (m : Int) ≠ 4097) := by
    by_cases h2 : lenB m 100 8192 = true
    · exact .inl (lenB_le h2 (by omega) (by omega) (by omega))
    · by_cases h3 : (m : Int) = 4097
      · omega
      · exact .inr ⟨by simpa using h2, h3⟩
  rcases hb with hb | ⟨hb, hb'⟩
  case inr =>
    have hb2 : ((m : Int) != 4097) = true := bne_iff_ne.mpr hb'
    simp only [shut_eq, h1, hb, hb2]; rfl
  have hn := lenB_le h1 (by omega) (by omega) (by omega)
  have k1 : ∀ k (l : List Int), l.length ≤ 20000 → Nums k l.length (numsL k l) := fun k l hl => Nums_L (by omega)
  have hil := hI.len
  have hol := hB.1.il
  have p1 : (packL 0 (intsOf cs)).length ≤ 20000 := by have := packL_len (b := 0) (cs := intsOf cs); omega
  have p2 : (packR n (intsOf cs)).1.length ≤ 20000 := by unfold packR; split; exact p1; simp
  have p3 : (okL (unpR m (intsOf ds))).length ≤ 20000 := by have := unpR_len (n := m) (xs := intsOf ds); omega
  have q1 := k1 .u8 _ p1
  have q2 := k1 .u8 _ p2
  have q3 := k1 .i64 _ p3
  have q0 : Nums .u8 0 [] := ⟨by omega, rfl, rfl⟩
  have hcl : cs.length = n := hI.2.2
  have hdl : ds.length = m := hB.1.len
  simp only [shut_eq, Nat.zero_add, Nat.mul_one, e1, e2, guardO_dec, hcl, hdl, hI, hB, q0, q1, q2, q3, if_true, and_true, true_and, numsL_of]
  rw [if_pos (show n * 9 ≤ 549755813888 by omega), if_pos (show m * 2 ≤ 549755813888 by omega)]
  obtain ⟨b0, e0⟩ := tot_cond (p := !lenB (n : Int) 100 4096) (tot_some true) (tot_cond (p := !lenB (m : Int) 100 8192) (tot_some ((m : Int) != 4097)) (tot_some false))
  rw [e0, bindO_ok]
  cases b0 with
  | true => rfl
  | false =>
    show condO (codesE n (intsOf cs) == 0) _ _ = _
    rw [condO_beq]
    by_cases hc : codesE n (intsOf cs) = 0
    · have e : packR n (intsOf cs) = (packL 0 (intsOf cs), 0) := if_pos hc
      rw [if_pos hc, if_pos hc, e, hc]
      simp only [decide_true, beq_self_eq_true]; rfl
    · have e : packR n (intsOf cs) = ([], codesE n (intsOf cs)) := if_neg hc
      rw [if_neg hc, e]
      have : intsOf [] = [] := rfl
      simp only [this, decide_true, beq_self_eq_true]; rfl

end Go.Abs
end

