/- Part 39 of the library that the proof of the statement uses: an abstract run of the program, proved right, and what its functions give. -/
import Derived.Test.YtkloadomnblkeaaGreatDoorKp38
set_option linter.unusedVariables false
set_option linter.unusedSimpArgs false

section
/- The law MemoryWords. -/
set_option linter.unusedVariables false
set_option linter.unusedSimpArgs false
namespace Go.Abs
open Go.Proofs Classical

theorem lenB_le' {n b c : Int} (h : lenB n b c = true) (hb : b ≤ c) (hc : 0 ≤ c) (hc2 : c < 1000000) : n ≤ c + 2 := by
  unfold lenB at h
  rw [wrap64 (by omega) (by omega)] at h
  have := of_decide_eq_true h
  omega

theorem packW_len : ∀ (k : Nat) (ws : List Int), ws.length ≤ k → (packW ws).length ≤ 3 * ws.length
  | _, [], _ => by simp [packW]
  | 0, x :: xs, h => by simp at h
  | k + 1, x :: xs, h => by
    have hl := runLen_le x 254 xs
    rw [packW]
    simp only [List.length_cons] at h
    have := packW_len k (xs.drop (runLen x 254 xs)) (by simp; omega)
    simp at this ⊢
    omega

theorem unpWR_len {n : Nat} {xs : List Int} (h : ∀ z ∈ xs, 0 ≤ z) : (okL (unpWR n xs)).length ≤ 4096 := by
  unfold unpWR
  split
  · simp [okL]
  · split
    · simp [okL]
    · have := unpW_len xs 255 0 0 (by omega) h; omega

theorem run_10' {n m : Nat} {cs ds : List AV} (hW : Words n cs) (hB : Bytes m ds) : (fsM mz10 waysP 1 8).call (List RLeaf) 10 [.ofB (.list n cs), .ofB (.list m ds)] [] (resK [false]) = some [.v (.bool true)] := by
  rw [run_10]
  have e1 : zrow (ofV (Go.Value.int IntKind.u16 (0 : Int))).cells 0 ++ cs = cs := rfl
  have e2 : zrow (ofV (Go.Value.int IntKind.u8 (0 : Int))).cells 0 ++ ds = ds := rfl
  by_cases h1 : lenB n 600 4096 = true
  case neg =>
    have h1' : lenB n 600 4096 = false := by simpa using h1
    simp only [shut_eq, h1']; rfl
  by_cases h2 : lenB m 120 12288 = true
  case neg =>
    have h2' : lenB m 120 12288 = false := by simpa using h2
    simp only [shut_eq, h1, h2']; rfl
  have hn := lenB_le' h1 (by omega) (by omega) (by omega)
  have hm := lenB_le' h2 (by omega) (by omega) (by omega)
  have k1 : ∀ k (l : List Int), l.length ≤ 100000 → Nums k l.length (numsL k l) := fun k l hl => Nums_L (by omega)
  have hil := hW.1.il
  have p1 : (packW (intsOf cs)).length ≤ 100000 := by have := packW_len _ (intsOf cs) (Nat.le_refl _); omega
  have p3 : (okL (unpWR m (intsOf ds))).length ≤ 100000 := by have := unpWR_len (n := m) (xs := intsOf ds) (fun z hz => (hB.2 z hz).1); omega
  have q1 := k1 .u8 _ p1
  have q3 := k1 .u16 _ p3
  have q0 : Nums .u8 0 [] := ⟨by omega, rfl, rfl⟩
  have q00 : Nums .u8 ([] : List Int).length (numsL .u8 []) := q0
  have hcl : cs.length = n := hW.1.len
  have hdl : ds.length = m := hB.1.len
  simp only [shut_eq, Nat.zero_add, Nat.mul_one, e1, e2, guardO_dec, hcl, hdl, hW, hB, q0, q1, q3, if_true, and_true, true_and, numsL_of, h1, h2]
  rw [if_pos (show n * 3 ≤ 549755813888 by omega), if_pos (show m * 2 ≤ 549755813888 by omega)]
  show condO _ _ _ = _
  rw [condO_dec]
  by_cases hc : n > 4096
  · rw [if_pos (by omega)]
    simp only [hc, if_true, q00, and_true, numsL_of, show intsOf [] = [] from rfl, decide_true, beq_self_eq_true]
    rfl
  · rw [if_neg (by omega)]
    simp only [hc, if_false, q1, and_true, numsL_of, decide_true, beq_self_eq_true, show n ≤ 4096 by omega, if_true]
    rfl

end Go.Abs
end

