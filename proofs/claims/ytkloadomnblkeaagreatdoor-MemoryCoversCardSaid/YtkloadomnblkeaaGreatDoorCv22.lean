/- Part 22 of the library that the proof of the statement uses: an abstract run of the program, proved right, and what its functions give. -/
import Derived.Test.YtkloadomnblkeaaGreatDoorCv21
set_option linter.unusedVariables false
set_option linter.unusedSimpArgs false

section
/- Words that are packed. -/
set_option linter.unusedVariables false
set_option linter.unusedSimpArgs false
namespace Go.Abs
open Go.Proofs Classical

/-- How many words at the beginning are this one, at most so many. -/
def runLen (x : Int) : Nat → List Int → Nat
  | 0, _ => 0
  | _ + 1, [] => 0
  | b + 1, y :: ys => if y = x then runLen x b ys + 1 else 0

theorem runLen_le (x : Int) : ∀ (b : Nat) (l : List Int), runLen x b l ≤ b ∧ runLen x b l ≤ l.length
  | 0, l => by simp [runLen]
  | b + 1, [] => by simp [runLen]
  | b + 1, y :: ys => by
    have := runLen_le x b ys
    simp only [runLen]
    split <;> simp <;> omega

def packW : List Int → List Int
  | [] => []
  | x :: xs => [((runLen x 254 xs + 1 : Nat) : Int), x % 256, x / 256] ++ packW (xs.drop (runLen x 254 xs))
termination_by l => l.length
decreasing_by simp; omega

/-- A list of words. -/
def Words (n : Nat) (cs : List AV) : Prop := Nums .u16 n cs ∧ ∀ z ∈ intsOf cs, 0 ≤ z ∧ z < 65536

theorem wrap8' (z : Int) : IntKind.u8.wrap z = z % 256 := by
  simp [IntKind.wrap, IntKind.signed, IntKind.bits]

theorem run_74' {n : Nat} {cs : List AV} (h : Words n cs) (hn : n ≤ 4096) : (fsM mz2 waysP (n + 300) 8).call (List RLeaf) 74 [.ofB (.list n cs)] [] (resK [true]) =
    some [.fz (packW (intsOf cs)).length (numsL .u8 (packW (intsOf cs)))] := by
  rw [run_74]
  obtain ⟨h, hb⟩ := h
  refine (loopC_rule (fun k (r : Nat → List AV → Int → Nat → List AV → Nat → List AV → Option (List RLeaf)) => ∀ (i : Nat) (x : Nat) (y : List AV) (acc : List Int), i + k ≥ n → i ≤ n → acc.length ≤ 3 * i →
    r n cs (i : Int) x y acc.length (numsL .u8 acc) = some [.fz (acc ++ packW ((intsOf cs).drop i)).length (numsL .u8 (acc ++ packW ((intsOf cs).drop i)))])
    ?_ (n + 300) n (by omega) 0 0 [] [] (by omega) (by omega) (by simp)).trans (by simp)
  intro k r ih i x y acc hi hin ha
  by_cases hk : i < n
  · have h2 : 0 < cs.length := by rw [h.len]; omega
    have hmem := hb _ (h.mem hk)
    simp only [shut_eq, condO_dec, Int.ofNat_lt, hk, if_true]
    rw [drop_cons (d := 0) (show i < (intsOf cs).length by rw [h.il]; exact hk), packW]
    generalize hv : (intsOf cs).getD i 0 = v at hmem ⊢
    have hg : asInt .u16 (cs.getD i .top) = some v := by rw [h.get hk, hv]
    refine (loopC_rule (fun k2 (r2 : Nat → List AV → Int → Int → Nat → List AV → Nat → List AV → Option (List RLeaf)) => ∀ (j : Nat), j + k2 = 255 → 1 ≤ j → i + j ≤ n →
      r2 n cs (i : Int) (j : Int) x y acc.length (numsL .u8 acc) =
        some [.fz (acc ++ ([((runLen v (255 - j) ((intsOf cs).drop (i + j)) + j : Nat) : Int), v % 256, v / 256] ++ packW ((intsOf cs).drop (i + (runLen v (255 - j) ((intsOf cs).drop (i + j)) + j))))).length
          (numsL .u8 (acc ++ ([((runLen v (255 - j) ((intsOf cs).drop (i + j)) + j : Nat) : Int), v % 256, v / 256] ++ packW ((intsOf cs).drop (i + (runLen v (255 - j) ((intsOf cs).drop (i + j)) + j))))))])
      ?_ (n + 300) 254 (by omega) 1 (by omega) (by omega) (by omega)).trans ?_
    · intro k2 r2 ih2 j hj hj1 hjn
      have fin : (if (acc.length + 3) * 2 ≤ 549755813888 then r n cs ((i : Int) + (j : Int)) x y (acc.length + 3) (numsL .u8 acc ++ putCells (putCells (putCells (zrow (ofV (Go.Value.int IntKind.u8 (0 : Int))).cells 3) 0 [AV.int IntKind.u8 (IntKind.u8.wrap (j : Int))]) 1 [AV.int IntKind.u8 (IntKind.u8.wrap ((IntKind.i64.wrap v).tmod 256))]) 2 [AV.int IntKind.u8 (IntKind.u8.wrap (IntKind.i64.wrap ((IntKind.i64.wrap v).tdiv 256)))]) else none) =
          some [.fz (acc ++ ([(j : Int), v % 256, v / 256] ++ packW ((intsOf cs).drop (i + j)))).length (numsL .u8 (acc ++ ([(j : Int), v % 256, v / 256] ++ packW ((intsOf cs).drop (i + j)))))] := by
        have e := ih (n - (i + j)) (by omega) (i + j) x y (acc ++ [(j : Int), v % 256, v / 256]) (by omega) (by omega) (by simp; omega)
        rw [List.length_append, numsL_app] at e
        rw [if_pos (by omega), wrap64 (z := v) (by omega) (by omega), tmod_nat hmem.1, tdiv_nat hmem.1, wrap64 (z := v / 256) (by omega) (by omega), wrap8 (by omega) (by omega), wrap8 (by omega) (by omega), wrap8 (by omega) (by omega), putU3]
        simpa using e
      have e256 : ((256 : Int) ≠ 0) = True := eq_true (by omega)
      simp only [joinC_pos (show 0 < n + 300 by omega), shut_eq, condO_dec, condO_bne, condO_beq, guardO_dec, Int.ofNat_lt, hk, h2, if_true, Int.toNat_natCast, Nat.mul_one, hg, bindO_ok, and_true, Int.natCast_nonneg, true_and, e256]
      rw [wrap64 (z := (i : Int) + j) (by omega) (by omega)]
      by_cases hj2 : j < 255
      · rw [if_pos (show (j : Int) < 255 by omega)]
        by_cases hj3 : i + j < n
        · have e1 : ((i : Int) + (j : Int)) = ((i + j : Nat) : Int) := by omega
          rw [e1]
          simp only [Int.ofNat_lt, hj3, if_true, Int.natCast_nonneg, true_and, Int.toNat_natCast, h.get hj3, bindO_ok]
          rw [drop_cons (d := 0) (show i + j < (intsOf cs).length by rw [h.il]; exact hj3), show 255 - j = (254 - j) + 1 by omega, runLen]
          by_cases he : (intsOf cs).getD (i + j) 0 = v
          · simp only [he, if_true]
            have e2 := ih2 (k2 - 1) (by omega) (j + 1) (by omega) (by omega) (by omega)
            show r2 n cs _ (IntKind.i64.wrap ((j : Int) + 1)) x y acc.length (numsL .u8 acc) = _
            rw [wrap64 (z := (j : Int) + 1) (by omega) (by omega), show ((j : Int) + 1) = ((j + 1 : Nat) : Int) by omega, e2, show 255 - (j + 1) = 254 - j by omega, show i + (j + 1) = i + j + 1 by omega,
              show runLen v (254 - j) (List.drop (i + j + 1) (intsOf cs)) + 1 + j = runLen v (254 - j) (List.drop (i + j + 1) (intsOf cs)) + (j + 1) by omega]
          · simp only [he, if_false, Nat.zero_add]
            rw [← fin, ← e1]
        · have h3 : (intsOf cs).drop (i + j) = [] := by rw [List.drop_eq_nil_iff, h.il]; omega
          have hz : runLen v (255 - j) [] = 0 := by cases (255 - j) <;> rfl
          rw [if_neg (by omega), h3, hz, Nat.zero_add, ← fin]
          rfl
      · have h5 : j = 255 := by omega
        subst h5
        rw [if_neg (by omega)]
        simp only [Nat.sub_self, runLen, Nat.zero_add]
        rw [← fin]
        rfl
    · simp only [List.drop_drop, show 255 - 1 = 254 from rfl]
      rw [show i + (runLen v 254 (List.drop (i + 1) (intsOf cs)) + 1) = i + 1 + runLen v 254 (List.drop (i + 1) (intsOf cs)) by omega]
  · have h2 : (intsOf cs).drop i = [] := by rw [List.drop_eq_nil_iff, h.il]; omega
    simp only [shut_eq, condO_dec, Int.ofNat_lt, hk, h2, if_false, packW, List.append_nil]

theorem run_72' {n : Nat} {cs : List AV} (h : Words n cs) : (fsM mz2 waysP (n + 300) 8).call (List RLeaf) 72 [.ofB (.list n cs)] [] (resK [true, false]) =
    some (if n > 4096 then [.fz 0 [], .v (.int .i64 5)] else [.fz (packW (intsOf cs)).length (numsL .u8 (packW (intsOf cs))), .v (.int .i64 0)]) := by
  rw [run_72]
  obtain ⟨h, hb⟩ := h
  simp only [shut_eq, condO_dec]
  by_cases hn : n > 4096
  · rw [if_pos (by omega), if_pos hn]
  rw [if_neg (by omega), if_neg hn]
  refine (loopC_rule (fun k (r : Nat → List AV → Int → Nat → List AV → Nat → List AV → Option (List RLeaf)) => ∀ (i : Nat) (x : Nat) (y : List AV) (acc : List Int), i + k ≥ n → i ≤ n → acc.length ≤ 3 * i →
    r n cs (i : Int) x y acc.length (numsL .u8 acc) = some [.fz (acc ++ packW ((intsOf cs).drop i)).length (numsL .u8 (acc ++ packW ((intsOf cs).drop i))), .v (.int .i64 0)])
    ?_ (n + 300) n (by omega) 0 0 [] [] (by omega) (by omega) (by simp)).trans (by simp)
  intro k r ih i x y acc hi hin ha
  by_cases hk : i < n
  · have h2 : 0 < cs.length := by rw [h.len]; omega
    have hmem := hb _ (h.mem hk)
    simp only [shut_eq, condO_dec, Int.ofNat_lt, hk, if_true]
    rw [drop_cons (d := 0) (show i < (intsOf cs).length by rw [h.il]; exact hk), packW]
    generalize hv : (intsOf cs).getD i 0 = v at hmem ⊢
    have hg : asInt .u16 (cs.getD i .top) = some v := by rw [h.get hk, hv]
    refine (loopC_rule (fun k2 (r2 : Nat → List AV → Int → Int → Nat → List AV → Nat → List AV → Option (List RLeaf)) => ∀ (j : Nat), j + k2 = 255 → 1 ≤ j → i + j ≤ n →
      r2 n cs (i : Int) (j : Int) x y acc.length (numsL .u8 acc) =
        some [.fz (acc ++ ([((runLen v (255 - j) ((intsOf cs).drop (i + j)) + j : Nat) : Int), v % 256, v / 256] ++ packW ((intsOf cs).drop (i + (runLen v (255 - j) ((intsOf cs).drop (i + j)) + j))))).length
          (numsL .u8 (acc ++ ([((runLen v (255 - j) ((intsOf cs).drop (i + j)) + j : Nat) : Int), v % 256, v / 256] ++ packW ((intsOf cs).drop (i + (runLen v (255 - j) ((intsOf cs).drop (i + j)) + j)))))), .v (.int .i64 0)])
      ?_ (n + 300) 254 (by omega) 1 (by omega) (by omega) (by omega)).trans ?_
    · intro k2 r2 ih2 j hj hj1 hjn
      have fin : (if (acc.length + 3) * 2 ≤ 549755813888 then r n cs ((i : Int) + (j : Int)) x y (acc.length + 3) (numsL .u8 acc ++ putCells (putCells (putCells (zrow (ofV (Go.Value.int IntKind.u8 (0 : Int))).cells 3) 0 [AV.int IntKind.u8 (IntKind.u8.wrap (j : Int))]) 1 [AV.int IntKind.u8 (IntKind.u8.wrap v)]) 2 [AV.int IntKind.u8 (IntKind.u8.wrap (v.fdiv ((2 : Int) ^ 8)))]) else none) =
          some [.fz (acc ++ ([(j : Int), v % 256, v / 256] ++ packW ((intsOf cs).drop (i + j)))).length (numsL .u8 (acc ++ ([(j : Int), v % 256, v / 256] ++ packW ((intsOf cs).drop (i + j))))), .v (.int .i64 0)] := by
        have e := ih (n - (i + j)) (by omega) (i + j) x y (acc ++ [(j : Int), v % 256, v / 256]) (by omega) (by omega) (by simp; omega)
        rw [List.length_append, numsL_app] at e
        rw [if_pos (by omega), wrap8 (z := (j : Int)) (by omega) (by omega), wrap8' v, show ((2 : Int) ^ 8) = 256 from rfl, Int.fdiv_eq_ediv_of_nonneg v (by omega), wrap8 (z := v / 256) (by omega) (by omega), putU3]
        simpa using e
      have e256 : ((0 : Int) ≤ 8) = True := eq_true (by omega)
      simp only [joinC_pos (show 0 < n + 300 by omega), shut_eq, condO_dec, condO_bne, condO_beq, guardO_dec, Int.ofNat_lt, hk, h2, if_true, Int.toNat_natCast, Nat.mul_one, hg, bindO_ok, and_true, Int.natCast_nonneg, true_and, e256]
      rw [wrap64 (z := (i : Int) + j) (by omega) (by omega)]
      by_cases hj3 : i + j < n
      · have e1 : ((i : Int) + (j : Int)) = ((i + j : Nat) : Int) := by omega
        rw [e1]
        simp only [Int.ofNat_lt, hj3, if_true, Int.natCast_nonneg, true_and, Int.toNat_natCast, h.get hj3, bindO_ok]
        by_cases hj2 : j < 255
        · rw [if_pos (show (j : Int) < 255 by omega)]
          rw [drop_cons (d := 0) (show i + j < (intsOf cs).length by rw [h.il]; exact hj3), show 255 - j = (254 - j) + 1 by omega, runLen]
          by_cases he : (intsOf cs).getD (i + j) 0 = v
          · have hbt : ((intsOf cs).getD (i + j) 0 == v) = true := beq_iff_eq.mpr he
            simp only [he, if_true]
            have e2 := ih2 (k2 - 1) (by omega) (j + 1) (by omega) (by omega) (by omega)
            show r2 n cs _ (IntKind.i64.wrap ((j : Int) + 1)) x y acc.length (numsL .u8 acc) = _
            rw [wrap64 (z := (j : Int) + 1) (by omega) (by omega), show ((j : Int) + 1) = ((j + 1 : Nat) : Int) by omega, e2, show 255 - (j + 1) = 254 - j by omega, show i + (j + 1) = i + j + 1 by omega,
              show runLen v (254 - j) (List.drop (i + j + 1) (intsOf cs)) + 1 + j = runLen v (254 - j) (List.drop (i + j + 1) (intsOf cs)) + (j + 1) by omega]
          · simp only [he, if_false, Nat.zero_add]
            rw [← fin, ← e1]
        · have h5 : j = 255 := by omega
          subst h5
          rw [if_neg (by omega)]
          simp only [Nat.sub_self, runLen, Nat.zero_add]
          rw [← fin, ← e1]
          rfl
      · have h3 : (intsOf cs).drop (i + j) = [] := by rw [List.drop_eq_nil_iff, h.il]; omega
        have hz : runLen v (255 - j) [] = 0 := by cases (255 - j) <;> rfl
        rw [if_neg (by omega), h3, hz, Nat.zero_add, ← fin]
        rfl
    · simp only [List.drop_drop, show 255 - 1 = 254 from rfl]
      rw [show i + (runLen v 254 (List.drop (i + 1) (intsOf cs)) + 1) = i + 1 + runLen v 254 (List.drop (i + 1) (intsOf cs)) by omega]
  · have h2 : (intsOf cs).drop i = [] := by rw [List.drop_eq_nil_iff, h.il]; omega
    simp only [shut_eq, condO_dec, Int.ofNat_lt, hk, h2, if_false, packW, List.append_nil]


end Go.Abs
end

