/- Part 19 of the library that the proof of the statement uses: an abstract run of the program, proved right, and what its functions give. -/
import Derived.Test.YtkloadomnblkeaaGreatDoorCv18
set_option linter.unusedVariables false
set_option linter.unusedSimpArgs false

section
/- Codes that are packed. -/
set_option linter.unusedVariables false
set_option linter.unusedSimpArgs false
namespace Go.Abs
open Go.Proofs Classical

def packR (n : Nat) (xs : List Int) : List Int × Int := if codesE n xs = 0 then (packL 0 xs, 0) else ([], codesE n xs)

theorem tdiv_nat {a b : Int} (h : 0 ≤ a) : a.tdiv b = a / b := Int.tdiv_eq_ediv_of_nonneg h
theorem tmod_nat {a b : Int} (h : 0 ≤ a) : a.tmod b = a % b := Int.tmod_eq_emod_of_nonneg h

theorem run_66' {n : Nat} {cs : List AV} (h : Ints n cs) : (fsM mz2 waysP (n + 1) 8).call (List RLeaf) 66 [.ofB (.list n cs)] [] (resK [true, false]) =
    some [.fz (packR n (intsOf cs)).1.length (numsL .u8 (packR n (intsOf cs)).1), .v (.int .i64 (packR n (intsOf cs)).2)] := by
  rw [run_66]
  simp only [shut_eq, condO_dec]
  by_cases h0 : n > 4096
  · rw [if_pos (by omega)]; simp [packR, codesE, h0, numsL]
  rw [if_neg (by omega)]
  refine (loopC_rule (fun k (r : Int → Nat → List AV → Int → Int → Nat → List AV → Nat → List AV → Option (List RLeaf)) => ∀ (i : Nat) (b : Int) (x : Nat) (y : List AV) (acc : List Int), i + k = n → 0 ≤ b → b ≤ 4095 → acc.length ≤ 2 * i →
    r b n cs (n : Int) (i : Int) x y acc.length (numsL .u8 acc) = if ((intsOf cs).drop i).all codeB then some [.fz (acc ++ packL b ((intsOf cs).drop i)).length (numsL .u8 (acc ++ packL b ((intsOf cs).drop i))), .v (.int .i64 0)] else some [.fz 0 [], .v (.int .i64 3)])
    ?_ (n + 1) n (by omega) 0 0 0 [] [] (by omega) (by omega) (by omega) (by simp)).trans ?_
  · intro k r ih i b x y acc hi hb1 hb2 ha
    by_cases hk : i < n
    · have h2 : 0 < cs.length := by rw [h.2.2]; omega
      rw [drop_cons (d := 0) (show i < (intsOf cs).length by rw [h.len]; exact hk)]
      simp only [shut_eq, condO_dec, condO_bne, guardO_dec, Int.ofNat_lt, hk, h2, if_true, Int.toNat_natCast, Nat.mul_one, h.get hk, bindO_ok, idx64 h.1 hk, and_true, Int.natCast_nonneg, true_and]
      have ih' := ih (k - 1) (by omega) (i + 1) ((intsOf cs).getD i 0)
      generalize (intsOf cs).getD i 0 = v at ih' ⊢
      by_cases hv : v < 0 ∨ v > 4095
      · have : codeB v = false := by simp [codeB]; omega
        simp [hv, this]
      · have hcv : codeB v = true := by simp [codeB]; omega
        have hz := zig_range (d := v - b) (by omega) (by omega)
        rw [if_neg hv, if_pos rfl, wrap64 (by omega) (by omega), zigW_eq (by omega) (by omega)]
        simp only [List.all_cons, hcv, Bool.true_and, packL]
        by_cases hs : zig (v - b) < 128
        · rw [if_pos hs, if_pos (by omega), wrap8 (by omega) (by omega), putU1, ← numsL_app]
          have e := ih' x y (acc ++ [zig (v - b)]) (by omega) (by omega) (by omega) (by simp; omega)
          rw [List.length_append] at e
          rw [if_pos hs]
          simpa using e
        · rw [if_neg hs, if_pos (by omega), if_pos (by omega), if_pos (by omega), tmod_nat hz.1, tdiv_nat hz.1, wrap64 (by omega) (by omega), wrap64 (by omega) (by omega), wrap8 (by omega) (by omega), wrap8 (by omega) (by omega), putU2, ← numsL_app]
          have e := ih' x y (acc ++ [zig (v - b) % 128 + 128, zig (v - b) / 128]) (by omega) (by omega) (by omega) (by simp; omega)
          rw [List.length_append] at e
          rw [if_neg hs]
          simpa using e
    · have h2 : (intsOf cs).drop i = [] := by rw [List.drop_eq_nil_iff, h.len]; omega
      simp only [shut_eq, condO_dec, Int.ofNat_lt, hk, h2, if_false, List.all_nil, if_true, packL, List.append_nil]
  · simp only [List.drop_zero, List.nil_append, packR, codesE, h0, if_false]
    have : (intsOf cs).all (fun z => decide (0 ≤ z ∧ z ≤ 4095)) = (intsOf cs).all codeB := rfl
    rw [this]
    by_cases hc : (intsOf cs).all codeB = true
    · simp [hc]
    · simp [hc, numsL]

theorem run_69' {n : Nat} {cs : List AV} (h : Ints n cs) (hc : codesE n (intsOf cs) = 0) : (fsM mz2 waysP (n + 1) 8).call (List RLeaf) 69 [.ofB (.list n cs)] [] (resK [true]) =
    some [.fz (packL 0 (intsOf cs)).length (numsL .u8 (packL 0 (intsOf cs)))] := by
  rw [run_69]
  have hn : n ≤ 4096 := by unfold codesE at hc; split at hc <;> omega
  have hall : ∀ z ∈ intsOf cs, 0 ≤ z ∧ z ≤ 4095 := by
    unfold codesE at hc
    rw [if_neg (by omega)] at hc
    split at hc
    · rename_i ha
      intro z hz
      simpa using List.all_eq_true.1 ha z hz
    · cases hc
  refine (loopC_rule (fun k (r : Nat → List AV → Int → Int → Nat → List AV → Nat → List AV → Option (List RLeaf)) => ∀ (i : Nat) (b : Int) (x : Nat) (y : List AV) (acc : List Int), i + k = n → 0 ≤ b → b ≤ 4095 → acc.length ≤ 2 * i →
    r n cs b (i : Int) x y acc.length (numsL .u8 acc) = some [.fz (acc ++ packL b ((intsOf cs).drop i)).length (numsL .u8 (acc ++ packL b ((intsOf cs).drop i)))])
    ?_ (n + 1) n (by omega) 0 0 0 [] [] (by omega) (by omega) (by omega) (by simp)).trans ?_
  · intro k r ih i b x y acc hi hb1 hb2 ha
    by_cases hk : i < n
    · have h2 : 0 < cs.length := by rw [h.2.2]; omega
      have hmem : (intsOf cs).getD i 0 ∈ intsOf cs := h.nums.mem hk
      rw [drop_cons (d := 0) (show i < (intsOf cs).length by rw [h.len]; exact hk)]
      simp only [joinC_pos (Nat.succ_pos n), shut_eq, condO_dec, condO_bne, guardO_dec, Int.ofNat_lt, hk, h2, if_true, Int.toNat_natCast, Nat.mul_one, h.get hk, bindO_ok, idx64 h.1 hk, and_true, Int.natCast_nonneg, true_and]
      have ih' := ih (k - 1) (by omega) (i + 1) ((intsOf cs).getD i 0)
      generalize (intsOf cs).getD i 0 = v at ih' hmem ⊢
      have hv := hall v hmem
      have hz := zig_range (d := v - b) (by omega) (by omega)
      have hd : IntKind.i64.wrap (v - b) = v - b := wrap64 (by omega) (by omega)
      simp only [packL, hd]
      have main : ∀ z, z = zig (v - b) → (if z < 128 then if (acc.length + 1) * 2 ≤ 549755813888 then r n cs v ((i + 1 : Nat) : Int) x y (acc.length + 1) (numsL .u8 acc ++ putCells (zrow (ofV (Go.Value.int IntKind.u8 (0 : Int))).cells 1) 0 [AV.int IntKind.u8 (IntKind.u8.wrap z)]) else none
          else if (128 : Int) ≠ 0 then if (128 : Int) ≠ 0 then if (acc.length + 2) * 2 ≤ 549755813888 then r n cs v ((i + 1 : Nat) : Int) x y (acc.length + 2) (numsL .u8 acc ++ putCells (putCells (zrow (ofV (Go.Value.int IntKind.u8 (0 : Int))).cells 2) 0 [AV.int IntKind.u8 (IntKind.u8.wrap (IntKind.i64.wrap (z.tmod 128 + 128)))]) 1 [AV.int IntKind.u8 (IntKind.u8.wrap (IntKind.i64.wrap (z.tdiv 128)))]) else none else none else none) =
          some [.fz (acc ++ ((if zig (v - b) < 128 then [zig (v - b)] else [zig (v - b) % 128 + 128, zig (v - b) / 128]) ++ packL v ((intsOf cs).drop (i + 1)))).length (numsL .u8 (acc ++ ((if zig (v - b) < 128 then [zig (v - b)] else [zig (v - b) % 128 + 128, zig (v - b) / 128]) ++ packL v ((intsOf cs).drop (i + 1)))))] := by
        intro z hzz
        subst hzz
        by_cases hs : zig (v - b) < 128
        · rw [if_pos hs, if_pos (by omega), wrap8 (by omega) (by omega), putU1, ← numsL_app]
          have e := ih' x y (acc ++ [zig (v - b)]) (by omega) (by omega) (by omega) (by simp; omega)
          rw [List.length_append] at e
          rw [if_pos hs]
          simpa using e
        · rw [if_neg hs, if_pos (by omega), if_pos (by omega), if_pos (by omega), tmod_nat hz.1, tdiv_nat hz.1, wrap64 (by omega) (by omega), wrap64 (by omega) (by omega), wrap8 (by omega) (by omega), wrap8 (by omega) (by omega), putU2, ← numsL_app]
          have e := ih' x y (acc ++ [zig (v - b) % 128 + 128, zig (v - b) / 128]) (by omega) (by omega) (by omega) (by simp; omega)
          rw [List.length_append] at e
          rw [if_neg hs]
          simpa using e
      by_cases hneg : v - b < 0
      · rw [if_pos hneg]
        refine main _ ?_
        rw [wrap64 (z := 2 * (v - b)) (by omega) (by omega), wrap64 (z := 0 - 2 * (v - b)) (by omega) (by omega), wrap64 (by omega) (by omega)]
        unfold zig; rw [if_pos hneg]; omega
      · rw [if_neg hneg]
        refine main _ ?_
        rw [wrap64 (by omega) (by omega)]
        unfold zig; rw [if_neg hneg]
    · have h2 : (intsOf cs).drop i = [] := by rw [List.drop_eq_nil_iff, h.len]; omega
      simp only [shut_eq, condO_dec, Int.ofNat_lt, hk, h2, if_false, packL, List.append_nil]
  · simp only [List.drop_zero, List.nil_append]

/-! Codes that are unpacked. -/

def unzig (z : Int) : Int := if z % 2 = 1 then -((z + 1) / 2) else z / 2

def unpS (b : Int) (c : Nat) (z : Int) : Except Int Int := if b + unzig z < 0 ∨ b + unzig z > 4095 then .error 3 else if c = 4096 then .error 5 else .ok (b + unzig z)

def unpL : Int → Nat → List Int → Except Int (List Int)
  | _, _, [] => .ok []
  | b, c, [z] => if z < 128 then (match unpS b c z with | .error e => .error e | .ok b' => .ok [b']) else .error 28
  | b, c, z :: m :: ms =>
    if z < 128 then (match unpS b c z with | .error e => .error e | .ok b' => (unpL b' (c + 1) (m :: ms)).map (b' :: ·))
    else if m = 0 ∨ m ≥ 128 then .error 1
    else match unpS b c (z + 128 * (m - 1)) with | .error e => .error e | .ok b' => (unpL b' (c + 1) ms).map (b' :: ·)

def unpR (n : Nat) (xs : List Int) : Except Int (List Int) := if n > 8192 then .error 26 else unpL 0 0 xs

def okL : Except Int (List Int) → List Int
  | .ok l => l
  | .error _ => []
def erE : Except Int (List Int) → Int
  | .ok _ => 0
  | .error e => e

theorem unpL_low {b z : Int} {c : Nat} {zs : List Int} (h : z < 128) : unpL b c (z :: zs) = (match unpS b c z with | .error e => .error e | .ok b' => (unpL b' (c + 1) zs).map (b' :: ·)) := by
  cases zs with
  | nil => simp only [unpL, if_pos h]; cases unpS b c z <;> rfl
  | cons m ms => simp only [unpL, if_pos h]

def outU (acc : List Int) : Except Int (List Int) → Option (List RLeaf)
  | .ok l => some [.fz (acc ++ l).length (numsL .i64 (acc ++ l)), .v (.int .i64 0)]
  | .error e => some [.fz 0 [], .v (.int .i64 e)]

theorem outU_map {acc : List Int} {x : Int} {r : Except Int (List Int)} : outU acc (r.map (x :: ·)) = outU (acc ++ [x]) r := by
  cases r <;> simp [Except.map, outU]

theorem outU_nil {r : Except Int (List Int)} : outU [] r = some [.fz (okL r).length (numsL .i64 (okL r)), .v (.int .i64 (erE r))] := by
  cases r <;> rfl

theorem unzW_eq {z : Int} (h1 : 0 ≤ z) (h2 : z < 100000) : unzW z = unzig z := by
  unfold unzW unzig
  rw [tmod_nat h1, tdiv_nat h1]
  split
  · rw [wrap64 (z := z + 1) (by omega) (by omega), wrap64 (z := 0 - (z + 1)) (by omega) (by omega), wrap64]
    all_goals (rw [show (0 - (z + 1)) = -(z + 1) by omega, Int.neg_tdiv, tdiv_nat (by omega)]; try omega)
  · rw [wrap64 (by omega) (by omega)]

theorem unzig_range {z : Int} (h1 : 0 ≤ z) (h2 : z < 100000) : -50001 ≤ unzig z ∧ unzig z ≤ 50001 := by
  unfold unzig; split <;> omega

/-- A list of bytes. -/
def Bytes (n : Nat) (cs : List AV) : Prop := Nums .u8 n cs ∧ ∀ z ∈ intsOf cs, 0 ≤ z ∧ z < 256

theorem intsN2 (a b : Int) : Ints 2 (numsL .i64 [a, b]) := ⟨by omega, rfl, rfl⟩

theorem run_67' {n : Nat} {cs : List AV} (h : Bytes n cs) : (fsM mz2 waysP (n + 1) 8).call (List RLeaf) 67 [.ofB (.list n cs)] [] (resK [true, false]) =
    some [.fz (okL (unpR n (intsOf cs))).length (numsL .i64 (okL (unpR n (intsOf cs)))), .v (.int .i64 (erE (unpR n (intsOf cs))))] := by
  rw [run_67, ← outU_nil]
  obtain ⟨h, hb⟩ := h
  simp only [shut_eq, condO_dec]
  by_cases h0 : n > 8192
  · rw [if_pos (by omega)]; simp [unpR, h0, outU]
  rw [if_neg (by omega), unpR, if_neg h0]
  refine loopC_rule (fun k (r : Nat → List AV → Int → Int → Nat → List AV → Nat → List AV → Option (List RLeaf)) => ∀ (i : Nat) (b : Int) (x : Nat) (y : List AV) (acc : List Int), i + k = n → 0 ≤ b → b ≤ 4095 → acc.length ≤ i →
    r n cs b (i : Int) x y acc.length (numsL .i64 acc) = outU acc (unpL b acc.length ((intsOf cs).drop i)))
    ?_ (n + 1) n (by omega) 0 0 0 [] [] (by omega) (by omega) (by omega) (by simp)
  intro k r ih i b x y acc hi hb1 hb2 ha
  by_cases hk : i < n
  · have h2 : 0 < cs.length := by rw [h.len]; omega
    have hmem := hb _ (h.mem hk)
    have main : ∀ (z : Int) (j : Nat), 0 ≤ z → z < 100000 → i ≤ j → j < n →
        (if Ints 2 (numsL .i64 [if IntKind.i64.wrap (b + unzW z) < 0 ∨ IntKind.i64.wrap (b + unzW z) > 4095 then 3 else 0, if ((acc.length : Int) == 4096) = true then 5 else 0]) then
          (if firstNZ (intsOf (numsL .i64 [if IntKind.i64.wrap (b + unzW z) < 0 ∨ IntKind.i64.wrap (b + unzW z) > 4095 then 3 else 0, if ((acc.length : Int) == 4096) = true then 5 else 0])) = 0 then
            if (acc.length + 1) * 9 ≤ 549755813888 then r n cs (IntKind.i64.wrap (b + unzW z)) (IntKind.i64.wrap ((j : Int) + 1)) x y (acc.length + 1) (numsL .i64 acc ++ putCells (zrow (ofV (Go.Value.int IntKind.i64 (0 : Int))).cells 1) 0 [AV.int IntKind.i64 (IntKind.i64.wrap (b + unzW z))]) else none
          else some [.fz 0 [], .v (.int .i64 (firstNZ (intsOf (numsL .i64 [if IntKind.i64.wrap (b + unzW z) < 0 ∨ IntKind.i64.wrap (b + unzW z) > 4095 then 3 else 0, if ((acc.length : Int) == 4096) = true then 5 else 0]))))]) else none) =
        outU acc (match unpS b acc.length z with | .error e => .error e | .ok b' => (unpL b' (acc.length + 1) ((intsOf cs).drop (j + 1))).map (b' :: ·)) := by
      intro z j hz1 hz2 hij hj
      have hu := unzig_range hz1 hz2
      rw [unzW_eq hz1 hz2, wrap64 (z := b + unzig z) (by omega) (by omega), idx64 h.lt hj, if_pos (intsN2 _ _), numsL_of]
      unfold unpS
      by_cases he : b + unzig z < 0 ∨ b + unzig z > 4095
      · simp [he, firstNZ, outU]
      · by_cases hc : acc.length = 4096
        · simp [he, hc, firstNZ, outU]
        · have hc' : ((acc.length : Int) == 4096) = false := by simp; omega
          have e := ih (n - (j + 1)) (by omega) (j + 1) (b + unzig z) x y (acc ++ [b + unzig z]) (by omega) (by omega) (by omega) (by simp; omega)
          rw [List.length_append, numsL_app] at e
          simp only [he, hc, hc', firstNZ, if_true, if_false, Bool.false_eq_true, outU_map, putI1]
          rw [if_pos (by omega)]
          exact e
    by_cases hl : (intsOf cs).getD i 0 < 128
    · rw [drop_cons (d := 0) (show i < (intsOf cs).length by rw [h.il]; exact hk), unpL_low hl, ← main _ i hmem.1 (by omega) (Nat.le_refl _) hk]
      simp only [joinC_pos (Nat.succ_pos n), shut_eq, condO_dec, condO_bne, guardO_dec, Int.ofNat_lt, hk, h2, if_true, Int.toNat_natCast, Nat.mul_one, h.get hk, bindO_ok, and_true, Int.natCast_nonneg, true_and, wrap64 (z := (intsOf cs).getD i 0) (by omega) (by omega), putI2]
      rw [if_neg (by omega)]
    · simp only [joinC_pos (Nat.succ_pos n), shut_eq, condO_dec, condO_bne, condO_beq, guardO_dec, Int.ofNat_lt, hk, h2, if_true, Int.toNat_natCast, Nat.mul_one, h.get hk, bindO_ok, and_true, Int.natCast_nonneg, true_and, wrap64 (z := (intsOf cs).getD i 0) (by omega) (by omega), putI2, idx64 h.lt hk, Int.ofNat_inj]
      rw [if_pos (by omega)]
      by_cases hl2 : i + 1 < n
      · have hmem2 := hb _ (h.mem hl2)
        rw [drop_cons (d := 0) (show i < (intsOf cs).length by rw [h.il]; exact hk), drop_cons (d := 0) (show i + 1 < (intsOf cs).length by rw [h.il]; exact hl2), unpL, if_neg hl]
        rw [if_neg (by omega), if_pos (by omega), h.get hl2, bindO_ok]
        simp only [wrap64 (z := (intsOf cs).getD (i + 1) 0) (by omega) (by omega)]
        by_cases hm : (intsOf cs).getD (i + 1) 0 = 0 ∨ (intsOf cs).getD (i + 1) 0 ≥ 128
        · rw [if_pos hm]
          by_cases hm0 : (intsOf cs).getD (i + 1) 0 = 0
          · rw [if_pos hm0]; rfl
          · have : (intsOf cs).getD (i + 1) 0 ≥ 128 := by omega
            rw [if_neg hm0, decide_eq_true this]; rfl
        · rw [if_neg hm, if_neg (by omega), ← main _ (i + 1) (by omega) (by omega) (by omega) hl2]
          have : decide ((intsOf cs).getD (i + 1) 0 ≥ 128) = false := decide_eq_false (by omega)
          rw [this, bindO_ok, wrap64 (z := (intsOf cs).getD (i + 1) 0 - 1) (by omega) (by omega), wrap64 (z := 128 * ((intsOf cs).getD (i + 1) 0 - 1)) (by omega) (by omega), wrap64 (z := (intsOf cs).getD i 0 + 128 * ((intsOf cs).getD (i + 1) 0 - 1)) (by omega) (by omega)]
          rfl
      · have h3 : (intsOf cs).drop (i + 1) = [] := by rw [List.drop_eq_nil_iff, h.il]; omega
        rw [drop_cons (d := 0) (show i < (intsOf cs).length by rw [h.il]; exact hk), h3, unpL, if_neg hl, if_pos (by omega)]
        rfl
  · have h2 : (intsOf cs).drop i = [] := by rw [List.drop_eq_nil_iff, h.il]; omega
    simp only [shut_eq, condO_dec, Int.ofNat_lt, hk, h2, if_false, unpL, outU, List.append_nil]

theorem run_70' {n : Nat} {cs : List AV} (h : Bytes n cs) : (fsM mz2 waysP (n + 1) 8).call (List RLeaf) 70 [.ofB (.list n cs)] [] (resK [true, false]) =
    some [.fz (okL (unpR n (intsOf cs))).length (numsL .i64 (okL (unpR n (intsOf cs)))), .v (.int .i64 (erE (unpR n (intsOf cs))))] := by
  rw [run_70, ← outU_nil]
  obtain ⟨h, hb⟩ := h
  simp only [shut_eq, condO_dec]
  by_cases h0 : n > 8192
  · rw [if_pos (by omega)]; simp [unpR, h0, outU]
  rw [if_neg (by omega), unpR, if_neg h0]
  refine loopC_rule (fun k (r : Nat → List AV → Int → Int → Nat → List AV → Nat → List AV → Option (List RLeaf)) => ∀ (i : Nat) (b : Int) (x : Nat) (y : List AV) (acc : List Int), i + k = n → 0 ≤ b → b ≤ 4095 → acc.length ≤ i →
    r n cs b (i : Int) x y acc.length (numsL .i64 acc) = outU acc (unpL b acc.length ((intsOf cs).drop i)))
    ?_ (n + 1) n (by omega) 0 0 0 [] [] (by omega) (by omega) (by omega) (by simp)
  intro k r ih i b x y acc hi hb1 hb2 ha
  by_cases hk : i < n
  · have h2 : 0 < cs.length := by rw [h.len]; omega
    have hmem := hb _ (h.mem hk)
    have main : ∀ (z : Int) (j : Nat) (w : Int), 0 ≤ z → z < 100000 → i ≤ j → j < n → w = b + unzig z →
        (bindO (if w < 0 then some true else some (decide (w > 4095))) fun v9 => condO v9 (some [RLeaf.fz 0 [], .v (.int .i64 3)])
          (if (acc.length : Int) = 4096 then some [.fz 0 [], .v (.int .i64 5)] else
            if (acc.length + 1) * 9 ≤ 549755813888 then r n cs w (IntKind.i64.wrap ((j : Int) + 1)) x y (acc.length + 1) (numsL .i64 acc ++ putCells (zrow (ofV (Go.Value.int IntKind.i64 (0 : Int))).cells 1) 0 [AV.int IntKind.i64 w]) else none)) =
        outU acc (match unpS b acc.length z with | .error e => .error e | .ok b' => (unpL b' (acc.length + 1) ((intsOf cs).drop (j + 1))).map (b' :: ·)) := by
      intro z j w hz1 hz2 hij hj hw
      subst hw
      have hu := unzig_range hz1 hz2
      rw [idx64 h.lt hj]
      unfold unpS
      by_cases he0 : b + unzig z < 0
      · rw [if_pos he0, bindO_ok, if_pos (Or.inl he0)]; rfl
      rw [if_neg he0, bindO_ok]
      by_cases he1 : b + unzig z > 4095
      · rw [decide_eq_true he1, if_pos (Or.inr he1)]; rfl
      rw [decide_eq_false he1, if_neg (show ¬(b + unzig z < 0 ∨ b + unzig z > 4095) by omega)]
      by_cases hc : acc.length = 4096
      · rw [if_pos hc]
        show (if (acc.length : Int) = 4096 then _ else _) = _
        rw [if_pos (by omega)]; rfl
      · have e := ih (n - (j + 1)) (by omega) (j + 1) (b + unzig z) x y (acc ++ [b + unzig z]) (by omega) (by omega) (by omega) (by simp; omega)
        rw [List.length_append, numsL_app] at e
        rw [if_neg hc]
        show (if (acc.length : Int) = 4096 then _ else _) = _
        rw [if_neg (by omega), if_pos (by omega), outU_map, putI1]
        exact e
    have fin : ∀ (z : Int) (j : Nat), 0 ≤ z → z < 100000 → i ≤ j → j < n →
        (if (2 : Int) ≠ 0 then if z.tmod 2 = 0 then
            if (2 : Int) ≠ 0 then bindO (if IntKind.i64.wrap (b + IntKind.i64.wrap (z.tdiv 2)) < 0 then some true else some (decide (IntKind.i64.wrap (b + IntKind.i64.wrap (z.tdiv 2)) > 4095))) fun v9 => condO v9 (some [RLeaf.fz 0 [], .v (.int .i64 3)])
          (if (acc.length : Int) = 4096 then some [.fz 0 [], .v (.int .i64 5)] else
            if (acc.length + 1) * 9 ≤ 549755813888 then r n cs (IntKind.i64.wrap (b + IntKind.i64.wrap (z.tdiv 2))) (IntKind.i64.wrap ((j : Int) + 1)) x y (acc.length + 1) (numsL .i64 acc ++ putCells (zrow (ofV (Go.Value.int IntKind.i64 (0 : Int))).cells 1) 0 [AV.int IntKind.i64 (IntKind.i64.wrap (b + IntKind.i64.wrap (z.tdiv 2)))]) else none) else none
          else if (2 : Int) ≠ 0 then bindO (if IntKind.i64.wrap (b - IntKind.i64.wrap ((IntKind.i64.wrap (z + 1)).tdiv 2)) < 0 then some true else some (decide (IntKind.i64.wrap (b - IntKind.i64.wrap ((IntKind.i64.wrap (z + 1)).tdiv 2)) > 4095))) fun v9 => condO v9 (some [RLeaf.fz 0 [], .v (.int .i64 3)])
          (if (acc.length : Int) = 4096 then some [.fz 0 [], .v (.int .i64 5)] else
            if (acc.length + 1) * 9 ≤ 549755813888 then r n cs (IntKind.i64.wrap (b - IntKind.i64.wrap ((IntKind.i64.wrap (z + 1)).tdiv 2))) (IntKind.i64.wrap ((j : Int) + 1)) x y (acc.length + 1) (numsL .i64 acc ++ putCells (zrow (ofV (Go.Value.int IntKind.i64 (0 : Int))).cells 1) 0 [AV.int IntKind.i64 (IntKind.i64.wrap (b - IntKind.i64.wrap ((IntKind.i64.wrap (z + 1)).tdiv 2)))]) else none) else none else none) =
        outU acc (match unpS b acc.length z with | .error e => .error e | .ok b' => (unpL b' (acc.length + 1) ((intsOf cs).drop (j + 1))).map (b' :: ·)) := by
      intro z j hz1 hz2 hij hj
      have t2 : ((2 : Int) ≠ 0) = True := eq_true (by omega)
      simp only [t2, if_true]
      rw [tmod_nat hz1, tdiv_nat hz1, wrap64 (z := z / 2) (by omega) (by omega), wrap64 (z := z + 1) (by omega) (by omega), tdiv_nat (by omega), wrap64 (z := (z + 1) / 2) (by omega) (by omega), wrap64 (z := b + z / 2) (by omega) (by omega), wrap64 (z := b - (z + 1) / 2) (by omega) (by omega)]
      by_cases hp : z % 2 = 0
      · rw [if_pos hp]
        exact main z j _ hz1 hz2 hij hj (by unfold unzig; rw [if_neg (by omega)])
      · rw [if_neg hp]
        exact main z j _ hz1 hz2 hij hj (by unfold unzig; rw [if_pos (by omega)]; omega)
    by_cases hl : (intsOf cs).getD i 0 < 128
    · rw [drop_cons (d := 0) (show i < (intsOf cs).length by rw [h.il]; exact hk), unpL_low hl, ← fin _ i hmem.1 (by omega) (Nat.le_refl _) hk]
      simp only [joinC_pos (Nat.succ_pos n), shut_eq, condO_dec, condO_beq, condO_bne, guardO_dec, Int.ofNat_lt, hk, h2, if_true, Int.toNat_natCast, Nat.mul_one, h.get hk, bindO_ok, and_true, Int.natCast_nonneg, true_and, wrap64 (z := (intsOf cs).getD i 0) (by omega) (by omega)]
      rw [if_neg (by omega)]
    · simp only [joinC_pos (Nat.succ_pos n), shut_eq, condO_dec, condO_bne, condO_beq, guardO_dec, Int.ofNat_lt, hk, h2, if_true, Int.toNat_natCast, Nat.mul_one, h.get hk, bindO_ok, and_true, Int.natCast_nonneg, true_and, wrap64 (z := (intsOf cs).getD i 0) (by omega) (by omega), idx64 h.lt hk, Int.ofNat_inj]
      rw [if_pos (by omega)]
      by_cases hl2 : i + 1 < n
      · have hmem2 := hb _ (h.mem hl2)
        rw [drop_cons (d := 0) (show i < (intsOf cs).length by rw [h.il]; exact hk), drop_cons (d := 0) (show i + 1 < (intsOf cs).length by rw [h.il]; exact hl2), unpL, if_neg hl]
        simp only [hl2, if_true, h.get hl2, bindO_ok, wrap64 (z := (intsOf cs).getD (i + 1) 0) (by omega) (by omega)]
        rw [if_neg (by omega)]
        by_cases hm : (intsOf cs).getD (i + 1) 0 = 0 ∨ (intsOf cs).getD (i + 1) 0 ≥ 128
        · rw [if_pos hm]
          by_cases hm0 : (intsOf cs).getD (i + 1) 0 = 0
          · rw [if_pos hm0]; rfl
          · have : (intsOf cs).getD (i + 1) 0 ≥ 128 := by omega
            rw [if_neg hm0, decide_eq_true this]; rfl
        · rw [if_neg hm, if_neg (by omega), ← fin _ (i + 1) (by omega) (by omega) (by omega) hl2]
          have : decide ((intsOf cs).getD (i + 1) 0 ≥ 128) = false := decide_eq_false (by omega)
          rw [this, bindO_ok, wrap64 (z := 128 * (intsOf cs).getD (i + 1) 0) (by omega) (by omega), wrap64 (z := (intsOf cs).getD i 0 - 128) (by omega) (by omega), wrap64 (z := (intsOf cs).getD i 0 - 128 + 128 * (intsOf cs).getD (i + 1) 0) (by omega) (by omega),
            show (intsOf cs).getD i 0 - 128 + 128 * (intsOf cs).getD (i + 1) 0 = (intsOf cs).getD i 0 + 128 * ((intsOf cs).getD (i + 1) 0 - 1) by omega]
          rfl
      · have h3 : (intsOf cs).drop (i + 1) = [] := by rw [List.drop_eq_nil_iff, h.il]; omega
        rw [drop_cons (d := 0) (show i < (intsOf cs).length by rw [h.il]; exact hk), h3, unpL, if_neg hl, if_pos (by omega)]
        rfl
  · have h2 : (intsOf cs).drop i = [] := by rw [List.drop_eq_nil_iff, h.il]; omega
    simp only [shut_eq, condO_dec, Int.ofNat_lt, hk, h2, if_false, unpL, outU, List.append_nil]

end Go.Abs
end

