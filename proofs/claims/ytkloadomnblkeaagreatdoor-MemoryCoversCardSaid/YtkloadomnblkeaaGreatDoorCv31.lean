/- Part 31 of the library that the proof of the statement uses: an abstract run of the program, proved right, and what its functions give. -/
import Derived.Test.YtkloadomnblkeaaGreatDoorCv30
set_option linter.unusedVariables false
set_option linter.unusedSimpArgs false

section
/- Words that the program unpacks. -/
set_option linter.unusedVariables false
set_option linter.unusedSimpArgs false
namespace Go.Abs
open Go.Proofs Classical

theorem firstNZ_2 (a b : Int) : firstNZ (intsOf [AV.int .i64 a, AV.int .i64 b]) = if a = 0 then b else a := by
  simp only [intsOf, List.map_cons, List.map_nil, toI, firstNZ]
  by_cases h : a = 0 <;> by_cases h2 : b = 0 <;> simp [h, h2]

theorem put3n (u v w : Int) : putCells (putCells (putCells (zrow (ofV (Go.Value.int IntKind.i64 (0 : Int))).cells 3) 0 [AV.int IntKind.i64 u]) 1 [AV.int IntKind.i64 v]) 2 [AV.int IntKind.i64 w] = [AV.int .i64 u, AV.int .i64 v, AV.int .i64 w] := by
  rfl
theorem ints3n (u v w : Int) : Ints 3 [AV.int IntKind.i64 u, AV.int IntKind.i64 v, AV.int IntKind.i64 w] := ⟨by omega, rfl, rfl⟩
theorem firstNZ_3 (a b c : Int) : firstNZ (intsOf [AV.int .i64 a, AV.int .i64 b, AV.int .i64 c]) = if a = 0 then (if b = 0 then c else b) else a := by
  simp only [intsOf, List.map_cons, List.map_nil, toI, firstNZ]
  by_cases h : a = 0 <;> by_cases h2 : b = 0 <;> by_cases h3 : c = 0 <;> simp [h, h2, h3]

theorem getD_cut {cs : List AV} {i j m : Nat} {d : AV} (h : j < m) : ((cs.drop i).take m).getD j d = cs.getD (i + j) d := by
  simp [List.getD, List.getElem?_take, List.getElem?_drop, h]

theorem bits_or16 {b d : Int} (hb : 0 ≤ b ∧ b < 256) (hd : 0 ≤ d ∧ d < 256) : Go.bits .or .u16 b (d * 256) = b + 256 * d := by
  obtain ⟨x, rfl⟩ := Int.eq_ofNat_of_zero_le hb.1
  obtain ⟨y, rfl⟩ := Int.eq_ofNat_of_zero_le hd.1
  have h1 : (BitVec.ofInt 16 (x : Int)).toNat = x := by
    rw [BitVec.ofInt_natCast, BitVec.toNat_ofNat]; exact Nat.mod_eq_of_lt (by omega)
  have h2 : (BitVec.ofInt 16 ((y : Int) * 256)).toNat = y * 256 := by
    rw [show ((y : Int) * 256) = ((y * 256 : Nat) : Int) by omega, BitVec.ofInt_natCast, BitVec.toNat_ofNat]; exact Nat.mod_eq_of_lt (by omega)
  show IntKind.u16.wrap ((BitVec.ofInt 16 (x : Int) ||| BitVec.ofInt 16 ((y : Int) * 256)).toNat : Int) = _
  have e := Nat.shiftLeft_add_eq_or_of_lt (i := 8) (b := x) (by omega) y
  rw [Nat.shiftLeft_eq] at e
  rw [BitVec.toNat_or, h1, h2, Nat.or_comm, ← e, wrap16 (by omega) (by omega)]
  omega

theorem run_73' {n : Nat} {cs : List AV} (h : Bytes n cs) : (fsM mzB waysP (n + 300) 12).call (List RLeaf) 73 [.ofB (.list n cs)] [] (resK [true, false]) =
    some [.fz (okL (unpWR n (intsOf cs))).length (numsL .u16 (okL (unpWR n (intsOf cs)))), .v (.int .i64 (erE (unpWR n (intsOf cs))))] := by
  rw [run_73, ← outW_nil]
  obtain ⟨h, hb⟩ := h
  have e3 : ((3 : Int) ≠ 0) = True := eq_true (by omega)
  simp only [shut_eq, condO_dec, condO_bne, guardO_dec, e3, if_true, put2, firstNZ_2, ints2]
  rw [tmod_nat (by omega)]
  by_cases h0 : n > 12288
  · rw [if_neg (by simp; omega)]; simp [unpWR, h0, outW, show (n : Int) > 12288 by omega]
  have e0 : decide ((n : Int) > 12288) = false := decide_eq_false (by omega)
  simp only [e0, Bool.false_eq_true, if_false, if_true]
  by_cases h3 : n % 3 = 0
  case neg =>
    have : ((n : Int) % 3 != 0) = true := bne_iff_ne.2 (by omega)
    simp only [this, if_true]
    rw [if_neg (by omega), unpWR, if_neg h0, if_pos h3]; rfl
  have e1 : ((n : Int) % 3 != 0) = false := by
    have : (n : Int) % 3 = 0 := by omega
    rw [this]; rfl
  simp only [e1, Bool.false_eq_true, if_false, if_true]
  rw [if_neg (by omega), unpWR, if_neg h0, if_neg (by omega)]
  refine loopC_rule (fun k (r : Int → Nat → List AV → Int → Nat → List AV → Nat → List AV → Int → Int → Nat → List AV → Int → Option (List RLeaf)) => ∀ (i : Nat) (acc : List Int) (pl pw : Int) (x1 : Nat) (x2 : List AV) (x3 : Int) (x4 : Nat) (x5 : List AV), i + k = n → i % 3 = 0 → acc.length ≤ 4096 →
    r (i : Int) x1 x2 x3 x4 x5 acc.length (numsL .u16 acc) pw pl n cs 3 = outW acc (unpW pl pw acc.length ((intsOf cs).drop i)))
    ?_ (n + 300) n (by omega) 0 [] 255 0 _ _ _ _ _ (by omega) (by omega) (by simp)
  intro k r ih i acc pl pw x1 x2 x3 x4 x5 hi him ha
  by_cases hk : i < n
  · have hk1 : i + 1 < n := by omega
    have hk2 : i + 2 < n := by omega
    have hcl : cs.length = n := h.len
    rw [drop_cons (d := 0) (show i < (intsOf cs).length by rw [h.il]; exact hk), drop_cons (d := 0) (show i + 1 < (intsOf cs).length by rw [h.il]; exact hk1), drop_cons (d := 0) (show i + 1 + 1 < (intsOf cs).length by rw [h.il]; exact hk2), unpW]
    have hm0 := hb _ (h.mem hk)
    have hm1 := hb _ (h.mem hk1)
    have hm2 := hb _ (h.mem hk2)
    generalize hv0 : (intsOf cs).getD i 0 = a at hm0 ⊢
    generalize hv1 : (intsOf cs).getD (i + 1) 0 = b at hm1 ⊢
    generalize hv2 : (intsOf cs).getD (i + 1 + 1) 0 = d at hm2 ⊢
    have g0 : asInt .u8 (cs.getD (i + 0) .top) = some a := by rw [Nat.add_zero, h.get hk, hv0]
    have g1 : asInt .u8 (cs.getD (i + 1) .top) = some b := by rw [h.get hk1, hv1]
    have g2 : asInt .u8 (cs.getD (i + 2) .top) = some d := by rw [h.get hk2, ← hv2]
    have em : (if ((n - i : Nat) : Int) < 3 then ((n - i : Nat) : Int) else 3) = 3 := if_neg (by omega)
    have ew : IntKind.i64.wrap ((i : Int) + 3) = ((i + 3 : Nat) : Int) := by rw [wrap64] <;> omega
    have et : i + 3 - i = 3 := by omega
    have wa : IntKind.i64.wrap a = a := wrap64 (by omega) (by omega)
    have wb : IntKind.u16.wrap b = b := wrap16 (by omega) (by omega)
    have wd : IntKind.u16.wrap d = d := wrap16 (by omega) (by omega)
    have wd2 : IntKind.u16.wrap (d * 256) = d * 256 := wrap16 (by omega) (by omega)
    have wl : IntKind.i64.wrap ((acc.length : Int) + a) = acc.length + a := wrap64 (by omega) (by omega)
    have ecut : 0 < (List.take 3 (List.drop i cs)).length := by simp; omega
    have eN : ∀ {j : Nat}, ((j : Int) < (n : Int)) = (j < n) := by intro j; exact propext Int.ofNat_lt
    have p8 : ((2 : Int) ^ 8) = 256 := rfl
    have z1 : ((0 : Int) ≤ 8) = True := eq_true (by omega)
    have z2 : ((i : Int) ≤ (n : Int)) = True := eq_true (by omega)
    have z3 : ((i : Int) ≤ ((i + 3 : Nat) : Int)) = True := eq_true (by omega)
    have z4 : (((i + 3 : Nat) : Int) ≤ (n : Int)) = True := eq_true (by omega)
    have z5 : ((0 : Int) < ((3 : Nat) : Int)) = True := eq_true (by omega)
    have z6 : ((1 : Int) < ((3 : Nat) : Int)) = True := eq_true (by omega)
    have z7 : ((2 : Int) < ((3 : Nat) : Int)) = True := eq_true (by omega)
    have z8 : ((0 : Int) ≤ 1) = True := eq_true (by omega)
    have z9 : ((0 : Int) ≤ 2) = True := eq_true (by omega)
    simp only [shut_eq, condO_dec, condO_bne, condO_beq, guardO_dec, eN, hk, if_true, Int.toNat_natCast, Nat.mul_one, and_true, Int.natCast_nonneg, true_and, Int.le_refl, em, ew, et, hcl, ecut, getD_cut (cs := cs) (i := i) (show 0 < 3 by omega),
      getD_cut (cs := cs) (i := i) (show 1 < 3 by omega), getD_cut (cs := cs) (i := i) (show 2 < 3 by omega), g0, g1, g2, bindO_ok, p8, z1, z2, z3, z4, z5, z6, z7, z8, z9, wa, wb, wd, wd2, wl, bits_or16 hm1 hm2, put3n, ints3n, firstNZ_3, putW1]
    have hN : Nums .u16 1 (numsL .u16 [b + 256 * d]) := ⟨by omega, rfl, rfl⟩
    have hg : (intsOf (numsL .u16 [b + 256 * d])).getD 0 0 = b + 256 * d := rfl
    have fin : ¬ ((acc.length : Int) + a > 4096) → r ((i + 3 : Nat) : Int) x1 x2 x3 x4 x5 (acc.length + a.toNat) (numsL .u16 acc ++ numsL .u16 (List.replicate a.toNat (b + 256 * d))) (b + 256 * d) a n cs 3 =
        outW acc (Except.map (fun x => List.replicate a.toNat (b + 256 * d) ++ x) (unpW a (b + 256 * d) (acc.length + a.toNat) ((intsOf cs).drop (i + 1 + 1 + 1)))) := by
      intro hc
      have e := ih (n - (i + 3)) (by omega) (i + 3) (acc ++ List.replicate a.toNat (b + 256 * d)) a (b + 256 * d) x1 x2 x3 x4 x5 (by omega) (by omega) (by simp; omega)
      rw [outW_map, ← numsL_app]
      simpa using e
    have q1 : numsL .u16 (List.replicate a.toNat (b + 256 * d)) = numsL .u16 (List.replicate a.toNat (b + 256 * d)) := rfl
    rw [hg, numsL_len, List.length_replicate]
    simp only [hN, if_true, true_and, beq_iff_eq, decide_eq_true_eq, show (0 ≤ a) = True from eq_true (by omega), show (a ≤ 100000) = True from eq_true (by omega)]
    by_cases c1 : a = 0
    · simp only [c1, if_true, show ((6 : Int) = 0) = False from eq_false (by omega), if_false, ite_self]
      rfl
    by_cases c2 : (acc.length : Int) + a > 4096
    · have z : ((5 : Int) = 0) = False := eq_false (by omega)
      have z' : ((1 : Int) = 0) = False := eq_false (by omega)
      by_cases c3 : b + 256 * d = pw <;> by_cases c4 : pl < 255 <;> simp only [c1, c2, c3, c4, if_true, if_false, z, z', true_and, and_true, eq_comm (a := pw), false_and, and_false] <;> rfl
    · have fin := fin c2
      have hs : (acc.length + a.toNat) * 3 ≤ 549755813888 := by omega
      have z' : ((1 : Int) = 0) = False := eq_false (by omega)
      by_cases c3 : b + 256 * d = pw <;> by_cases c4 : pl < 255 <;> simp only [c1, c2, c3, c4, if_true, if_false, z', true_and, and_true, eq_comm (a := pw), false_and, and_false, hs] <;> first | rfl | (rw [c3] at fin; exact fin) | exact fin
  · have h2 : (intsOf cs).drop i = [] := by rw [List.drop_eq_nil_iff, h.il]; omega
    simp only [shut_eq, condO_dec, Int.ofNat_lt, hk, h2, if_false, unpW, outW, List.append_nil]

end Go.Abs
end

