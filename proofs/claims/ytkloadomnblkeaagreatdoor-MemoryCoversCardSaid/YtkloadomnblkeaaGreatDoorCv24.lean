/- Part 24 of the library that the proof of the statement uses: an abstract run of the program, proved right, and what its functions give. -/
import Derived.Test.YtkloadomnblkeaaGreatDoorCv23
set_option linter.unusedVariables false
set_option linter.unusedSimpArgs false

section
/- Words that the reference unpacks. -/
set_option linter.unusedVariables false
set_option linter.unusedSimpArgs false
namespace Go.Abs
open Go.Proofs Classical

theorem run_75' {n : Nat} {cs : List AV} (h : Bytes n cs) : (fsM mz2 waysP (n + 300) 8).call (List RLeaf) 75 [.ofB (.list n cs)] [] (resK [true, false]) =
    some [.fz (okL (unpWR n (intsOf cs))).length (numsL .u16 (okL (unpWR n (intsOf cs)))), .v (.int .i64 (erE (unpWR n (intsOf cs))))] := by
  rw [run_75, ← outW_nil]
  obtain ⟨h, hb⟩ := h
  have e3 : ((3 : Int) ≠ 0) = True := eq_true (by omega)
  simp only [shut_eq, condO_dec, condO_bne, guardO_dec, e3, if_true]
  by_cases h0 : n > 12288
  · rw [if_pos (by omega)]; simp [unpWR, h0, outW]
  rw [if_neg (by omega), unpWR, if_neg h0, tmod_nat (by omega)]
  by_cases h3 : n % 3 = 0
  case neg => rw [if_neg (by omega), if_pos h3]; rfl
  rw [if_pos (by omega), if_neg (by omega)]
  let pl : Nat → Int := fun i => if i = 0 then 255 else (intsOf cs).getD (i - 3) 0
  let pw : Nat → Int := fun i => if i = 0 then 0 else (intsOf cs).getD (i - 2) 0 + 256 * (intsOf cs).getD (i - 1) 0
  refine loopC_rule (fun k (r : Nat → List AV → Int → Nat → List AV → Nat → List AV → Option (List RLeaf)) => ∀ (i : Nat) (x : Nat) (y : List AV) (acc : List Int), i + k = n → i % 3 = 0 → acc.length ≤ 4096 →
    r n cs (i : Int) x y acc.length (numsL .u16 acc) = outW acc (unpW (pl i) (pw i) acc.length ((intsOf cs).drop i)))
    ?_ (n + 300) n (by omega) 0 0 [] [] (by omega) (by omega) (by simp)
  intro k r ih i x y acc hi him ha
  by_cases hk : i < n
  · have hk1 : i + 1 < n := by omega
    have hk2 : i + 2 < n := by omega
    have h2 : 0 < cs.length := by rw [h.len]; omega
    rw [drop_cons (d := 0) (show i < (intsOf cs).length by rw [h.il]; exact hk), drop_cons (d := 0) (show i + 1 < (intsOf cs).length by rw [h.il]; exact hk1), drop_cons (d := 0) (show i + 1 + 1 < (intsOf cs).length by rw [h.il]; exact hk2), unpW]
    have hm0 := hb _ (h.mem hk)
    have hm1 := hb _ (h.mem hk1)
    have hm2 := hb _ (h.mem hk2)
    have i1 : IntKind.i64.wrap ((i : Int) + 1) = ((i + 1 : Nat) : Int) := idx64 h.lt hk
    have i2 : IntKind.i64.wrap ((i : Int) + 2) = ((i + 2 : Nat) : Int) := by rw [wrap64] <;> omega
    have i3 : IntKind.i64.wrap ((i : Int) + 3) = ((i + 3 : Nat) : Int) := by rw [wrap64] <;> omega
    have eN : ∀ {j : Nat}, ((j : Int) < (n : Int)) = (j < n) := by intro j; exact propext Int.ofNat_lt
    have hw := fun (t : Nat) (ht : t < n) => hb _ (h.mem ht)
    generalize hv0 : (intsOf cs).getD i 0 = a at hm0 ⊢
    generalize hv1 : (intsOf cs).getD (i + 1) 0 = b at hm1 ⊢
    generalize hv2 : (intsOf cs).getD (i + 1 + 1) 0 = d at hm2 ⊢
    have g0 : asInt .u8 (cs.getD i .top) = some a := by rw [h.get hk, hv0]
    have g1 : asInt .u8 (cs.getD (i + 1) .top) = some b := by rw [h.get hk1, hv1]
    have g2 : asInt .u8 (cs.getD (i + 2) .top) = some d := by rw [h.get hk2, ← hv2]
    have tail : (if IntKind.i64.wrap ((acc.length : Int) + IntKind.i64.wrap a) > 4096 then some [RLeaf.fz 0 [], RLeaf.v (AV.int IntKind.i64 5)] else
        loopC (n + 300) (fun (r_13 : Nat → List AV → Int → Int → Nat → List AV → Nat → List AV → Option (List RLeaf)) x0_13 x1_13 x2_13 x3_13 x4_13 x5_13 x6_13 x7_13 =>
          if 0 ≤ x2_13 ∧ x2_13 < (x0_13 : Int) ∧ 0 < x1_13.length then
            bindO (asInt IntKind.u8 (x1_13.getD x2_13.toNat AV.top)) fun v15 =>
              if x3_13 < IntKind.i64.wrap v15 then
                if 0 ≤ IntKind.i64.wrap (x2_13 + 1) ∧ IntKind.i64.wrap (x2_13 + 1) < (x0_13 : Int) ∧ 0 < x1_13.length then
                  bindO (asInt IntKind.u8 (x1_13.getD (IntKind.i64.wrap (x2_13 + 1)).toNat AV.top)) fun v18 =>
                    if 0 ≤ IntKind.i64.wrap (x2_13 + 2) ∧ IntKind.i64.wrap (x2_13 + 2) < (x0_13 : Int) ∧ 0 < x1_13.length then
                      bindO (asInt IntKind.u8 (x1_13.getD (IntKind.i64.wrap (x2_13 + 2)).toNat AV.top)) fun v20 =>
                        if (x6_13 + 1) * 3 ≤ 549755813888 then
                          r_13 x0_13 x1_13 x2_13 (IntKind.i64.wrap (x3_13 + 1)) x4_13 x5_13 (x6_13 + 1) (x7_13 ++ putCells (zrow (ofV (Go.Value.int IntKind.u16 (0 : Int))).cells 1) 0 [AV.int IntKind.u16 (IntKind.u16.wrap (IntKind.i64.wrap (IntKind.i64.wrap v18 + IntKind.i64.wrap (256 * IntKind.i64.wrap v20))))])
                        else none
                    else none
                else none
              else r x0_13 x1_13 (IntKind.i64.wrap (x2_13 + 3)) x4_13 x5_13 x6_13 x7_13
          else none) (fun _ _ _ _ _ _ _ _ => none) n cs (i : Int) 0 x y acc.length (numsL .u16 acc)) =
        outW acc (if (acc.length : Int) + a > 4096 then .error 5 else (unpW a (b + 256 * d) (acc.length + a.toNat) ((intsOf cs).drop (i + 3))).map (List.replicate a.toNat (b + 256 * d) ++ ·)) := by
      rw [wrap64 (z := a) (by omega) (by omega), wrap64 (z := (acc.length : Int) + a) (by omega) (by omega)]
      by_cases hc : (acc.length : Int) + a > 4096
      · rw [if_pos hc, if_pos hc]; rfl
      rw [if_neg hc, if_neg hc, outW_map]
      refine loopC_rule (fun k2 (r2 : Nat → List AV → Int → Int → Nat → List AV → Nat → List AV → Option (List RLeaf)) => ∀ (j c' : Nat) (l' : List AV), j + k2 = a.toNat → c' = acc.length + j → l' = numsL .u16 (acc ++ List.replicate j (b + 256 * d)) →
        r2 n cs (i : Int) (j : Int) x y c' l' = outW (acc ++ List.replicate a.toNat (b + 256 * d)) (unpW a (b + 256 * d) (acc.length + a.toNat) ((intsOf cs).drop (i + 3))))
        ?_ (n + 300) a.toNat (by omega) 0 _ _ (by omega) (by omega) (by simp)
      intro k2 r2 ih2 j c' l' hj hc' hl'
      subst hc'
      subst hl'
      simp only [Int.toNat_natCast, g0, bindO_ok, eN, hk, h2, Int.natCast_nonneg, true_and, and_true, if_true, i1, i2, hk1, hk2, g1, g2]
      rw [wrap64 (z := a) (by omega) (by omega)]
      by_cases hja : (j : Int) < a
      · have e := ih2 (k2 - 1) (by omega) (j + 1) (acc.length + j + 1) _ (by omega) (by omega) rfl
        rw [if_pos hja, if_pos (by omega), wrap64 (z := (j : Int) + 1) (by omega) (by omega), wrap64 (z := b) (by omega) (by omega), wrap64 (z := d) (by omega) (by omega), wrap64 (z := 256 * d) (by omega) (by omega), wrap64 (z := b + 256 * d) (by omega) (by omega), wrap16 (by omega) (by omega), putW1, ← numsL_app, List.append_assoc, ← List.replicate_succ']
        simpa using e
      · have hje : j = a.toNat := by omega
        subst hje
        rw [if_neg hja, i3]
        have e := ih (n - (i + 3)) (by omega) (i + 3) x y (acc ++ List.replicate a.toNat (b + 256 * d)) (by omega) (by omega) (by simp; omega)
        have p1 : pl (i + 3) = a := by show (if i + 3 = 0 then _ else (intsOf cs).getD (i + 3 - 3) 0) = a; rw [if_neg (by omega)]; exact hv0
        have p2 : pw (i + 3) = b + 256 * d := by
          show (if i + 3 = 0 then _ else (intsOf cs).getD (i + 3 - 2) 0 + 256 * (intsOf cs).getD (i + 3 - 1) 0) = b + 256 * d
          rw [if_neg (by omega), show i + 3 - 2 = i + 1 by omega, show i + 3 - 1 = i + 1 + 1 by omega, hv1, hv2]
        rw [p1, p2] at e
        simpa using e
    simp only [joinC_pos (show 0 < n + 300 by omega), shut_eq, condO_dec, condO_bne, condO_beq, guardO_dec, eN, hk, h2, if_true, Int.toNat_natCast, Nat.mul_one, g0, bindO_ok, and_true, Int.natCast_nonneg, true_and, i1, i2, hk1, hk2, g1, g2]
    rw [tail]
    by_cases ha0 : a = 0
    · rw [if_pos ha0, if_pos ha0]; rfl
    rw [if_neg ha0, if_neg ha0]
    by_cases hi0 : i = 0
    · subst hi0
      rw [if_neg (by omega), if_neg (show ¬(pl 0 < 255 ∧ pw 0 = b + 256 * d) from fun e => absurd e.1 (by show ¬((255 : Int) < 255); omega))]
      rfl
    · have w3 : IntKind.i64.wrap ((i : Int) - 3) = ((i - 3 : Nat) : Int) := by rw [wrap64] <;> omega
      have w2 : IntKind.i64.wrap ((i : Int) - 2) = ((i - 2 : Nat) : Int) := by rw [wrap64] <;> omega
      have w1 : IntKind.i64.wrap ((i : Int) - 1) = ((i - 1 : Nat) : Int) := by rw [wrap64] <;> omega
      have p1 : pl i = (intsOf cs).getD (i - 3) 0 := if_neg hi0
      have p2 : pw i = (intsOf cs).getD (i - 2) 0 + 256 * (intsOf cs).getD (i - 1) 0 := if_neg hi0
      have m2 := hw (i - 2) (by omega)
      have m1 := hw (i - 1) (by omega)
      rw [if_pos (show (i : Int) > 0 by omega), p1, p2]
      simp only [w3, w2, w1, Int.natCast_nonneg, true_and, eN, Int.toNat_natCast, show i - 3 < n by omega, show i - 2 < n by omega, show i - 1 < n by omega, if_true, h.get (show i - 3 < n by omega), h.get (show i - 2 < n by omega), h.get (show i - 1 < n by omega), bindO_ok]
      generalize (intsOf cs).getD (i - 3) 0 = z3
      generalize (intsOf cs).getD (i - 2) 0 = z2 at m2 ⊢
      generalize (intsOf cs).getD (i - 1) 0 = z1 at m1 ⊢
      by_cases q1 : z3 < 255
      · by_cases q2 : z2 = b
        · by_cases q3 : z1 = d
          · rw [if_pos q1, if_pos q2, if_pos q3, if_pos ⟨q1, by omega⟩]; rfl
          · rw [if_pos q1, if_pos q2, if_neg q3, if_neg (show ¬(z3 < 255 ∧ z2 + 256 * z1 = b + 256 * d) by omega)]
        · rw [if_pos q1, if_neg q2, if_neg (show ¬(z3 < 255 ∧ z2 + 256 * z1 = b + 256 * d) by omega)]; rfl
      · rw [if_neg q1, if_neg (show ¬(z3 < 255 ∧ z2 + 256 * z1 = b + 256 * d) from fun e => q1 e.1)]; rfl
  · have h2 : (intsOf cs).drop i = [] := by rw [List.drop_eq_nil_iff, h.il]; omega
    simp only [shut_eq, condO_dec, Int.ofNat_lt, hk, h2, if_false, unpW, outW, List.append_nil]

end Go.Abs
end

