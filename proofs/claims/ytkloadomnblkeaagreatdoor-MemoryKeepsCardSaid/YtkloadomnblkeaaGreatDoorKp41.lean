/- Part 41 of the library that the proof of the statement uses: an abstract run of the program, proved right, and what its functions give. -/
import Derived.Test.YtkloadomnblkeaaGreatDoorKp40
set_option linter.unusedVariables false
set_option linter.unusedSimpArgs false

section
/- The law MemoryKeeps. -/
set_option linter.unusedVariables false
set_option linter.unusedSimpArgs false
namespace Go.Abs
open Go.Proofs Classical

theorem okL_ok (l : List Int) : okL (.ok l) = l := rfl
theorem erE_ok (l : List Int) : erE (.ok l) = 0 := rfl

theorem run_14' {n m q : Nat} {cs ds es : List AV} (hI : Ints n cs) (hW : Words m ds) (hB : Bytes q es) :
    (fsM mz10 waysP (n + m + 1) 8).call (List RLeaf) 14 [.ofB (.list n cs), .ofB (.list m ds), .ofB (.list q es)] [] (resK [false]) = some [.v (.bool true)] := by
  rw [run_14]
  have e1 : zrow (ofV (Go.Value.int IntKind.i64 (0 : Int))).cells 0 ++ cs = cs := rfl
  have e2 : zrow (ofV (Go.Value.int IntKind.u16 (0 : Int))).cells 0 ++ ds = ds := rfl
  have e3 : zrow (ofV (Go.Value.int IntKind.u8 (0 : Int))).cells 0 ++ es = es := rfl
  simp only [shut_eq, guardO_dec, hI, if_true, condO_ts, bindO_ok]
  by_cases c1 : n > 100
  · have : decide ((n : Int) > 100) = true := decide_eq_true (by omega)
    rw [this]; rfl
  by_cases c2 : codesE n (intsOf cs) = 0
  case neg =>
    have : (codesE n (intsOf cs) != 0) = true := bne_iff_ne.2 c2
    rw [this, Bool.or_true]; rfl
  by_cases c3 : m > 600
  · have : decide ((m : Int) > 600) = true := decide_eq_true (by omega)
    rw [this, Bool.or_true]; rfl
  by_cases c4 : q > 100
  · have : decide ((q : Int) > 100) = true := decide_eq_true (by omega)
    rw [this, Bool.or_true]; rfl
  have d1 : decide ((n : Int) > 100) = false := decide_eq_false (by omega)
  have d2 : (codesE n (intsOf cs) != 0) = false := by rw [c2]; rfl
  have d3 : decide ((m : Int) > 600) = false := decide_eq_false (by omega)
  have d4 : decide ((q : Int) > 100) = false := decide_eq_false (by omega)
  rw [d1, d2, d3, d4]
  simp only [Bool.or_self, condO_fx]
  have hil := hI.len
  have hwl := hW.1.il
  have hbl := hB.1.il
  have hcl : cs.length = n := hI.2.2
  have hdl : ds.length = m := hW.1.len
  have hel : es.length = q := hB.1.len
  have hall : ∀ z ∈ intsOf cs, 0 ≤ z ∧ z ≤ 4095 := by
    unfold codesE at c2
    rw [if_neg (by omega)] at c2
    split at c2
    · rename_i h; intro z hz; exact of_decide_eq_true (List.all_eq_true.1 h z hz)
    · omega
  have p1 := packL_len (b := 0) (cs := intsOf cs)
  have p2 := packL_ge (intsOf cs) 0
  have p3 := packL_small (intsOf cs) 0
  have p4 := unp_pack (intsOf cs) 0 0 hall (by omega) (by omega) (by omega)
  have p5 := packL_bytes (intsOf cs) 0 hall (by omega) (by omega)
  have P : packR n (intsOf cs) = (packL 0 (intsOf cs), 0) := if_pos c2
  have w1 := packW_runs m (intsOf ds) none (by omega)
  have w2 := packW_len m (intsOf ds) (by omega)
  have w3 := unp_packW m (intsOf ds) 255 0 0 (by omega) hW.2 (by omega) (by omega)
  have w4 := packW_bytes m (intsOf ds) (by omega) hW.2
  generalize hbb : packL 0 (intsOf cs) = B at *
  generalize hww : packW (intsOf ds) = V at *
  have U1 : unpR B.length B = .ok (intsOf cs) := by unfold unpR; rw [if_neg (by omega)]; exact p4
  have U2 : unpWR V.length V = .ok (intsOf ds) := by unfold unpWR; rw [if_neg (by omega), if_neg (by omega)]; exact w3
  have nB : Bytes B.length (numsL .u8 B) := ⟨Nums_L (by omega), by rw [numsL_of]; exact p5⟩
  have nV : Bytes V.length (numsL .u8 V) := ⟨Nums_L (by omega), by rw [numsL_of]; exact w4⟩
  have m4 : (m > 4096) = False := eq_false (by omega)
  have nc : Nums .i64 (intsOf cs).length (numsL .i64 (intsOf cs)) := Nums_L (by omega)
  have nd : Nums .u16 (intsOf ds).length (numsL .u16 (intsOf ds)) := Nums_L (by omega)
  simp only [Nat.zero_add, Nat.mul_one, e1, e2, e3, hcl, hdl, hel, hI, hW, hB, P, hbb, hww, numsL_of, m4, if_false, if_true, nB, nV, U1, U2, okL_ok, erE_ok, nc, nd, hI.nums, hW.1, and_true, true_and]
  rw [if_pos (show n * 9 ≤ 549755813888 by omega), if_pos (show m * 3 ≤ 549755813888 by omega)]
  have z0 : (IntKind.i64.wrap (IntKind.i64.wrap (IntKind.i64.wrap (0 + 0) + 0) + 0) != 0) = false := by decide
  have t3 : ((V.length : Int).tmod 3 != 0) = false := by
    rw [tmod_nat (by omega)]
    have : (V.length : Int) % 3 = 0 := by omega
    rw [this]; rfl
  have l1 : decide ((B.length : Int) < (n : Int)) = false := decide_eq_false (by omega)
  have l2 : decide ((B.length : Int) > IntKind.i64.wrap (2 * (n : Int))) = false := by
    rw [wrap64 (by omega) (by omega)]; exact decide_eq_false (by omega)
  have n3 : ((3 : Int) ≠ 0) = True := eq_true (by omega)
  have n255 : ((255 : Int) ≠ 0) = True := eq_true (by omega)
  simp only [z0, condO_fx, condO_ts, bindO_ok, decide_true, Bool.not_true, l1, l2, t3, n3, if_true, Bool.or_self]
  -- what comes behind the loops
  have tail : ∀ (X : Option (List RLeaf)), X = some [.v (.bool true)] → X = some [.v (.bool true)] := fun _ h => h
  refine (loopC_rule (fun k (r : Nat → List AV → Nat → List AV → Nat → List AV → Nat → List AV → Nat → List AV → Bool → Int → Int → Nat → List AV → Int → Int → Nat → List AV → Nat → List AV → Option (List RLeaf)) => ∀ (i : Nat) (sm : Bool) (before : Int) (x17 : Nat) (x18 : List AV) (x19 : Nat) (x20 : List AV), i + k = n → 0 ≤ before → before ≤ 4095 → (sm && smallL before ((intsOf cs).drop i)) = smallL 0 (intsOf cs) →
    r n cs m ds q es B.length (numsL .u8 B) V.length (numsL .u8 V) sm before 0 n cs (n : Int) (i : Int) x17 x18 x19 x20 = some [.v (.bool true)]) ?_ (n + m + 1) n (by omega) 0 true 0 _ _ _ _ (by omega) (by omega) (by omega) (by simp))
  intro k r ih i sm before x17 x18 x19 x20 hi hb1 hb2 hsm
  by_cases hk : i < n
  · have hlt : i < (intsOf cs).length := by rw [hil]; exact hk
    rw [drop_cons (d := 0) hlt] at hsm
    have hm := hall _ (hI.nums.mem hk)
    have h2 : 0 < cs.length := by omega
    simp only [shut_eq, condO_dec, Int.ofNat_lt, hk, if_true, guardO_dec, Int.natCast_nonneg, true_and, h2, Int.toNat_natCast, Nat.mul_one, hI.nums.get hk, bindO_ok, condO_sf, idx64 (show n < 9223372036854775808 by omega) hk]
    refine ih (n - (i + 1)) (by omega) (i + 1) _ _ x17 x18 x19 x20 (by omega) hm.1 hm.2 ?_
    rw [← hsm, wrap64 (z := (intsOf cs).getD i 0 - before) (by omega) (by omega), wrap64 (z := before - (intsOf cs).getD i 0) (by omega) (by omega)]
    simp only [smallL, Bool.decide_and, Bool.and_assoc]
  · have hnil : (intsOf cs).drop i = [] := by rw [List.drop_eq_nil_iff, hil]; omega
    rw [hnil] at hsm
    have hsm : sm = decide (B.length = (intsOf cs).length) := by rw [← p3, ← hsm]; simp [smallL]
    simp only [shut_eq, condO_dec, Int.ofNat_lt, hk, if_false]
    refine (loopC_rule (fun k (r : Nat → List AV → Nat → List AV → Nat → List AV → Nat → List AV → Nat → List AV → Bool → Int → Nat → List AV → Int → Int → Nat → List AV → Nat → List AV → Option (List RLeaf)) => ∀ (i : Nat) (runs : Nat) (x16 : Nat) (x17 : List AV) (x18 : Nat) (x19 : List AV), i + k = m → runs ≤ i → runs + runsL (if i = 0 then none else some ((intsOf ds).getD (i - 1) 0)) ((intsOf ds).drop i) = runsL none (intsOf ds) →
      r n cs m ds q es B.length (numsL .u8 B) V.length (numsL .u8 V) sm (runs : Int) m ds (m : Int) (i : Int) x16 x17 x18 x19 = some [.v (.bool true)]) ?_ (n + m + 1) m (by omega) 0 0 _ _ _ _ (by omega) (by omega) (by simp))
    intro k r ih i runs x16 x17 x18 x19 hi hru hrn
    by_cases hk : i < m
    · have hlt : i < (intsOf ds).length := by rw [hwl]; exact hk
      rw [drop_cons (d := 0) hlt] at hrn
      have h2 : 0 < ds.length := by omega
      simp only [shut_eq, condO_dec, Int.ofNat_lt, hk, if_true, guardO_dec, Int.natCast_nonneg, true_and, h2, Int.toNat_natCast, Nat.mul_one, hW.1.get hk, bindO_ok, idx64 (show m < 9223372036854775808 by omega) hk, and_true]
      by_cases hi0 : i = 0
      · subst hi0
        simp only [if_true] at hrn
        have : (((0 : Nat) : Int) == 0) = true := rfl
        rw [this, condO_tx, bindO_ok, condO_tx, wrap64 (by omega) (by omega), show ((runs : Int) + 1) = ((runs + 1 : Nat) : Int) by omega]
        refine ih (m - (0 + 1)) (by omega) (0 + 1) _ x16 x17 x18 x19 (by omega) (by omega) ?_
        rw [← hrn]
        simp only [runsL]
        simp
        omega
      · have z : ((i : Int) == 0) = false := beq_eq_false_iff_ne.2 (by omega)
        have wi : IntKind.i64.wrap ((i : Int) - 1) = ((i - 1 : Nat) : Int) := by rw [wrap64] <;> omega
        rw [z, condO_fx]
        simp only [wi, Int.natCast_nonneg, true_and, Int.ofNat_lt, show i - 1 < m by omega, if_true, Int.toNat_natCast, hW.1.get (show i - 1 < m by omega), bindO_ok]
        rw [if_neg hi0] at hrn
        by_cases hx : (intsOf ds).getD i 0 = (intsOf ds).getD (i - 1) 0
        · have z2 : ((intsOf ds).getD i 0 != (intsOf ds).getD (i - 1) 0) = false := by rw [hx]; simp
          rw [z2, condO_fx]
          refine ih (m - (i + 1)) (by omega) (i + 1) _ x16 x17 x18 x19 (by omega) (by omega) ?_
          rw [← hrn]
          simp only [runsL, Nat.add_sub_cancel, hx]
          simp
        · have z2 : ((intsOf ds).getD i 0 != (intsOf ds).getD (i - 1) 0) = true := bne_iff_ne.2 hx
          rw [z2, condO_tx, wrap64 (by omega) (by omega), show ((runs : Int) + 1) = ((runs + 1 : Nat) : Int) by omega]
          refine ih (m - (i + 1)) (by omega) (i + 1) _ x16 x17 x18 x19 (by omega) (by omega) ?_
          rw [← hrn]
          simp only [runsL, Nat.add_sub_cancel]
          rw [if_neg (show ¬ (i + 1 = 0) by omega), if_neg (fun e => hx (Option.some.inj e).symm)]
          omega
    · have hnil2 : (intsOf ds).drop i = [] := by rw [List.drop_eq_nil_iff, hwl]; omega
      rw [hnil2] at hrn
      have hrn : runs = runsL none (intsOf ds) := by simpa [runsL] using hrn
      obtain ⟨w0, w1, w1'⟩ := w1
      rw [← hrn] at w1 w1'
      have wup : V.length ≤ 3 * (runs + m / 255) := by
        rw [hwl] at w1'
        by_cases hm0 : intsOf ds = []
        · rw [hm0, packW] at hww
          rw [← hww]; simp
        · have : ¬ (intsOf ds).head? = none := by simpa using hm0
          simp only [this, if_false, Nat.add_zero] at w1'
          exact w1'
      have q1 : (!(sm == ((B.length : Int) == (n : Int)))) = false := by
        rw [hsm, hil]
        by_cases hbn : B.length = n
        · have : ((B.length : Int) == (n : Int)) = true := beq_iff_eq.2 (by omega)
          rw [this, hbn]; simp
        · have : ((B.length : Int) == (n : Int)) = false := beq_eq_false_iff_ne.2 (by omega)
          rw [this]; simp [hbn]
      have q2 : decide ((V.length : Int) < IntKind.i64.wrap (3 * (runs : Int))) = false := by
        rw [wrap64 (by omega) (by omega)]; exact decide_eq_false (by omega)
      have q3 : decide ((V.length : Int) > IntKind.i64.wrap (3 * IntKind.i64.wrap ((runs : Int) + IntKind.i64.wrap ((m : Int).tdiv 255)))) = false := by
        rw [tdiv_nat (by omega), wrap64 (z := (m : Int) / 255) (by omega) (by omega), wrap64 (z := (runs : Int) + (m : Int) / 255) (by omega) (by omega), wrap64 (by omega) (by omega)]
        exact decide_eq_false (by omega)
      simp only [shut_eq, condO_dec, Int.ofNat_lt, hk, if_false, condO_ts, bindO_ok, q1, q2, q3, Bool.or_self, condO_fx, guardO_dec, n255, if_true, Nat.zero_add, e3, hel, Nat.mul_one, hB]
      have hq : q * 2 ≤ 549755813888 := by omega
      simp only [hq, if_true]
      have hqn : Nums .u8 q es := hB.1
      have TW : condO (erE (unpWR q (intsOf es)) == 0)
        (if Words (okL (unpWR q (intsOf es))).length (numsL IntKind.u16 (okL (unpWR q (intsOf es)))) then
          bindO (condO ((if (okL (unpWR q (intsOf es))).length > 4096 then (5 : Int) else 0) != 0) (some true)
              (if Nums IntKind.u8 (if (okL (unpWR q (intsOf es))).length > 4096 then [] else packW (okL (unpWR q (intsOf es)))).length
                      (numsL IntKind.u8 (if (okL (unpWR q (intsOf es))).length > 4096 then [] else packW (okL (unpWR q (intsOf es))))) ∧ Nums IntKind.u8 q es then
                some !decide ((if (okL (unpWR q (intsOf es))).length > 4096 then [] else packW (okL (unpWR q (intsOf es)))) = intsOf es)
              else none))
            fun v37 => condO v37 (some [RLeaf.v (AV.bool false)]) (some [RLeaf.v (AV.bool true)])
        else none)
        (some [RLeaf.v (AV.bool true)]) = some [RLeaf.v (AV.bool true)] := by
        have hlen := unpWR_len (n := q) (xs := intsOf es) (fun z hz => (hB.2 z hz).1)
        cases hV : unpWR q (intsOf es) with
        | error e =>
          have he : e ≠ 0 := by
            unfold unpWR at hV
            split at hV
            · have := Except.error.inj hV; omega
            · split at hV
              · have := Except.error.inj hV; omega
              · exact unpW_err q _ _ _ _ e (by omega) hV
          rw [show (erE (Except.error e : Except Int (List Int)) == 0) = false from beq_eq_false_iff_ne.2 he]; rfl
        | ok l =>
          rw [hV] at hlen
          have hlen : l.length ≤ 4096 := hlen
          have hV2 : q % 3 = 0 ∧ unpW 255 0 0 (intsOf es) = .ok l := by
            unfold unpWR at hV
            split at hV
            · cases hV
            · split at hV
              · cases hV
              · exact ⟨by omega, hV⟩
          obtain ⟨a1, a2, a3⟩ := packW_unp q (intsOf es) 255 0 0 l (by omega) (by omega) hB.2 hV2.2
          have b1 : Words l.length (numsL .u16 l) := ⟨Nums_L (by omega), by rw [numsL_of]; exact a2⟩
          have b2 : Nums .u8 (intsOf es).length (numsL .u8 (intsOf es)) := Nums_L (by omega)
          simp only [okL_ok, erE_ok, b1, if_true, show ¬ l.length > 4096 by omega, if_false, a1, b2, hqn, and_self, decide_true]
          rfl
      rw [TW]
      cases hU : unpR q (intsOf es) with
      | error e =>
        have he : e ≠ 0 := by
          unfold unpR at hU
          split at hU
          · have := Except.error.inj hU; omega
          · exact unpL_err q _ _ _ e (by omega) hU
        rw [show (erE (Except.error e : Except Int (List Int)) == 0) = false from beq_eq_false_iff_ne.2 he]; rfl
      | ok l =>
        have hU2 : unpL 0 0 (intsOf es) = .ok l := by
          unfold unpR at hU
          split at hU
          · cases hU
          · exact hU
        obtain ⟨a1, a2, a3⟩ := pack_unp q (intsOf es) 0 0 l (by omega) hB.2 (by omega) hU2
        have b1 : Ints l.length (numsL .i64 l) := (Nums_L (by omega)).ints
        have b2 : Nums .u8 (intsOf es).length (numsL .u8 (intsOf es)) := Nums_L (by omega)
        have b3 : codesE l.length l = 0 := by
          unfold codesE
          rw [if_neg (by omega), if_pos (List.all_eq_true.2 fun z hz => decide_eq_true (a2 z hz))]
        have b4 : packR l.length l = (intsOf es, 0) := by unfold packR; rw [if_pos b3, a1]
        simp only [okL_ok, erE_ok, b1, if_true, b4, b2, hqn, and_self, decide_true]
        rfl

end Go.Abs
end

