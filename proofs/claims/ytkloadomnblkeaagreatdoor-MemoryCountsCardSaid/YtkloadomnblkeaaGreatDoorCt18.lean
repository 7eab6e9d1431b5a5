/- Part 18 of the library that the proof of the statement uses: an abstract run of the program, proved right, and what its functions give. -/
import Derived.Test.YtkloadomnblkeaaGreatDoorCt17
set_option linter.unusedVariables false
set_option linter.unusedSimpArgs false

section
/- Samples that are finite, and that are cleaned. -/
set_option linter.unusedVariables false
set_option linter.unusedSimpArgs false
namespace Go.Abs.Fin
open Classical

theorem sub_self_num {b : Nat} {s : Bool} {m : Nat} {i : Int} (h : Go.FloatKind.f32.format.read b = .number s m i) : arithO .sub .f32 (some b) (some b) = some 0 := by
  simp only [arithO, arithF, Ieee.Format.sub, h, Ieee.Datum.opposite, Ieee.Datum.sum, Option.map_some]
  have e : Ieee.signed s m (i - min i i).toNat + Ieee.signed (!s) m (i - min i i).toNat = 0 := by
    cases s <;> simp [Ieee.signed] <;> omega
  rw [e]
  simp only [if_true, Int.natAbs_zero, Ieee.Format.write, Ieee.Format.nearest]
  cases s <;> rfl

theorem fin_number {b : Nat} {s : Bool} {m : Nat} {i : Int} (h : Go.FloatKind.f32.format.read b = .number s m i) : finB (some b) = true := by
  unfold finB
  rw [sub_self_num h]
  decide +kernel

theorem fin_of {o : Option Nat} (h : finB o = true) : ∃ b s m i, o = some b ∧ Go.FloatKind.f32.format.read b = .number s m i := by
  cases o with
  | none => exact absurd h (by decide)
  | some b =>
    cases hd : Go.FloatKind.f32.format.read b with
    | number s m i => exact ⟨b, s, m, i, rfl, hd⟩
    | infinity s =>
      exfalso
      have : arithO .sub .f32 (some b) (some b) = none := by
        simp only [arithO, arithF, Ieee.Format.sub, hd, Ieee.Datum.opposite, Ieee.Datum.sum]
        cases s <;> rfl
      unfold finB at h
      rw [this] at h
      exact absurd h (by decide)
    | nan s t =>
      exfalso
      have : arithO .sub .f32 (some b) (some b) = none := by
        simp only [arithO, arithF, Ieee.Format.sub, hd, Ieee.Datum.opposite, Ieee.Datum.sum, Option.map_none]
      unfold finB at h
      rw [this] at h
      exact absurd h (by decide)

theorem cmp_self (z : Int) : compare z z = .eq := by simp

theorem ord_refl {o : Option Nat} (h : finB o = true) : ordO .f32 o o = some .eq := by
  obtain ⟨b, s, m, i, rfl, hd⟩ := fin_of h
  simp only [ordO, Ieee.Format.order, hd, Ieee.Datum.order, cmp_self]

/-- A sample that is equal to 0 is finite. -/
theorem finB_of_zero {o : Option Nat} (h : ordO .f32 o (some 0) = some .eq) : finB o = true := by
  cases o with
  | none => cases h
  | some b =>
    cases hd : Go.FloatKind.f32.format.read b with
    | number s m i => exact fin_number hd
    | infinity s =>
      simp only [ordO, Ieee.Format.order, hd] at h
      have : Go.FloatKind.f32.format.read 0 = .number false 0 Go.FloatKind.f32.format.leastPlace := by decide +kernel
      rw [this] at h
      cases s <;> simp [Ieee.Datum.order] at h
    | nan s t => simp only [ordO, Ieee.Format.order, hd, Ieee.Datum.order] at h; cases h

theorem zero_ord : ordO .f32 (some 0) (some 0) = some .eq := by decide +kernel

end Go.Abs.Fin
end

section
/- Samples that are finite, as integers that are ordered as they are. -/
set_option linter.unusedVariables false
set_option linter.unusedSimpArgs false
namespace Go.Abs.Fin
open Classical

def fkey (o : Option Nat) : Int :=
  match o with
  | some b => match Go.FloatKind.f32.format.read b with
    | .number s m i => Ieee.signed s m (i + 149).toNat
    | _ => 0
  | none => 0

theorem place_ge {b : Nat} {s : Bool} {m : Nat} {i : Int} (h : Go.FloatKind.f32.format.read b = .number s m i) : -149 ≤ i := by
  have hl : Go.FloatKind.f32.format.leastPlace = -149 := by decide +kernel
  unfold Ieee.Format.read at h
  simp only at h
  split at h
  · simp only [Ieee.Datum.number.injEq] at h; omega
  · split at h
    · simp only [Ieee.Datum.number.injEq] at h; omega
    · split at h <;> cases h

theorem signed_add (s : Bool) (m a b : Nat) : Ieee.signed s m (a + b) = Ieee.signed s m a * (2 ^ b : Nat) := by
  have e : m <<< (a + b) = (m <<< a) * 2 ^ b := by rw [Nat.shiftLeft_eq, Nat.shiftLeft_eq, Nat.pow_add, Nat.mul_assoc]
  unfold Ieee.signed
  cases s <;> simp only [e, if_true, if_false, Bool.false_eq_true] <;> push_cast <;> simp [Int.neg_mul]

theorem cmp_mul (x y : Int) {c : Nat} (hc : 0 < c) : compare (x * (c : Int)) (y * (c : Int)) = compare x y := by
  have hc' : (0 : Int) < (c : Int) := by omega
  rcases Int.lt_trichotomy x y with h | h | h
  · rw [Int.compare_eq_lt.2 h, Int.compare_eq_lt.2 (Int.mul_lt_mul_of_pos_right h hc')]
  · subst h; simp
  · rw [Int.compare_eq_gt.2 h, Int.compare_eq_gt.2 (Int.mul_lt_mul_of_pos_right h hc')]

theorem ord_key {a b : Option Nat} (ha : finB a = true) (hb : finB b = true) : ordO .f32 a b = some (compare (fkey a) (fkey b)) := by
  obtain ⟨x, s, m, i, rfl, hx⟩ := fin_of ha
  obtain ⟨y, t, n, j, rfl, hy⟩ := fin_of hb
  have hi := place_ge hx
  have hj := place_ge hy
  simp only [ordO, Ieee.Format.order, hx, hy, Ieee.Datum.order, fkey]
  congr 1
  have e1 : (i + 149).toNat = (i - min i j).toNat + (min i j + 149).toNat := by omega
  have e2 : (j + 149).toNat = (j - min i j).toNat + (min i j + 149).toNat := by omega
  rw [e1, e2, signed_add, signed_add, cmp_mul _ _ (Nat.two_pow_pos _)]

section
variable {a b : Option Nat} (ha : finB a = true) (hb : finB b = true)
include ha hb

theorem ord_lt : ordO .f32 a b = some .lt ↔ fkey a < fkey b := by
  rw [ord_key ha hb, Option.some.injEq]; exact Int.compare_eq_lt
theorem ord_gt : ordO .f32 a b = some .gt ↔ fkey b < fkey a := by
  rw [ord_key ha hb, Option.some.injEq]; exact Int.compare_eq_gt
theorem ord_eq : ordO .f32 a b = some .eq ↔ fkey a = fkey b := by
  rw [ord_key ha hb, Option.some.injEq]; exact Int.compare_eq_eq

theorem blt : (ordO .f32 a b == some .lt) = decide (fkey a < fkey b) := by
  by_cases h : fkey a < fkey b
  · rw [decide_eq_true h, (ord_lt ha hb).2 h]; rfl
  · rw [decide_eq_false h]; exact beq_eq_false_iff_ne.2 fun e => h ((ord_lt ha hb).1 e)
theorem bgt : (ordO .f32 a b == some .gt) = decide (fkey b < fkey a) := by
  by_cases h : fkey b < fkey a
  · rw [decide_eq_true h, (ord_gt ha hb).2 h]; rfl
  · rw [decide_eq_false h]; exact beq_eq_false_iff_ne.2 fun e => h ((ord_gt ha hb).1 e)
theorem beqk : (ordO .f32 a b == some .eq) = decide (fkey a = fkey b) := by
  by_cases h : fkey a = fkey b
  · rw [decide_eq_true h, (ord_eq ha hb).2 h]; rfl
  · rw [decide_eq_false h]; exact beq_eq_false_iff_ne.2 fun e => h ((ord_eq ha hb).1 e)

end

theorem fin_zero : finB (some 0) = true := finB_of_zero zero_ord
theorem key_clean {a : Option Nat} (ha : finB a = true) : fkey (clean1 a) = fkey a := by
  unfold clean1
  split
  · rename_i h
    rw [(ord_eq ha fin_zero).1 h]
  · rfl

end Go.Abs.Fin
end

section
/- Longest runs, bins, extremes: plainly. -/
set_option linter.unusedVariables false
set_option linter.unusedSimpArgs false
namespace Go.Abs
open Classical

/-- How many truths there are at the beginning. -/
def runT : List Bool → Nat
  | true :: hs => runT hs + 1
  | _ => 0

/-- The longest run, as the program finds it. -/
def longP : Nat → Nat → Nat → Nat → List Bool → Nat × Nat
  | _, _, a, b, [] => (a, b)
  | i, f, a, b, h :: hs => if h = false then longP (i + 1) (i + 1) a b hs else if i + 1 - f > b - a then longP (i + 1) f f (i + 1) hs else longP (i + 1) f a b hs

/-- As the reference finds it. -/
def longR : Nat → Nat → Nat → List Bool → Nat × Nat
  | _, a, b, [] => (a, b)
  | i, a, b, h :: hs => if runT (h :: hs) > b - a then longR (i + 1) i (i + runT (h :: hs)) hs else longR (i + 1) a b hs

theorem runT_rep : ∀ (m : Nat) (hs : List Bool), runT (List.replicate m true ++ false :: hs) = m ∧ runT (List.replicate m true) = m
  | 0, hs => ⟨rfl, rfl⟩
  | m + 1, hs => by
    obtain ⟨h1, h2⟩ := runT_rep m hs
    simp only [List.replicate_succ, List.cons_append, runT, h1, h2, and_self]

theorem longR_rep : ∀ (m i a b : Nat) (hs : List Bool), m ≤ b - a → longR i a b (List.replicate m true ++ false :: hs) = longR (i + m + 1) a b hs ∧ longR i a b (List.replicate m true) = (a, b)
  | 0, i, a, b, hs, _ => by
    refine ⟨?_, rfl⟩
    show longR i a b (false :: hs) = _
    rw [longR, if_neg (by show ¬ 0 > b - a; omega)]
  | m + 1, i, a, b, hs, h => by
    obtain ⟨h1, h2⟩ := longR_rep m (i + 1) a b hs (by omega)
    obtain ⟨r1, r2⟩ := runT_rep (m + 1) hs
    rw [List.replicate_succ] at r1 r2 ⊢
    constructor
    · rw [List.cons_append] at r1 ⊢
      rw [longR, r1, if_neg (by omega), h1]
      congr 1; omega
    · rw [longR, r2, if_neg (by omega), h2]

theorem long_same : ∀ (hs : List Bool) (f c a' b' a b : Nat), a' ≤ b' → (a, b) = (if c > b' - a' then (f, f + c) else (a', b')) → longP (f + c) f a b hs = longR f a' b' (List.replicate c true ++ hs)
  | [], f, c, a', b', a, b, hab, h => by
    rw [List.append_nil, longP]
    cases c with
    | zero => rw [h, if_neg (by omega)]; rfl
    | succ c =>
      have hr := (runT_rep (c + 1) []).2
      rw [List.replicate_succ] at hr ⊢
      rw [longR, hr]
      by_cases hc : c + 1 > b' - a'
      · rw [if_pos hc] at h ⊢
        rw [h, (longR_rep c (f + 1) f (f + (c + 1)) [] (by omega)).2]
      · rw [if_neg hc] at h ⊢
        rw [h, (longR_rep c (f + 1) a' b' [] (by omega)).2]
  | true :: hs, f, c, a', b', a, b, hab, h => by
    rw [longP, if_neg (by simp)]
    have e : List.replicate c true ++ true :: hs = List.replicate (c + 1) true ++ hs := by
      rw [List.replicate_succ', List.append_assoc]; rfl
    rw [e]
    have e2 : f + c + 1 - f = c + 1 := by omega
    rw [e2]
    by_cases hc : c > b' - a'
    · rw [if_pos hc] at h
      simp only [Prod.mk.injEq] at h
      obtain ⟨rfl, rfl⟩ := h
      rw [if_pos (by omega)]
      exact long_same hs a (c + 1) a' b' _ _ hab (by rw [if_pos (by omega)]; rfl)
    · rw [if_neg hc] at h
      simp only [Prod.mk.injEq] at h
      obtain ⟨rfl, rfl⟩ := h
      by_cases hc2 : c + 1 > b - a
      · rw [if_pos hc2]
        exact long_same hs f (c + 1) a b _ _ hab (by rw [if_pos hc2]; rfl)
      · rw [if_neg hc2]
        exact long_same hs f (c + 1) a b _ _ hab (by rw [if_neg hc2])
  | false :: hs, f, c, a', b', a, b, hab, h => by
    rw [longP, if_pos rfl]
    have ih := long_same hs (f + c + 1) 0 a b a b (by
      split at h
      · simp only [Prod.mk.injEq] at h; omega
      · simp only [Prod.mk.injEq] at h; omega) (by rw [if_neg (by omega)])
    rw [Nat.add_zero] at ih
    rw [ih]
    show longR (f + c + 1) a b hs = _
    cases c with
    | zero =>
      rw [if_neg (by omega)] at h
      simp only [Prod.mk.injEq] at h
      obtain ⟨rfl, rfl⟩ := h
      exact (longR_rep 0 f a b hs (by omega)).1.symm
    | succ c =>
      have hr := (runT_rep (c + 1) hs).1
      rw [List.replicate_succ, List.cons_append] at hr ⊢
      rw [longR, hr]
      by_cases hc : c + 1 > b' - a'
      · rw [if_pos hc] at h ⊢
        simp only [Prod.mk.injEq] at h
        obtain ⟨rfl, rfl⟩ := h
        rw [(longR_rep c (a + 1) a (a + (c + 1)) hs (by omega)).1]
        congr 1; omega
      · rw [if_neg hc] at h ⊢
        simp only [Prod.mk.injEq] at h
        obtain ⟨rfl, rfl⟩ := h
        rw [(longR_rep c (f + 1) a b hs (by omega)).1]
        congr 1; omega

theorem long_eq (hs : List Bool) : longP 0 0 0 0 hs = longR 0 0 0 hs := long_same hs 0 0 0 0 0 0 (Nat.le_refl _) rfl

end Go.Abs
end

section
/- Longest runs of the program and of the reference. -/
set_option linter.unusedVariables false
set_option linter.unusedSimpArgs false
namespace Go.Abs
open Go.Proofs Classical Go.Abs.Fin

/-- Which samples are at least a level. -/
def highs (o : Option Nat) (xs : List (Option Nat)) : List Bool := xs.map fun x => decide (fkey o ≤ fkey x)

theorem highs_len {o : Option Nat} {xs : List (Option Nat)} : (highs o xs).length = xs.length := by simp [highs]

theorem Flos.mem {n : Nat} {cs : List AV} (h : Flos n cs) {i : Nat} (hi : i < n) : (flosOf cs).getD i none ∈ flosOf cs := by
  have h4 := h.len
  rw [List.getD_eq_getElem?_getD, List.getElem?_eq_getElem (by omega)]
  exact List.getElem_mem _

theorem drop_highs {o : Option Nat} {xs : List (Option Nat)} {i : Nat} (h : i < xs.length) : (highs o xs).drop i = decide (fkey o ≤ fkey (xs.getD i none)) :: (highs o xs).drop (i + 1) := by
  unfold highs
  rw [← List.map_drop, ← List.map_drop, drop_cons (d := none) h, List.map_cons]

theorem samp_all {n : Nat} {xs : List (Option Nat)} (h : sampErr n xs = 0) : n ≤ 4096 ∧ ∀ x ∈ xs, finB x = true := by
  unfold sampErr at h
  split at h
  · omega
  · split at h
    · rename_i h1 h2
      exact ⟨by omega, List.all_eq_true.1 h2⟩
    · omega

def longE (n : Nat) (xs : List (Option Nat)) (o : Option Nat) : Int := if sampErr n xs = 0 then (if finB o = true then (if (longR 0 0 0 (highs o xs)).1 = (longR 0 0 0 (highs o xs)).2 then 7 else 0) else 1) else sampErr n xs

def longV (n : Nat) (xs : List (Option Nat)) (o : Option Nat) : Nat × Nat := if sampErr n xs = 0 ∧ finB o = true then longR 0 0 0 (highs o xs) else (0, 0)

theorem run_53' {n : Nat} {cs : List AV} {o : Option Nat} (h : Flos n cs) : (fsM mzC waysP (n + 1) 12).call (List RLeaf) 53 [.ofB (.list n cs), .ofB (.flo .f32 o)] [] (resK [false, false]) =
    some [.v (.agg [.int .i64 ((longV n (flosOf cs) o).1 : Int), .int .i64 ((longV n (flosOf cs) o).2 : Int)]), .v (.int .i64 (longE n (flosOf cs) o))] := by
  rw [run_53]
  simp only [shut_eq, guardO_dec, h, if_true, put2, ints2, firstNZ_2, condO_bne]
  unfold longE longV
  by_cases h0 : sampErr n (flosOf cs) = 0
  case neg =>
    rw [if_neg h0, if_neg h0, if_neg h0, if_neg (fun e => h0 e.1)]
    rfl
  rw [if_pos h0, if_pos h0]
  cases ho : finB o with
  | false =>
    simp [ho, h0]
  | true =>
    simp only [ho, h0, Bool.not_true, Bool.false_eq_true, if_false, if_true, and_self]
    rw [← long_eq]
    obtain ⟨hn, hf⟩ := samp_all h0
    have hl := h.len
    have hcl := h.2.2
    refine loopC_rule (fun k (r : Option Nat → Int → Nat → List AV → Int → Int → Int → Int → Nat → List AV → Int → Int → Option (List RLeaf)) => ∀ (i f a b : Nat) (x6 : Int) (x7 : Int) (x8 : Nat) (x9 : List AV), i + k = n → f ≤ i → a ≤ b → b ≤ i → longP i f a b ((highs o (flosOf cs)).drop i) = longP 0 0 0 0 (highs o (flosOf cs)) →
      r o (f : Int) n cs (n : Int) (i : Int) x6 x7 x8 x9 (a : Int) (b : Int) = some [.v (.agg [.int .i64 ((longP 0 0 0 0 (highs o (flosOf cs))).1 : Int), .int .i64 ((longP 0 0 0 0 (highs o (flosOf cs))).2 : Int)]), .v (.int .i64 (if (longP 0 0 0 0 (highs o (flosOf cs))).1 = (longP 0 0 0 0 (highs o (flosOf cs))).2 then 7 else 0))])
      ?_ (n + 1) n (by omega) 0 0 0 0 _ _ _ _ (by omega) (by omega) (by omega) (by omega) rfl
    intro k r ih i f a b x6 x7 x8 x9 hi hfi hab hbi hL
    by_cases hk : i < n
    · have h2 : 0 < cs.length := by omega
      have hx := hf _ (h.mem hk)
      rw [drop_highs (by omega)] at hL
      generalize hv : (flosOf cs).getD i none = x at hx hL
      have hg : asFloat .f32 (cs.getD i .top) = some x := by rw [h.get hk, hv]
      have w1 : IntKind.i64.wrap ((i : Int) + 1) = ((i + 1 : Nat) : Int) := idx64 h.1 hk
      have w2 : IntKind.i64.wrap (((i + 1 : Nat) : Int) - (f : Int)) = ((i + 1 - f : Nat) : Int) := by rw [wrap64] <;> omega
      have w3 : IntKind.i64.wrap ((b : Int) - (a : Int)) = ((b - a : Nat) : Int) := by rw [wrap64] <;> omega
      have z1 : ((0 : Int) ≤ 1) = True := eq_true (by omega)
      have z2 : ((1 : Int) < 2) = True := eq_true (by omega)
      have z3 : ((0 : Int) < 2) = True := eq_true (by omega)
      simp only [shut_eq, condO_dec, guardO_dec, Int.ofNat_lt, hk, h2, if_true, Int.toNat_natCast, Nat.mul_one, hg, bindO_ok, and_true, true_and, Int.natCast_nonneg, w1, w2, w3, z1, z2, z3, Int.le_refl, blt hx ho, Int.ofNat_lt, gt_iff_lt]
      rw [longP] at hL
      by_cases hlt : fkey x < fkey o
      · rw [if_pos hlt]
        rw [if_pos (decide_eq_false (by omega))] at hL
        exact ih (n - (i + 1)) (by omega) (i + 1) (i + 1) a b x6 x7 x8 x9 (by omega) (by omega) hab (by omega) hL
      · rw [if_neg hlt]
        rw [if_neg (by simp; omega)] at hL
        by_cases hgt : i + 1 - f > b - a
        · rw [if_pos hgt]
          rw [if_pos hgt] at hL
          exact ih (n - (i + 1)) (by omega) (i + 1) f f (i + 1) x6 x7 x8 x9 (by omega) (by omega) (by omega) (by omega) hL
        · rw [if_neg hgt]
          rw [if_neg hgt] at hL
          exact ih (n - (i + 1)) (by omega) (i + 1) f a b x6 x7 x8 x9 (by omega) (by omega) (by omega) (by omega) hL
    · have hnil : (highs o (flosOf cs)).drop i = [] := by rw [List.drop_eq_nil_iff, highs_len]; omega
      rw [hnil] at hL
      simp only [shut_eq, condO_dec, Int.ofNat_lt, hk, if_false, guardO_dec]
      rw [← hL]
      simp only [longP]
      rw [if_pos (by omega), if_pos (by omega)]
      simp only [beq_iff_eq, Int.ofNat_inj]
      by_cases e : a = b <;> simp only [e, if_true, if_false]

theorem run_56' {n : Nat} {cs : List AV} {o : Option Nat} (h : Flos n cs) (h0 : sampErr n (flosOf cs) = 0) (ho : finB o = true) : (fsM mzC waysP (n + 1) 12).call (List RLeaf) 56 [.ofB (.list n cs), .ofB (.flo .f32 o)] [] (resK [false, false]) =
    some [.v (.agg [.int .i64 ((longR 0 0 0 (highs o (flosOf cs))).1 : Int), .int .i64 ((longR 0 0 0 (highs o (flosOf cs))).2 : Int)]), .v (.bool (decide ((longR 0 0 0 (highs o (flosOf cs))).2 > (longR 0 0 0 (highs o (flosOf cs))).1)))] := by
  rw [run_56]
  obtain ⟨hn, hf⟩ := samp_all h0
  have hl := h.len
  have hcl := h.2.2
  have z1 : ((0 : Int) ≤ 1) = True := eq_true (by omega)
  have z2 : ((1 : Int) < 2) = True := eq_true (by omega)
  have z3 : ((0 : Int) < 2) = True := eq_true (by omega)
  refine loopC_rule (fun k (r : Nat → List AV → Option Nat → Int → Int → Int → Int → Int → Option (List RLeaf)) => ∀ (i a b : Nat) (x4 : Int) (x5 : Int), i + k = n → a ≤ b → b ≤ n → longR i a b ((highs o (flosOf cs)).drop i) = longR 0 0 0 (highs o (flosOf cs)) →
    r n cs o (i : Int) x4 x5 (a : Int) (b : Int) = some [.v (.agg [.int .i64 ((longR 0 0 0 (highs o (flosOf cs))).1 : Int), .int .i64 ((longR 0 0 0 (highs o (flosOf cs))).2 : Int)]), .v (.bool (decide ((longR 0 0 0 (highs o (flosOf cs))).2 > (longR 0 0 0 (highs o (flosOf cs))).1)))])
    ?_ (n + 1) n (by omega) 0 0 0 _ _ (by omega) (by omega) (by omega) rfl
  intro k r ih i a b x4 x5 hi hab hbn hL
  by_cases hk : i < n
  · simp only [shut_eq, condO_dec, Int.ofNat_lt, hk, if_true]
    refine loopC_rule (fun k (r2 : Nat → List AV → Option Nat → Int → Int → Int → Int → Int → Int → Option (List RLeaf)) => ∀ (j : Nat), i ≤ j → j + k = n → j - i + runT ((highs o (flosOf cs)).drop j) = runT ((highs o (flosOf cs)).drop i) →
      r2 n cs o (i : Int) (j : Int) x4 x5 (a : Int) (b : Int) = some [.v (.agg [.int .i64 ((longR 0 0 0 (highs o (flosOf cs))).1 : Int), .int .i64 ((longR 0 0 0 (highs o (flosOf cs))).2 : Int)]), .v (.bool (decide ((longR 0 0 0 (highs o (flosOf cs))).2 > (longR 0 0 0 (highs o (flosOf cs))).1)))])
      ?_ (n + 1) (n - i) (by omega) i (by omega) (by omega) (by omega)
    intro k r2 ih2 j hij hjk hrun
    have w1 : IntKind.i64.wrap ((i : Int) + 1) = ((i + 1 : Nat) : Int) := idx64 h.1 hk
    have w2 : IntKind.i64.wrap ((j : Int) - (i : Int)) = ((j - i : Nat) : Int) := by rw [wrap64] <;> omega
    have w3 : IntKind.i64.wrap ((b : Int) - (a : Int)) = ((b - a : Nat) : Int) := by rw [wrap64] <;> omega
    have stop : runT ((highs o (flosOf cs)).drop j) = 0 → (if j - i > b - a then r n cs o ((i + 1 : Nat) : Int) x4 x5 (i : Int) (j : Int) else r n cs o ((i + 1 : Nat) : Int) x4 x5 (a : Int) (b : Int)) =
        some [.v (.agg [.int .i64 ((longR 0 0 0 (highs o (flosOf cs))).1 : Int), .int .i64 ((longR 0 0 0 (highs o (flosOf cs))).2 : Int)]), .v (.bool (decide ((longR 0 0 0 (highs o (flosOf cs))).2 > (longR 0 0 0 (highs o (flosOf cs))).1)))] := by
      intro hz
      rw [hz, Nat.add_zero] at hrun
      rw [drop_highs (by omega)] at hL hrun
      rw [longR, ← hrun] at hL
      by_cases hc : j - i > b - a
      · rw [if_pos hc] at hL ⊢
        rw [show i + (j - i) = j by omega] at hL
        exact ih (n - (i + 1)) (by omega) (i + 1) i j x4 x5 (by omega) (by omega) (by omega) hL
      · rw [if_neg hc] at hL ⊢
        exact ih (n - (i + 1)) (by omega) (i + 1) a b x4 x5 (by omega) (by omega) (by omega) hL
    simp only [joinC_pos (show 0 < n + 1 by omega), shut_eq, condO_dec, guardO_dec, Int.ofNat_lt, w1, w2, w3, z1, z2, z3, Int.le_refl, and_true, true_and, if_true, gt_iff_lt]
    by_cases hjn : j < n
    · have h2 : 0 < cs.length := by omega
      have hx := hf _ (h.mem hjn)
      rw [drop_highs (i := j) (by omega)] at hrun stop
      generalize hv : (flosOf cs).getD j none = x at hx hrun stop
      have hg : asFloat .f32 (cs.getD j .top) = some x := by rw [h.get hjn, hv]
      simp only [hjn, if_true, h2, Int.natCast_nonneg, true_and, Int.toNat_natCast, Nat.mul_one, hg, bindO_ok, and_true]
      by_cases hge : fkey o ≤ fkey x
      · have e : (ordO .f32 x o == some .gt || ordO .f32 x o == some .eq) = true := by
          rw [bgt hx ho, beqk hx ho]
          simp only [Bool.or_eq_true, decide_eq_true_eq]; omega
        rw [e]
        show r2 _ _ _ _ _ _ _ _ _ = _
        rw [idx64 h.1 hjn]
        rw [decide_eq_true hge, runT] at hrun
        exact ih2 (n - (j + 1)) (by omega) (j + 1) (by omega) (by omega) (by omega)
      · have e : (ordO .f32 x o == some .gt || ordO .f32 x o == some .eq) = false := by
          rw [bgt hx ho, beqk hx ho]
          simp only [Bool.or_eq_false_iff, decide_eq_false_iff_not]; omega
        rw [e]
        rw [decide_eq_false hge] at stop
        exact stop rfl
    · have hnil : (highs o (flosOf cs)).drop j = [] := by rw [List.drop_eq_nil_iff, highs_len]; omega
      rw [if_neg hjn]
      exact stop (by rw [hnil]; rfl)
  · have hnil : (highs o (flosOf cs)).drop i = [] := by rw [List.drop_eq_nil_iff, highs_len]; omega
    rw [hnil] at hL
    simp only [shut_eq, condO_dec, Int.ofNat_lt, hk, if_false, guardO_dec, z1, z2, z3, Int.le_refl, and_true, true_and, if_true]
    rw [← hL]
    simp only [longR, gt_iff_lt, Int.ofNat_lt]

end Go.Abs
end

