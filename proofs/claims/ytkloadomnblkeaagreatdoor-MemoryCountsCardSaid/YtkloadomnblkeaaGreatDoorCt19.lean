/- Part 19 of the library that the proof of the statement uses: an abstract run of the program, proved right, and what its functions give. -/
import Derived.Test.YtkloadomnblkeaaGreatDoorCt18
set_option linter.unusedVariables false
set_option linter.unusedSimpArgs false

section
/- Bins. -/
set_option linter.unusedVariables false
set_option linter.unusedSimpArgs false
namespace Go.Abs
open Go.Proofs Classical Go.Abs.Fin

def leO (x y : Option Nat) : Bool := ordO .f32 x y == some .lt || ordO .f32 x y == some .eq
def geO (x y : Option Nat) : Bool := ordO .f32 x y == some .gt || ordO .f32 x y == some .eq

/-- The error of limits behind one. -/
def limE : Option (Option Nat) → List (Option Nat) → Int
  | _, [] => 0
  | p, x :: xs => if finB x = true then (if (match p with | some y => leO x y | none => false) = true then 11 else limE (some x) xs) else 1

theorem limE_cons (p : Option (Option Nat)) (x : Option Nat) (xs : List (Option Nat)) : limE p (x :: xs) = if finB x = true then (if (match p with | some y => leO x y | none => false) = true then 11 else limE (some x) xs) else 1 := by cases p <;> rfl

def limC (m : Nat) (xs : List (Option Nat)) : Int := if m = 0 then 12 else if m > 64 then 5 else limE none xs

def prevO (xs : List (Option Nat)) (i : Nat) : Option (Option Nat) := if i = 0 then none else some (xs.getD (i - 1) none)

theorem prevO_succ (xs : List (Option Nat)) (i : Nat) : prevO xs (i + 1) = some (xs.getD i none) := by
  unfold prevO; rw [if_neg (by omega), Nat.add_sub_cancel]

theorem prevB (xs : List (Option Nat)) (i : Nat) (x : Option Nat) : (match prevO xs i with | some y => leO x y | none => false) = (decide ((i : Int) > 0) && leO x (xs.getD (i - 1) none)) := by
  unfold prevO
  by_cases h : i = 0
  · subst h; rfl
  · rw [if_neg h, decide_eq_true (show (i : Int) > 0 by omega)]; rfl

theorem run_57' {m : Nat} {ds : List AV} (h : Flos m ds) : (fsM mzC waysP (m + 1) 12).call (List RLeaf) 57 [.ofB (.list m ds)] [] (resK [false]) = some [.v (.int .i64 (limC m (flosOf ds)))] := by
  rw [run_57]
  have hl := h.len
  have hcl := h.2.2
  simp only [shut_eq, condO_dec, condO_beq, limC]
  by_cases c1 : m = 0
  · rw [if_pos (by omega), if_pos c1]
  rw [if_neg (by omega), if_neg c1]
  by_cases c2 : m > 64
  · rw [if_pos (by omega), if_pos c2]
  rw [if_neg (by omega), if_neg c2]
  refine loopC_rule (fun k (r : Nat → List AV → Int → Option (List RLeaf)) => ∀ (i : Nat), i + k = m → r m ds (i : Int) = some [.v (.int .i64 (limE (prevO (flosOf ds) i) ((flosOf ds).drop i)))]) ?_ (m + 1) m (by omega) 0 (by omega)
  intro k r ih i hi
  by_cases hk : i < m
  · have h2 : 0 < ds.length := by omega
    rw [drop_cons (d := none) (show i < (flosOf ds).length by omega), limE_cons]
    have e := ih (m - (i + 1)) (by omega) (i + 1) (by omega)
    rw [prevO_succ] at e
    generalize hv : (flosOf ds).getD i none = x at e ⊢
    have hg : asFloat .f32 (ds.getD i .top) = some x := by rw [h.get hk, hv]
    simp only [joinC_pos (show 0 < m + 1 by omega), shut_eq, condO_dec, condO_not, guardO_dec, Int.ofNat_lt, hk, h2, if_true, Int.toNat_natCast, Nat.mul_one, hg, bindO_ok, and_true, true_and, Int.natCast_nonneg, idx64 h.1 hk, e]
    cases finB x with
    | false => simp
    | true =>
      simp only [if_true]
      by_cases h0 : i = 0
      · rw [if_neg (by omega)]
        unfold prevO
        rw [if_pos h0]
        rfl
      · have w1 : IntKind.i64.wrap ((i : Int) - 1) = ((i - 1 : Nat) : Int) := by rw [wrap64] <;> omega
        rw [if_pos (by omega)]
        unfold prevO
        rw [if_neg h0]
        simp only [w1, Int.natCast_nonneg, true_and, Int.ofNat_lt, show i - 1 < m by omega, if_true, Int.toNat_natCast, h.get (show i - 1 < m by omega), bindO_ok, condO_bool]
        rw [show (ordO .f32 x ((flosOf ds).getD (i - 1) none) == some .lt || ordO .f32 x ((flosOf ds).getD (i - 1) none) == some .eq) = leO x ((flosOf ds).getD (i - 1) none) from rfl]
        by_cases hle : leO x ((flosOf ds).getD (i - 1) none) = true <;> simp only [hle, Bool.false_eq_true, if_true, if_false]
  · have hnil : (flosOf ds).drop i = [] := by rw [List.drop_eq_nil_iff]; omega
    simp only [shut_eq, condO_dec, Int.ofNat_lt, hk, if_false, hnil, limE]

/-- The bin of a sample. -/
def binK (x : Option Nat) : List (Option Nat) → Nat
  | [] => 0
  | l :: ls => if geO x l = true then binK x ls + 1 else 0

theorem binK_le (x : Option Nat) : ∀ ls : List (Option Nat), binK x ls ≤ ls.length
  | [] => Nat.le_refl _
  | l :: ls => by
    have := binK_le x ls
    simp only [binK, List.length_cons]
    split <;> omega

def histF (ls : List (Option Nat)) (acc : List Int) : List (Option Nat) → List Int
  | [] => acc
  | x :: xs => histF ls (acc.set (binK x ls) (acc.getD (binK x ls) 0 + 1)) xs

theorem histF_len (ls : List (Option Nat)) : ∀ (xs : List (Option Nat)) (acc : List Int), (histF ls acc xs).length = acc.length
  | [], acc => rfl
  | x :: xs, acc => by rw [histF, histF_len ls xs]; simp

theorem put_nums {k : IntKind} : ∀ {l : List Int} {i : Nat} {v : Int}, putCells (numsL k l) i [AV.int k v] = numsL k (l.set i v) := by
  intro l i v
  simp [putCells, numsL, List.map_set]

theorem zrow_nums (n : Nat) : zrow (ofV (Go.Value.int IntKind.i64 (0 : Int))).cells n = numsL .i64 (List.replicate n 0) := by
  rw [show (ofV (Go.Value.int IntKind.i64 (0 : Int))).cells = [AV.int .i64 0] from rfl, zrow1]
  simp [numsL]

theorem nums_get {k : IntKind} {l : List Int} {i : Nat} (h : i < l.length) : asInt k ((numsL k l).getD i .top) = some (l.getD i 0) := by
  simp [numsL, List.getD, h, asInt]

theorem getD_mem {l : List Int} {i : Nat} (h : i < l.length) : l.getD i 0 ∈ l := by
  rw [List.getD_eq_getElem?_getD, List.getElem?_eq_getElem h]; exact List.getElem_mem _

theorem set_small {l : List Int} {i : Nat} {v b : Int} (hl : ∀ z ∈ l, 0 ≤ z ∧ z ≤ b) (hv : 0 ≤ v ∧ v ≤ b + 1) : ∀ z ∈ l.set i v, 0 ≤ z ∧ z ≤ b + 1 := by
  intro z hz
  rcases List.mem_or_eq_of_mem_set hz with hz | rfl
  · have := hl z hz; omega
  · exact hv

def histE (n : Nat) (xs : List (Option Nat)) (m : Nat) (ls : List (Option Nat)) : Int := if sampErr n xs = 0 then limC m ls else sampErr n xs
def histV (n : Nat) (xs : List (Option Nat)) (m : Nat) (ls : List (Option Nat)) : List Int := if histE n xs m ls = 0 then histF ls (List.replicate (m + 1) 0) xs else []

theorem run_58' {n m : Nat} {cs ds : List AV} (h : Flos n cs) (h' : Flos m ds) (hn : n ≤ 4096) (hm : m ≤ 64) : (fsM mzC waysP (n + m + 2) 12).call (List RLeaf) 58 [.ofB (.list n cs), .ofB (.list m ds)] [] (resK [true]) =
    some [.fz (m + 1) (numsL .i64 (histF (flosOf ds) (List.replicate (m + 1) 0) (flosOf cs)))] := by
  rw [run_58]
  have hl := h.len
  have hcl := h.2.2
  have hl' := h'.len
  have hcl' := h'.2.2
  have w0 : IntKind.i64.wrap ((m : Int) + 1) = ((m + 1 : Nat) : Int) := by rw [wrap64] <;> omega
  simp only [shut_eq, guardO_dec, w0, Int.toNat_natCast, Nat.mul_one, zrow_nums]
  rw [if_pos (by omega)]
  refine loopC_rule (fun k (r : Nat → List AV → Nat → List AV → Int → Nat → List AV → Nat → List AV → Option (List RLeaf)) => ∀ (i : Nat) (acc : List Int) (x5 : Nat) (x6 : List AV), i + k = n → acc.length = m + 1 → (∀ z ∈ acc, 0 ≤ z ∧ z ≤ (i : Int)) →
    r n cs m ds (i : Int) x5 x6 (m + 1) (numsL .i64 acc) = some [.fz (m + 1) (numsL .i64 (histF (flosOf ds) acc ((flosOf cs).drop i)))]) ?_ (n + m + 2) n (by omega) 0 _ _ _ (by omega) (by simp) (by intro z hz; have := List.eq_of_mem_replicate hz; omega)
  intro k r ih i acc x5 x6 hi ha hs
  by_cases hk : i < n
  · rw [drop_cons (d := none) (show i < (flosOf cs).length by omega), histF]
    simp only [shut_eq, condO_dec, Int.ofNat_lt, hk, if_true]
    generalize hv : (flosOf cs).getD i none = x
    have hg : asFloat .f32 (cs.getD i .top) = some x := by rw [h.get hk, hv]
    have z1 : 0 < cs.length := by omega
    refine loopC_rule (fun k (r2 : Nat → List AV → Nat → List AV → Int → Int → Nat → List AV → Nat → List AV → Option (List RLeaf)) => ∀ (j : Nat), j + k = m → j + binK x ((flosOf ds).drop j) = binK x (flosOf ds) →
      r2 n cs m ds (i : Int) (j : Int) x5 x6 (m + 1) (numsL .i64 acc) = some [.fz (m + 1) (numsL .i64 (histF (flosOf ds) (acc.set (binK x (flosOf ds)) (acc.getD (binK x (flosOf ds)) 0 + 1)) ((flosOf cs).drop (i + 1))))]) ?_ (n + m + 2) m (by omega) 0 (by omega) (by simp)
    intro k r2 ih2 j hjk hb
    have stop : j = binK x (flosOf ds) → (if j < m + 1 then (if j < m + 1 then (if j + 1 ≤ (numsL .i64 acc).length then r n cs m ds ((i + 1 : Nat) : Int) x5 x6 (m + 1) (putCells (numsL .i64 acc) j [AV.int .i64 (IntKind.i64.wrap (acc.getD j 0 + 1))]) else none) else none) else none) =
        some [.fz (m + 1) (numsL .i64 (histF (flosOf ds) (acc.set (binK x (flosOf ds)) (acc.getD (binK x (flosOf ds)) 0 + 1)) ((flosOf cs).drop (i + 1))))] := by
      intro hj
      have hle := binK_le x (flosOf ds)
      have hjm : j < acc.length := by omega
      have hm := hs _ (getD_mem hjm)
      rw [if_pos (by omega), if_pos (by omega), if_pos (by rw [numsL_len]; omega), wrap64 (by omega) (by omega), put_nums, ← hj]
      exact ih (n - (i + 1)) (by omega) (i + 1) _ x5 x6 (by omega) (by simp [ha]) (by have := set_small (i := j) (v := acc.getD j 0 + 1) hs (by omega); simpa using this)
    have hjm : j < acc.length := by omega
    simp only [joinC_pos (show 0 < n + m + 2 by omega), shut_eq, condO_dec, guardO_dec, Int.ofNat_lt, Int.natCast_nonneg, true_and, and_true, Int.toNat_natCast, Nat.mul_one, hk, z1, if_true, idx64 (show n < 9223372036854775808 by omega) hk, hg, bindO_ok, nums_get hjm, Bool.false_and, Bool.not_false, guardO]
    by_cases hj : j < m
    · have z2 : 0 < ds.length := by omega
      rw [drop_cons (d := none) (show j < (flosOf ds).length by omega), binK] at hb
      generalize hv2 : (flosOf ds).getD j none = y at hb
      have hg2 : asFloat .f32 (ds.getD j .top) = some y := by rw [h'.get hj, hv2]
      simp only [hj, z2, if_true, hg2, bindO_ok, and_self]
      by_cases hge : geO x y = true
      · rw [if_pos hge] at hb
        have hge' : (ordO .f32 x y == some .gt || ordO .f32 x y == some .eq) = true := hge
        rw [hge', condO_tx, wrap64 (by omega) (by omega), show ((j : Int) + 1) = ((j + 1 : Nat) : Int) by omega]
        exact ih2 (m - (j + 1)) (by omega) (j + 1) (by omega) (by omega)
      · rw [if_neg hge] at hb
        have hge' : (ordO .f32 x y == some .gt || ordO .f32 x y == some .eq) = false := by simpa [geO] using hge
        rw [hge', condO_fx]
        exact stop (by omega)
    · have hnil : (flosOf ds).drop j = [] := by rw [List.drop_eq_nil_iff]; omega
      rw [hnil, binK] at hb
      rw [if_neg hj, condO_fx]
      exact stop (by omega)
  · have hnil : (flosOf cs).drop i = [] := by rw [List.drop_eq_nil_iff]; omega
    simp only [shut_eq, condO_dec, Int.ofNat_lt, hk, if_false, hnil, histF]

theorem run_54' {n m : Nat} {cs ds : List AV} (h : Flos n cs) (h' : Flos m ds) : (fsM mzC waysP (n + m + 2) 12).call (List RLeaf) 54 [.ofB (.list n cs), .ofB (.list m ds)] [] (resK [true, false]) =
    some [.fz (histV n (flosOf cs) m (flosOf ds)).length (numsL .i64 (histV n (flosOf cs) m (flosOf ds))), .v (.int .i64 (histE n (flosOf cs) m (flosOf ds)))] := by
  rw [run_54]
  have hl := h.len
  have hcl := h.2.2
  have hl' := h'.len
  have hcl' := h'.2.2
  simp only [shut_eq, guardO_dec, h, put3n, ints3n, if_true, firstNZ_3, condO_bne, put2, ints2, firstNZ_2]
  by_cases s0 : sampErr n (flosOf cs) = 0
  case neg =>
    have e : histE n (flosOf cs) m (flosOf ds) = sampErr n (flosOf cs) := if_neg s0
    unfold histV
    rw [e, if_neg s0, if_neg s0, if_neg s0]
    rfl
  obtain ⟨hn, hf⟩ := samp_all s0
  have e0 : histE n (flosOf cs) m (flosOf ds) = limC m (flosOf ds) := if_pos s0
  unfold histV
  rw [e0, if_pos s0]
  unfold limC
  by_cases c1 : m = 0
  · have : ((m : Int) == 0) = true := beq_iff_eq.2 (by omega)
    simp only [this, if_true, c1]
    rfl
  have d1 : ((m : Int) == 0) = false := beq_eq_false_iff_ne.2 (by omega)
  by_cases c2 : m > 64
  · have : decide ((m : Int) > 64) = true := decide_eq_true (by omega)
    simp only [this, if_true, c1, c2, d1, Bool.false_eq_true, if_false]
    rfl
  have d2 : decide ((m : Int) > 64) = false := decide_eq_false (by omega)
  simp only [d1, d2, c1, c2, Bool.false_eq_true, if_false, if_true]
  refine loopC_rule (fun k (r : Nat → List AV → Nat → List AV → Nat → List AV → Int → Int → Nat → List AV → Nat → List AV → Option (List RLeaf)) => ∀ (i : Nat) (x8 : Nat) (x9 : List AV) (x10 : Nat) (x11 : List AV), i + k = m → limE (prevO (flosOf ds) i) ((flosOf ds).drop i) = limE none (flosOf ds) →
    r n cs m ds m ds (m : Int) (i : Int) x8 x9 x10 x11 = some [.fz (if limE none (flosOf ds) = 0 then histF (flosOf ds) (List.replicate (m + 1) 0) (flosOf cs) else []).length (numsL .i64 (if limE none (flosOf ds) = 0 then histF (flosOf ds) (List.replicate (m + 1) 0) (flosOf cs) else [])), .v (.int .i64 (limE none (flosOf ds)))]) ?_ (n + m + 2) m (by omega) 0 _ _ _ _ (by omega) rfl
  intro k r ih i x8 x9 x10 x11 hi hL
  by_cases hk : i < m
  · have h2 : 0 < ds.length := by omega
    rw [drop_cons (d := none) (show i < (flosOf ds).length by omega), limE_cons] at hL
    have e := ih (m - (i + 1)) (by omega) (i + 1) x8 x9 x10 x11 (by omega)
    rw [prevO_succ] at e
    generalize hv : (flosOf ds).getD i none = x at e hL
    have hg : asFloat .f32 (ds.getD i .top) = some x := by rw [h'.get hk, hv]
    have wm : IntKind.i64.wrap ((i : Int) - 1) = (i : Int) - 1 := by rw [wrap64] <;> omega
    have e1 : (if (i : Int) - 1 > 0 then (i : Int) - 1 else 0) = ((i - 1 : Nat) : Int) := by split <;> omega
    rw [prevB] at hL
    have hle : ∀ y, (ordO .f32 x y == some .lt || ordO .f32 x y == some .eq) = leO x y := fun _ => rfl
    simp only [shut_eq, condO_dec, guardO_dec, Int.ofNat_lt, hk, h2, if_true, Int.toNat_natCast, Nat.mul_one, hg, bindO_ok, and_true, true_and, Int.natCast_nonneg, wm, e1, show i - 1 < m by omega, h'.get (show i - 1 < m by omega), condO_sf, idx64 h'.1 hk, hle]
    have his : ∀ a : Bool, (if (i : Int) > 0 then some a else some false) = some (decide ((i : Int) > 0) && a) := by
      intro a
      by_cases h0 : (i : Int) > 0
      · rw [if_pos h0, decide_eq_true h0]; rfl
      · rw [if_neg h0, decide_eq_false h0]; rfl
    rw [his, bindO_ok]
    generalize (decide ((i : Int) > 0) && leO x ((flosOf ds).getD (i - 1) none)) = v7 at hL ⊢
    have z1 : ((1 : Int) = 0) = False := eq_false (by omega)
    have z11 : ((11 : Int) = 0) = False := eq_false (by omega)
    cases hfx : finB x with
    | false =>
      simp only [hfx, Bool.false_eq_true, if_false] at hL
      rw [← hL]
      simp only [Bool.not_false, if_true, z1, if_false]
      rfl
    | true =>
      simp only [hfx, if_true] at hL
      cases v7 with
      | true =>
        simp only [if_true] at hL
        rw [← hL]
        simp only [Bool.not_true, Bool.false_eq_true, if_false, if_true, z11]
        rfl
      | false =>
        simp only [Bool.false_eq_true, if_false] at hL
        simp only [Bool.not_true, Bool.false_eq_true, if_false, if_true]
        exact e hL
  · have hnil : (flosOf ds).drop i = [] := by rw [List.drop_eq_nil_iff]; omega
    rw [hnil] at hL
    have hL0 : limE none (flosOf ds) = 0 := hL.symm
    have w0 : IntKind.i64.wrap ((m : Int) + 1) = ((m + 1 : Nat) : Int) := by rw [wrap64] <;> omega
    simp only [shut_eq, condO_dec, Int.ofNat_lt, hk, if_false, guardO_dec, w0, Int.toNat_natCast, Nat.mul_one, zrow_nums, hL0, if_true]
    rw [if_pos (by omega)]
    refine (loopC_rule (fun k (r : Nat → List AV → Nat → List AV → Int → Int → Nat → List AV → Nat → List AV → Nat → List AV → Option (List RLeaf)) => ∀ (i : Nat) (acc : List Int), i + k = n → acc.length = m + 1 → (∀ z ∈ acc, 0 ≤ z ∧ z ≤ (i : Int)) →
      r m ds n cs (n : Int) (i : Int) x8 x9 x10 x11 (m + 1) (numsL .i64 acc) = some [.fz (m + 1) (numsL .i64 (histF (flosOf ds) acc ((flosOf cs).drop i))), .v (.int .i64 0)]) ?_ (n + m + 2) n (by omega) 0 _ (by omega) (by simp) (by intro z hz; have := List.eq_of_mem_replicate hz; omega)).trans (by rw [histF_len, List.length_replicate]; rfl)
    intro k r ih i acc hi ha hs
    by_cases hk : i < n
    · rw [drop_cons (d := none) (show i < (flosOf cs).length by omega), histF]
      generalize hv : (flosOf cs).getD i none = x
      have hg : asFloat .f32 (cs.getD i .top) = some x := by rw [h.get hk, hv]
      have z1 : 0 < cs.length := by omega
      simp only [Int.ofNat_lt, hk, if_true, Int.natCast_nonneg, true_and, z1, and_true, Int.toNat_natCast, hg, bindO_ok]
      refine loopC_rule (fun k (r2 : Nat → List AV → Option Nat → Int → Nat → List AV → Int → Int → Nat → List AV → Nat → List AV → Nat → List AV → Option (List RLeaf)) => ∀ (j : Nat), j + k = m → j + binK x ((flosOf ds).drop j) = binK x (flosOf ds) →
        r2 m ds x (j : Int) n cs (n : Int) (i : Int) x8 x9 x10 x11 (m + 1) (numsL .i64 acc) = some [.fz (m + 1) (numsL .i64 (histF (flosOf ds) (acc.set (binK x (flosOf ds)) (acc.getD (binK x (flosOf ds)) 0 + 1)) ((flosOf cs).drop (i + 1)))), .v (.int .i64 0)]) ?_ (n + m + 2) m (by omega) 0 (by omega) (by simp)
      intro k r2 ih2 j hjk hb
      have stop : j = binK x (flosOf ds) → (if j < m + 1 then (if j < m + 1 then (if j + 1 ≤ (numsL .i64 acc).length then r m ds n cs (n : Int) ((i + 1 : Nat) : Int) x8 x9 x10 x11 (m + 1) (putCells (numsL .i64 acc) j [AV.int .i64 (IntKind.i64.wrap (acc.getD j 0 + 1))]) else none) else none) else none) =
          some [.fz (m + 1) (numsL .i64 (histF (flosOf ds) (acc.set (binK x (flosOf ds)) (acc.getD (binK x (flosOf ds)) 0 + 1)) ((flosOf cs).drop (i + 1)))), .v (.int .i64 0)] := by
        intro hj
        have hle := binK_le x (flosOf ds)
        have hjm : j < acc.length := by omega
        have hm := hs _ (getD_mem hjm)
        rw [if_pos (by omega), if_pos (by omega), if_pos (by rw [numsL_len]; omega), wrap64 (by omega) (by omega), put_nums, ← hj]
        exact ih (n - (i + 1)) (by omega) (i + 1) _ (by omega) (by simp [ha]) (by have := set_small (i := j) (v := acc.getD j 0 + 1) hs (by omega); simpa using this)
      have hjm : j < acc.length := by omega
      have hjm1 : j < m + 1 := by omega
      simp only [shut_eq, condO_dec, guardO_dec, Int.ofNat_lt, Int.natCast_nonneg, true_and, and_true, Int.toNat_natCast, Nat.mul_one, if_true, idx64 (show n < 9223372036854775808 by omega) hk, bindO_ok, nums_get hjm, Bool.false_and, Bool.not_false, guardO]
      by_cases hj : j < m
      · have z2 : 0 < ds.length := by omega
        rw [drop_cons (d := none) (show j < (flosOf ds).length by omega), binK] at hb
        generalize hv2 : (flosOf ds).getD j none = y at hb
        have hg2 : asFloat .f32 (ds.getD j .top) = some y := by rw [h'.get hj, hv2]
        simp only [hj, z2, if_true, hg2, bindO_ok, and_self]
        by_cases hge : geO x y = true
        · rw [if_pos hge] at hb
          have hge' : (ordO .f32 x y == some .gt || ordO .f32 x y == some .eq) = true := hge
          rw [hge', condO_tx, wrap64 (by omega) (by omega), show ((j : Int) + 1) = ((j + 1 : Nat) : Int) by omega]
          exact ih2 (m - (j + 1)) (by omega) (j + 1) (by omega) (by omega)
        · rw [if_neg hge] at hb
          have hge' : (ordO .f32 x y == some .gt || ordO .f32 x y == some .eq) = false := by simpa [geO] using hge
          rw [hge', condO_fx]
          exact stop (by omega)
      · have hnil : (flosOf ds).drop j = [] := by rw [List.drop_eq_nil_iff]; omega
        rw [hnil, binK] at hb
        rw [if_neg hj, bindO_ok, condO_fx]
        exact stop (by omega)
    · have hnil : (flosOf cs).drop i = [] := by rw [List.drop_eq_nil_iff]; omega
      simp only [Int.ofNat_lt, hk, if_false, hnil, histF]

end Go.Abs
end

section
/- Extremes of columns. -/
set_option linter.unusedVariables false
set_option linter.unusedSimpArgs false
namespace Go.Abs
open Go.Proofs Classical Go.Abs.Fin

/-- The least of samples; the greatest. -/
def extV (c : Ordering) : Option Nat → List (Option Nat) → Option Nat
  | p, [] => p
  | p, x :: xs => extV c (if ordO .f32 x p = some c then x else p) xs

/-- Its first index. -/
def extI (c : Ordering) (l : List (Option Nat)) : Nat → Nat → List (Option Nat) → Nat
  | _, b, [] => b
  | i, b, x :: xs => if ordO .f32 x (l.getD b none) = some c then extI c l (i + 1) i xs else extI c l (i + 1) b xs

theorem ext_VI (c : Ordering) (l : List (Option Nat)) : ∀ (k i b : Nat), l.length - i = k → extV c (l.getD b none) (l.drop i) = l.getD (extI c l i b (l.drop i)) none
  | 0, i, b, h => by
    have : l.drop i = [] := by rw [List.drop_eq_nil_iff]; omega
    rw [this]; rfl
  | k + 1, i, b, h => by
    rw [drop_cons (d := none) (show i < l.length by omega), extV, extI]
    split
    · exact ext_VI c l k (i + 1) i (by omega)
    · exact ext_VI c l k (i + 1) b (by omega)

/-- What the index is: before none is as great (as little), behind none more so. -/
def sgnC (c : Ordering) (x : Int) : Int := if c = .lt then x else -x

theorem ord_sgn {c : Ordering} (hc : c = .lt ∨ c = .gt) {x y : Option Nat} (hx : finB x = true) (hy : finB y = true) : ordO .f32 x y = some c ↔ sgnC c (fkey x) < sgnC c (fkey y) := by
  rcases hc with rfl | rfl
  · rw [ord_lt hx hy]; simp [sgnC]
  · rw [ord_gt hx hy]; simp only [sgnC, reduceCtorEq, if_false]; omega

theorem extI_spec {c : Ordering} (hc : c = .lt ∨ c = .gt) {l : List (Option Nat)} (hf : ∀ x ∈ l, finB x = true) : ∀ (k i b : Nat), l.length - i = k → i ≤ l.length → b < l.length →
    (∀ j, j < i → sgnC c (fkey (l.getD b none)) ≤ sgnC c (fkey (l.getD j none))) → (∀ j, j < b → j < i → sgnC c (fkey (l.getD b none)) < sgnC c (fkey (l.getD j none))) → (b < i ∨ (i = 0 ∧ b = 0)) →
    extI c l i b (l.drop i) < l.length ∧ (∀ j, j < l.length → sgnC c (fkey (l.getD (extI c l i b (l.drop i)) none)) ≤ sgnC c (fkey (l.getD j none))) ∧ (∀ j, j < extI c l i b (l.drop i) → sgnC c (fkey (l.getD (extI c l i b (l.drop i)) none)) < sgnC c (fkey (l.getD j none)))
  | 0, i, b, hk, hi, hb, h1, h2, h3 => by
    have : l.drop i = [] := by rw [List.drop_eq_nil_iff]; omega
    rw [this]
    exact ⟨hb, fun j hj => h1 j (by omega), fun j (hj : j < b) => h2 j hj (by omega)⟩
  | k + 1, i, b, hk, hi, hb, h1, h2, h3 => by
    have hil : i < l.length := by omega
    have fm : ∀ j, j < l.length → finB (l.getD j none) = true := fun j hj => by
      rw [List.getD_eq_getElem?_getD, List.getElem?_eq_getElem hj]; exact hf _ (List.getElem_mem _)
    rw [drop_cons (d := none) hil, extI]
    have ho := ord_sgn hc (fm i hil) (fm b hb)
    split
    · rename_i hlt
      have hlt := ho.1 hlt
      refine extI_spec hc hf k (i + 1) i (by omega) (by omega) hil ?_ ?_ (.inl (by omega))
      · intro j hj
        by_cases e : j = i
        · subst e; exact Int.le_refl _
        · have := h1 j (by omega); omega
      · intro j hj _
        have := h1 j hj; omega
    · rename_i hlt
      have hlt : ¬ sgnC c (fkey (l.getD i none)) < sgnC c (fkey (l.getD b none)) := fun h => hlt (ho.2 h)
      refine extI_spec hc hf k (i + 1) b (by omega) (by omega) hb ?_ ?_ (.inl (by omega))
      · intro j hj
        by_cases e : j = i
        · subst e; omega
        · exact h1 j (by omega)
      · intro j hj hj2
        by_cases e : j = i
        · rcases h3 with h3 | h3 <;> omega
        · exact h2 j hj (by omega)

/-- The first index of a value. -/
def firstI (f : Option Nat) : List (Option Nat) → Nat
  | [] => 0
  | x :: xs => if ordO .f32 x f = some .eq then 0 else firstI f xs + 1

theorem firstI_of {f : Option Nat} : ∀ (l : List (Option Nat)) (b : Nat), b < l.length → ordO .f32 (l.getD b none) f = some .eq → (∀ j, j < b → ordO .f32 (l.getD j none) f ≠ some .eq) → firstI f l = b
  | [], b, h, _, _ => by simp at h
  | x :: xs, 0, _, h, _ => by rw [firstI, if_pos (by simpa using h)]
  | x :: xs, b + 1, hb, h, h' => by
    rw [firstI, if_neg (by have := h' 0 (by omega); simpa using this), firstI_of xs b (by simpa using hb) (by simpa using h) fun j hj => by have := h' (j + 1) (by omega); simpa using this]

theorem first_ext {c : Ordering} (hc : c = .lt ∨ c = .gt) {l : List (Option Nat)} (hf : ∀ x ∈ l, finB x = true) (h0 : 0 < l.length) :
    firstI (extV c (l.getD 0 none) l) l = extI c l 0 0 l ∧ extI c l 0 0 l < l.length ∧ extV c (l.getD 0 none) l = l.getD (extI c l 0 0 l) none := by
  have fm : ∀ j, j < l.length → finB (l.getD j none) = true := fun j hj => by
    rw [List.getD_eq_getElem?_getD, List.getElem?_eq_getElem hj]; exact hf _ (List.getElem_mem _)
  have e := ext_VI c l _ 0 0 rfl
  have s := extI_spec hc hf _ 0 0 rfl (by omega) h0 (fun j hj => by omega) (fun j _ hj => by omega) (.inr ⟨rfl, rfl⟩)
  rw [List.drop_zero] at e s
  obtain ⟨s1, s2, s3⟩ := s
  refine ⟨?_, s1, e⟩
  rw [e]
  refine firstI_of l _ s1 (ord_refl (fm _ s1)) fun j hj he => ?_
  have := (ord_eq (fm j (by omega)) (fm _ s1)).1 he
  have h4 := s3 j hj
  rw [this] at h4
  omega

theorem run_38' {n : Nat} {cs : List AV} (h : Flos n cs) (h0 : 0 < n) : (fsM mzC waysP (n + 1) 12).call (List RLeaf) 38 [.ofB (.list n cs)] [] (resK [false]) =
    some [.v (.agg [.flo .f32 (extV .lt ((flosOf cs).getD 0 none) (flosOf cs)), .flo .f32 (extV .gt ((flosOf cs).getD 0 none) (flosOf cs))])] := by
  rw [run_38]
  have hl := h.len
  have hcl := h.2.2
  have hg0 : asFloat .f32 (cs.getD 0 .top) = some ((flosOf cs).getD 0 none) := h.get h0
  simp only [shut_eq, guardO_dec, Int.le_refl, true_and, show ((0 : Int) < (n : Int)) = True from eq_true (by omega), show (0 < cs.length) = True from eq_true (by omega), if_true, hg0, bindO_ok]
  refine loopC_rule (fun k (r : Nat → List AV → Int → Option Nat → Option Nat → Option Nat → Option Nat → Option (List RLeaf)) => ∀ (i : Nat) (p q : Option Nat) (x3 : Option Nat) (x4 : Option Nat), i + k = n →
    r n cs (i : Int) x3 x4 p q = some [.v (.agg [.flo .f32 (extV .lt p ((flosOf cs).drop i)), .flo .f32 (extV .gt q ((flosOf cs).drop i))])]) ?_ (n + 1) n (by omega) 0 _ _ _ _ (by omega)
  intro k r ih i p q x3 x4 hi
  by_cases hk : i < n
  · rw [drop_cons (d := none) (show i < (flosOf cs).length by omega), extV, extV]
    generalize hv : (flosOf cs).getD i none = x
    have hg : asFloat .f32 (cs.getD i .top) = some x := by rw [h.get hk, hv]
    have h2 : 0 < cs.length := by omega
    simp only [shut_eq, condO_dec, condO_ord, guardO_dec, Int.ofNat_lt, hk, h2, if_true, Int.toNat_natCast, Nat.mul_one, hg, bindO_ok, and_true, true_and, Int.natCast_nonneg, idx64 h.1 hk, ih (n - (i + 1)) (by omega) (i + 1) _ _ _ _ (show i + 1 + (n - (i + 1)) = n by omega)]
    by_cases c1 : ordO .f32 x p = some .lt <;> by_cases c2 : ordO .f32 x q = some .gt <;> simp only [c1, c2, if_true, if_false]
  · have hnil : (flosOf cs).drop i = [] := by rw [List.drop_eq_nil_iff]; omega
    simp only [shut_eq, condO_dec, Int.ofNat_lt, hk, if_false, hnil, extV]

theorem run_105' {n : Nat} {cs : List AV} {o : Option Nat} (h : Flos n cs) (h0 : firstI o (flosOf cs) < n) : (fsM mzC waysP (n + 1) 12).call (List RLeaf) 105 [.ofB (.list n cs), .ofB (.flo .f32 o)] [] (resK [false]) = some [.v (.int .i64 (firstI o (flosOf cs) : Int))] := by
  rw [run_105]
  have hl := h.len
  have hcl := h.2.2
  refine loopC_rule (fun k (r : Nat → List AV → Option Nat → Int → Option (List RLeaf)) => ∀ (i : Nat), i + k = n → i ≤ firstI o (flosOf cs) → i + firstI o ((flosOf cs).drop i) = firstI o (flosOf cs) → r n cs o (i : Int) = some [.v (.int .i64 (firstI o (flosOf cs) : Int))]) ?_ (n + 1) n (by omega) 0 (by omega) (by omega) (by simp)
  intro k r ih i hi hle hf
  have hk : i < n := by omega
  rw [drop_cons (d := none) (show i < (flosOf cs).length by omega), firstI] at hf
  generalize hv : (flosOf cs).getD i none = x at hf
  have hg : asFloat .f32 (cs.getD i .top) = some x := by rw [h.get hk, hv]
  have h2 : 0 < cs.length := by omega
  simp only [shut_eq, condO_dec, condO_ordne, guardO_dec, Int.ofNat_lt, hk, h2, if_true, Int.toNat_natCast, Nat.mul_one, hg, bindO_ok, and_true, true_and, Int.natCast_nonneg, idx64 h.1 hk]
  by_cases c1 : ordO .f32 x o = some .eq
  · rw [if_pos c1] at hf ⊢
    rw [Nat.add_zero] at hf
    rw [hf]
  · rw [if_neg c1] at hf ⊢
    exact ih (n - (i + 1)) (by omega) (i + 1) (by omega) (by omega) (by omega)

theorem run_94' {a b c d : Int} (h1 : 1 ≤ c) (h2 : c ≤ 4096) (h3 : 0 ≤ a) (h4 : a ≤ b) (h5 : b ≤ 4096) (h6 : 0 ≤ d) (h7 : d ≤ 4096) : (fsM mzC waysP 1 12).call (List RLeaf) 94 [.ofB (.int .i64 a), .ofB (.int .i64 b), .ofB (.int .i64 c), .ofB (.int .i64 d)] [] (resK [false, false]) =
    some [.v (.int .i64 (a + d * (b - a) / c)), .v (.int .i64 (a + (d + 1) * (b - a) / c))] := by
  rw [run_94]
  have nz : (c ≠ 0) = True := eq_true (by omega)
  have m1 := mul_le_sq (a := d) (b := b - a) (m := 4097) (by omega) (by omega) (by omega) (by omega)
  have m2 := mul_le_sq (a := d + 1) (b := b - a) (m := 4097) (by omega) (by omega) (by omega) (by omega)
  have d1 := Int.ediv_le_self c m1.1
  have d2 := Int.ediv_le_self c m2.1
  have d3 := Int.ediv_nonneg m1.1 (show 0 ≤ c by omega)
  have d4 := Int.ediv_nonneg m2.1 (show 0 ≤ c by omega)
  simp only [shut_eq, guardO_dec, nz, if_true]
  rw [wrap64 (z := b - a) (by omega) (by omega), wrap64 (z := d + 1) (by omega) (by omega), wrap64 (z := d * (b - a)) (by omega) (by omega), wrap64 (z := (d + 1) * (b - a)) (by omega) (by omega),
    Int.tdiv_eq_ediv_of_nonneg m1.1, Int.tdiv_eq_ediv_of_nonneg m2.1, wrap64 (z := d * (b - a) / c) (by omega) (by omega), wrap64 (z := (d + 1) * (b - a) / c) (by omega) (by omega), wrap64 (by omega) (by omega), wrap64 (by omega) (by omega)]

end Go.Abs
end

section
/- Entries: Longest, Histogram, extremes of columns. -/
set_option linter.unusedVariables false
set_option linter.unusedSimpArgs false
namespace Go.Abs
open Go.Proofs Classical

noncomputable def ePairOf : Ent := fun args' R K => match args' with
  | [.list n cs] => guardO (shut (decide (Flos n cs ∧ 0 < n))) (K [.v (.agg [.flo .f32 (shut (extV .lt ((flosOf cs).getD 0 none) (flosOf cs))), .flo .f32 (shut (extV .gt ((flosOf cs).getD 0 none) (flosOf cs)))])])
  | _ => none

theorem ePairOf_38 : EntOk Tryz.prog 38 ePairOf := by
  intro args' R K r ha h
  unfold ePairOf at h
  split at h
  · rename_i n cs
    obtain ⟨h1, h2⟩ := guardO_some h
    rw [shut_eq] at h1
    have h1' := of_decide_eq_true h1
    refine ⟨[.v (.agg [.flo .f32 (extV .lt ((flosOf cs).getD 0 none) (flosOf cs)), .flo .f32 (extV .gt ((flosOf cs).getD 0 none) (flosOf cs))])], fun _ _ => by simp only [ePairOf, shut_eq, decide_eq_true h1', guardO], ?_, con_of mzC_ok (W := waysP) (N := n + 1) (k := 12) (ms := [false]) ?_ ha trivial⟩
    · intro l hl; rcases List.mem_cons.1 hl with rfl | hl
      · exact (leaf_agg (cells_ff _ _))
      cases hl
    · exact run_38' h1'.1 h1'.2
  · cases h

noncomputable def eFirstI : Ent := fun args' R K => match args' with
  | [.list n cs, .flo .f32 o] => guardO (shut (decide (Flos n cs ∧ firstI o (flosOf cs) < n))) (K [.v (.int .i64 (shut ((firstI o (flosOf cs) : Int))))])
  | _ => none

theorem eFirstI_105 : EntOk Tryz.prog 105 eFirstI := by
  intro args' R K r ha h
  unfold eFirstI at h
  split at h
  · rename_i n cs o
    obtain ⟨h1, h2⟩ := guardO_some h
    rw [shut_eq] at h1
    have h1' := of_decide_eq_true h1
    refine ⟨[.v (.int .i64 ((firstI o (flosOf cs) : Int)))], fun _ _ => by simp only [eFirstI, shut_eq, decide_eq_true h1', guardO], ?_, con_of mzC_ok (W := waysP) (N := n + 1) (k := 12) (ms := [false]) ?_ ha trivial⟩
    · intro l hl; rcases List.mem_cons.1 hl with rfl | hl
      · exact leaf_int
      cases hl
    · exact run_105' h1'.1 h1'.2
  · cases h

noncomputable def eColumn : Ent := fun args' R K => match args' with
  | [.int .i64 a, .int .i64 b, .int .i64 c, .int .i64 d] => guardO (shut (decide (1 ≤ c ∧ c ≤ 4096 ∧ 0 ≤ a ∧ a ≤ b ∧ b ≤ 4096 ∧ 0 ≤ d ∧ d ≤ 4096))) (K [.v (.int .i64 (shut (a + d * (b - a) / c))), .v (.int .i64 (shut (a + (d + 1) * (b - a) / c)))])
  | _ => none

theorem eColumn_94 : EntOk Tryz.prog 94 eColumn := by
  intro args' R K r ha h
  unfold eColumn at h
  split at h
  · rename_i a b c d
    obtain ⟨h1, h2⟩ := guardO_some h
    rw [shut_eq] at h1
    have h1' := of_decide_eq_true h1
    refine ⟨[.v (.int .i64 (a + d * (b - a) / c)), .v (.int .i64 (a + (d + 1) * (b - a) / c))], fun _ _ => by simp only [eColumn, shut_eq, decide_eq_true h1', guardO], ?_, con_of mzC_ok (W := waysP) (N := 1) (k := 12) (ms := [false, false]) ?_ ha trivial⟩
    · intro l hl; rcases List.mem_cons.1 hl with rfl | hl
      · exact leaf_int
      rcases List.mem_cons.1 hl with rfl | hl
      · exact leaf_int
      cases hl
    · exact run_94' h1'.1 h1'.2.1 h1'.2.2.1 h1'.2.2.2.1 h1'.2.2.2.2.1 h1'.2.2.2.2.2.1 h1'.2.2.2.2.2.2
  · cases h

noncomputable def eLongest : Ent := fun args' R K => match args' with
  | [.list n cs, .flo .f32 o] => guardO (shut (decide (Flos n cs))) (K [.v (.agg [.int .i64 (shut (((longV n (flosOf cs) o).1 : Int))), .int .i64 (shut (((longV n (flosOf cs) o).2 : Int)))]), .v (.int .i64 (shut (longE n (flosOf cs) o)))])
  | _ => none

theorem eLongest_53 : EntOk Tryz.prog 53 eLongest := by
  intro args' R K r ha h
  unfold eLongest at h
  split at h
  · rename_i n cs o
    obtain ⟨h1, h2⟩ := guardO_some h
    rw [shut_eq] at h1
    have h1' := of_decide_eq_true h1
    refine ⟨[.v (.agg [.int .i64 (((longV n (flosOf cs) o).1 : Int)), .int .i64 (((longV n (flosOf cs) o).2 : Int))]), .v (.int .i64 (longE n (flosOf cs) o))], fun _ _ => by simp only [eLongest, shut_eq, decide_eq_true h1', guardO], ?_, con_of mzC_ok (W := waysP) (N := n + 1) (k := 12) (ms := [false, false]) ?_ ha trivial⟩
    · intro l hl; rcases List.mem_cons.1 hl with rfl | hl
      · exact (leaf_agg (cells_ii _ _))
      rcases List.mem_cons.1 hl with rfl | hl
      · exact leaf_int
      cases hl
    · exact run_53' h1'
  · cases h

noncomputable def eLongestR : Ent := fun args' R K => match args' with
  | [.list n cs, .flo .f32 o] => guardO (shut (decide (Flos n cs ∧ sampErr n (flosOf cs) = 0 ∧ finB o = true))) (K [.v (.agg [.int .i64 (shut (((longR 0 0 0 (highs o (flosOf cs))).1 : Int))), .int .i64 (shut (((longR 0 0 0 (highs o (flosOf cs))).2 : Int)))]), .v (.bool (shut (decide ((longR 0 0 0 (highs o (flosOf cs))).2 > (longR 0 0 0 (highs o (flosOf cs))).1))))])
  | _ => none

theorem eLongestR_56 : EntOk Tryz.prog 56 eLongestR := by
  intro args' R K r ha h
  unfold eLongestR at h
  split at h
  · rename_i n cs o
    obtain ⟨h1, h2⟩ := guardO_some h
    rw [shut_eq] at h1
    have h1' := of_decide_eq_true h1
    refine ⟨[.v (.agg [.int .i64 (((longR 0 0 0 (highs o (flosOf cs))).1 : Int)), .int .i64 (((longR 0 0 0 (highs o (flosOf cs))).2 : Int))]), .v (.bool (decide ((longR 0 0 0 (highs o (flosOf cs))).2 > (longR 0 0 0 (highs o (flosOf cs))).1)))], fun _ _ => by simp only [eLongestR, shut_eq, decide_eq_true h1', guardO], ?_, con_of mzC_ok (W := waysP) (N := n + 1) (k := 12) (ms := [false, false]) ?_ ha trivial⟩
    · intro l hl; rcases List.mem_cons.1 hl with rfl | hl
      · exact (leaf_agg (cells_ii _ _))
      rcases List.mem_cons.1 hl with rfl | hl
      · exact leaf_bool
      cases hl
    · exact run_56' h1'.1 h1'.2.1 h1'.2.2
  · cases h

noncomputable def eHist : Ent := fun args' R K => match args' with
  | [.list n cs, .list m ds] => guardO (shut (decide (Flos n cs ∧ Flos m ds))) (K [.fz (shut ((histV n (flosOf cs) m (flosOf ds)).length)) (shut (numsL .i64 (histV n (flosOf cs) m (flosOf ds)))), .v (.int .i64 (shut (histE n (flosOf cs) m (flosOf ds))))])
  | _ => none

theorem eHist_54 : EntOk Tryz.prog 54 eHist := by
  intro args' R K r ha h
  unfold eHist at h
  split at h
  · rename_i n cs m ds
    obtain ⟨h1, h2⟩ := guardO_some h
    rw [shut_eq] at h1
    have h1' := of_decide_eq_true h1
    refine ⟨[.fz ((histV n (flosOf cs) m (flosOf ds)).length) (numsL .i64 (histV n (flosOf cs) m (flosOf ds))), .v (.int .i64 (histE n (flosOf cs) m (flosOf ds)))], fun _ _ => by simp only [eHist, shut_eq, decide_eq_true h1', guardO], ?_, con_of mzC_ok (W := waysP) (N := n + m + 2) (k := 12) (ms := [true, false]) ?_ ha ⟨numsL_plain, trivial⟩⟩
    · intro l hl; rcases List.mem_cons.1 hl with rfl | hl
      · exact (leaf_fz (numsL_plain))
      rcases List.mem_cons.1 hl with rfl | hl
      · exact leaf_int
      cases hl
    · exact run_54' h1'.1 h1'.2
  · cases h

noncomputable def eHistR : Ent := fun args' R K => match args' with
  | [.list n cs, .list m ds] => guardO (shut (decide (Flos n cs ∧ Flos m ds ∧ n ≤ 4096 ∧ m ≤ 64))) (K [.fz (shut (m + 1)) (shut (numsL .i64 (histF (flosOf ds) (List.replicate (m + 1) 0) (flosOf cs))))])
  | _ => none

theorem eHistR_58 : EntOk Tryz.prog 58 eHistR := by
  intro args' R K r ha h
  unfold eHistR at h
  split at h
  · rename_i n cs m ds
    obtain ⟨h1, h2⟩ := guardO_some h
    rw [shut_eq] at h1
    have h1' := of_decide_eq_true h1
    refine ⟨[.fz (m + 1) (numsL .i64 (histF (flosOf ds) (List.replicate (m + 1) 0) (flosOf cs)))], fun _ _ => by simp only [eHistR, shut_eq, decide_eq_true h1', guardO], ?_, con_of mzC_ok (W := waysP) (N := n + m + 2) (k := 12) (ms := [true]) ?_ ha ⟨numsL_plain, trivial⟩⟩
    · intro l hl; rcases List.mem_cons.1 hl with rfl | hl
      · exact (leaf_fz (numsL_plain))
      cases hl
    · exact run_58' h1'.1 h1'.2.1 h1'.2.2.1 h1'.2.2.2
  · cases h

noncomputable def eLim : Ent := fun args' R K => match args' with
  | [.list m ds] => guardO (shut (decide (Flos m ds))) (K [.v (.int .i64 (shut (limC m (flosOf ds))))])
  | _ => none

theorem eLim_57 : EntOk Tryz.prog 57 eLim := by
  intro args' R K r ha h
  unfold eLim at h
  split at h
  · rename_i m ds
    obtain ⟨h1, h2⟩ := guardO_some h
    rw [shut_eq] at h1
    have h1' := of_decide_eq_true h1
    refine ⟨[.v (.int .i64 (limC m (flosOf ds)))], fun _ _ => by simp only [eLim, shut_eq, decide_eq_true h1', guardO], ?_, con_of mzC_ok (W := waysP) (N := m + 1) (k := 12) (ms := [false]) ?_ ha trivial⟩
    · intro l hl; rcases List.mem_cons.1 hl with rfl | hl
      · exact leaf_int
      cases hl
    · exact run_57' h1'
  · cases h


noncomputable def mzF : List (FuncId × Ent) := (38, ePairOf) :: (105, eFirstI) :: (94, eColumn) :: (53, eLongest) :: (56, eLongestR) :: (54, eHist) :: (58, eHistR) :: (57, eLim) :: mzC
theorem mzF_ok : TabLOk Tryz.prog mzF := ⟨ePairOf_38, eFirstI_105, eColumn_94, eLongest_53, eLongestR_56, eHist_54, eHistR_58, eLim_57, mzC_ok⟩

end Go.Abs
end

