/- Part 11 of the library that the proof of the statement uses: an abstract run of the program, proved right, and what its functions give. -/
import Derived.Test.YtaejnfdlolfpkaaGreatDoorStm10
set_option linter.unusedVariables false
set_option linter.unusedSimpArgs false

section
/- Unwrapped stamps: what they are. -/
set_option linter.unusedVariables false
set_option linter.unusedSimpArgs false
namespace Go.Abs

theorem nextU_gt {m p v : Int} (hm : 0 < m) : p < nextU m p v := by
  have := Int.emod_nonneg (v - p - 1) (Int.ne_of_gt hm)
  unfold nextU; omega

theorem nextU_le {m p v : Int} (hm : 0 < m) : nextU m p v ≤ p + m := by
  have := Int.emod_lt_of_pos (v - p - 1) hm
  unfold nextU; omega

theorem nextU_mod {m p v : Int} (hm : 0 < m) (hv : 0 ≤ v) (hv' : v < m) : nextU m p v % m = v := by
  unfold nextU
  have e : p + (v - p - 1) % m + 1 = v + m * (-((v - p - 1) / m)) := by
    have := Int.emod_add_mul_ediv (v - p - 1) m
    rw [Int.mul_neg]; omega
  rw [e, Int.add_mul_emod_self_left, Int.emod_eq_of_lt hv hv']

theorem nextU_hit {m p t : Int} (hm : 0 < m) (h1 : p < t) (h2 : t - p ≤ m) : nextU m p (t % m) = t := by
  unfold nextU
  have e : (t % m - p - 1) % m = (t - p - 1) % m := by
    have e2 : t % m - p - 1 = (t - p - 1) + m * (-(t / m)) := by
      have := Int.emod_add_mul_ediv t m
      rw [Int.mul_neg]; omega
    rw [e2, Int.add_mul_emod_self_left]
  rw [e, Int.emod_eq_of_lt (by omega) (by omega)]
  omega

def stepU (m : Int) : Option Int → Int → Int
  | none, v => v
  | some p, v => nextU m p v

def unwA (m : Int) : Option Int → List Int → List Int
  | _, [] => []
  | o, v :: vs => stepU m o v :: unwA m (some (stepU m o v)) vs

theorem unwA_len {m : Int} : ∀ {vs : List Int} {o : Option Int}, (unwA m o vs).length = vs.length
  | [], o => rfl
  | v :: vs, o => by simp [unwA, unwA_len]

theorem unwL_cons {m v : Int} {vs acc : List Int} : unwL m acc (v :: vs) = if stepU m acc.getLast? v > 999999999 then ([], 4) else unwL m (acc ++ [stepU m acc.getLast? v]) vs := by
  simp only [unwL]
  cases acc.getLast? <;> rfl

theorem unwL_eq {m : Int} (hm : 0 < m) : ∀ (vs acc : List Int), (∀ v ∈ vs, 0 ≤ v ∧ v < m) → (∀ x, acc.getLast? = some x → 0 ≤ x ∧ x < (acc.length : Int) * m) →
    ((acc.length + vs.length : Nat) : Int) * m ≤ 1000000000 → unwL m acc vs = (acc ++ unwA m acc.getLast? vs, 0)
  | [], acc, _, _, _ => by simp [unwL, unwA]
  | v :: vs, acc, hv, ha, hb => by
    have hv0 := hv v List.mem_cons_self
    have hw0 : 0 ≤ stepU m acc.getLast? v ∧ stepU m acc.getLast? v < ((acc.length + 1 : Nat) : Int) * m := by
      have hpos : 0 ≤ (acc.length : Int) * m := Int.mul_nonneg (by omega) (by omega)
      have hsucc : ((acc.length + 1 : Nat) : Int) * m = (acc.length : Int) * m + m := by rw [Int.natCast_add, Int.add_mul]; simp
      cases hl : acc.getLast? with
      | none => simp only [stepU]; omega
      | some p =>
        have hp := ha p hl
        have h1 := nextU_gt (m := m) (p := p) (v := v) hm
        have h2 := nextU_le (m := m) (p := p) (v := v) hm
        simp only [stepU]; omega
    have hmono : ((acc.length + 1 : Nat) : Int) * m ≤ ((acc.length + (v :: vs).length : Nat) : Int) * m := Int.mul_le_mul_of_nonneg_right (by simp; omega) (by omega)
    have hl2 : (acc ++ [stepU m acc.getLast? v]).getLast? = some (stepU m acc.getLast? v) := by simp
    rw [unwL_cons, if_neg (by omega)]
    have := unwL_eq hm vs (acc ++ [stepU m acc.getLast? v]) (fun x hx => hv x (List.mem_cons_of_mem _ hx)) (fun x hx => by
      rw [hl2] at hx
      simp only [Option.some.injEq] at hx
      subst hx
      rw [List.length_append]
      exact hw0) (by simpa [Nat.add_assoc, Nat.add_comm, Nat.add_left_comm] using hb)
    rw [this, hl2]
    simp [unwA]

theorem unwA_head {m : Int} {o : Option Int} {v : Int} {vs : List Int} : (unwA m o (v :: vs)).getD 0 0 = stepU m o v := rfl

theorem unwA_step {m : Int} : ∀ {vs : List Int} {o : Option Int} {i : Nat}, i < vs.length → (unwA m o vs).getD i 0 = stepU m (if i = 0 then o else some ((unwA m o vs).getD (i - 1) 0)) (vs.getD i 0)
  | [], o, i, h => by simp at h
  | v :: vs, o, 0, h => by simp [unwA]
  | v :: vs, o, 1, h => by
    have := unwA_step (m := m) (vs := vs) (o := some (stepU m o v)) (i := 0) (by simpa using h)
    simpa [unwA] using this
  | v :: vs, o, i + 2, h => by
    have := unwA_step (m := m) (vs := vs) (o := some (stepU m o v)) (i := i + 1) (by simp at h; omega)
    simpa [unwA] using this

theorem unwA_hit {m : Int} (hm : 0 < m) : ∀ {ts : List Int} {p : Int}, (∀ i, i < ts.length → (if i = 0 then p else ts.getD (i - 1) 0) < ts.getD i 0 ∧ ts.getD i 0 - (if i = 0 then p else ts.getD (i - 1) 0) ≤ m) → unwA m (some p) (ts.map (· % m)) = ts
  | [], p, h => rfl
  | t :: ts, p, h => by
    have h0 := h 0 (by simp)
    simp at h0
    simp only [List.map_cons, unwA, stepU, nextU_hit hm h0.1 h0.2]
    rw [unwA_hit hm fun i hi => ?_]
    have := h (i + 1) (by simpa using hi)
    cases i with
    | zero => simpa using this
    | succ i => simpa using this

theorem unwA_hit0 {m : Int} (hm : 0 < m) {ts : List Int} (h0 : ∀ i, i < ts.length → 0 ≤ ts.getD i 0) (h : ∀ i, i < ts.length → (if i = 0 then -1 else ts.getD (i - 1) 0) < ts.getD i 0 ∧ ts.getD i 0 - (if i = 0 then -1 else ts.getD (i - 1) 0) ≤ m) :
    unwA m none (ts.map (· % m)) = ts := by
  match ts, h0, h with
  | [], _, _ => rfl
  | t :: ts, h0, h =>
    have g0 := h0 0 (by simp)
    have g1 := h 0 (by simp)
    simp at g0 g1
    simp only [List.map_cons, unwA, stepU, Int.emod_eq_of_lt g0 (show t < m by omega)]
    rw [unwA_hit hm fun i hi => ?_]
    have := h (i + 1) (by simpa using hi)
    cases i with
    | zero => simpa using this
    | succ i => simpa using this

/-- What unwrapped stamps are. -/
theorem unwA_props {m : Int} (hm : 0 < m) {vs : List Int} (hv : ∀ v ∈ vs, 0 ≤ v ∧ v < m) : ∀ i, i < vs.length →
    0 ≤ (unwA m none vs).getD i 0 ∧ (unwA m none vs).getD i 0 < ((i + 1 : Nat) : Int) * m ∧ (unwA m none vs).getD i 0 % m = vs.getD i 0 ∧ (i = 0 → (unwA m none vs).getD i 0 < m) ∧
    (0 < i → (unwA m none vs).getD (i - 1) 0 < (unwA m none vs).getD i 0 ∧ (unwA m none vs).getD i 0 - (unwA m none vs).getD (i - 1) 0 ≤ m) := by
  intro i
  induction i with
  | zero =>
    intro hi
    have hv0 := hv (vs.getD 0 0) (by rw [List.getD_eq_getElem?_getD, List.getElem?_eq_getElem hi]; exact List.getElem_mem hi)
    rw [unwA_step hi]
    simp only [if_true, stepU]
    refine ⟨hv0.1, by simpa using hv0.2, Int.emod_eq_of_lt hv0.1 hv0.2, fun _ => hv0.2, fun h => by omega⟩
  | succ i ih =>
    intro hi
    obtain ⟨h1, h2, _⟩ := ih (by omega)
    have hv0 := hv (vs.getD (i + 1) 0) (by rw [List.getD_eq_getElem?_getD, List.getElem?_eq_getElem hi]; exact List.getElem_mem hi)
    have hs : (unwA m none vs).getD (i + 1) 0 = nextU m ((unwA m none vs).getD i 0) (vs.getD (i + 1) 0) := by
      rw [unwA_step hi]; simp [stepU]
    have g1 := nextU_gt (m := m) (p := (unwA m none vs).getD i 0) (v := vs.getD (i + 1) 0) hm
    have g2 := nextU_le (m := m) (p := (unwA m none vs).getD i 0) (v := vs.getD (i + 1) 0) hm
    have g3 := nextU_mod (m := m) (p := (unwA m none vs).getD i 0) hm hv0.1 hv0.2
    have hsucc : ((i + 1 + 1 : Nat) : Int) * m = ((i + 1 : Nat) : Int) * m + m := by rw [Int.natCast_add (i + 1) 1, Int.add_mul]; simp
    rw [Nat.add_sub_cancel]
    rw [hs]
    refine ⟨by omega, by omega, g3, fun h => by omega, fun _ => ⟨g1, by omega⟩⟩

end Go.Abs
end

section
/- The law AcquireStamps. -/
set_option linter.unusedVariables false
set_option linter.unusedSimpArgs false
namespace Go.Abs
open Go.Proofs Classical

theorem put5 (a b : Int) (k : Nat) (fs : List AV) (c d : Int) : putCells (zrow (ofV (Go.Value.agg #[Go.Value.int IntKind.i64 (0 : Int), Go.Value.int IntKind.i64 (0 : Int), Go.Value.slice Option.none 0 0, Go.Value.int IntKind.i64 (0 : Int), Go.Value.int IntKind.i64 (0 : Int)])).cells 5) 0
    [AV.int IntKind.i64 a, AV.int IntKind.i64 b, AV.list k fs, AV.int IntKind.i64 c, AV.int IntKind.i64 d] = [AV.int .i64 a, AV.int .i64 b, AV.list k fs, AV.int .i64 c, AV.int .i64 d] := by
  rfl

theorem take_add1 {α : Type} {xs : List α} {i : Nat} {d : α} (h : i < xs.length) : xs.take (i + 1) = xs.take i ++ [xs.getD i d] := by
  rw [List.take_add_one, List.getElem?_eq_getElem h, List.getD_eq_getElem?_getD, List.getElem?_eq_getElem h]; rfl

theorem Segs.take_step {n : Nat} {cs : List AV} (h : Segs n cs) {i : Nat} (hi : i < n) :
    cs.take (i * 5) ++ [AV.int .i64 (segAt cs i).start, AV.int .i64 (segAt cs i).trig, AV.list (segAt cs i).k (segAt cs i).fs, AV.int .i64 (segAt cs i).lost, AV.int .i64 (segAt cs i).missed] = cs.take ((i + 1) * 5) := by
  have hl := h.len
  have e : (i + 1) * 5 = i * 5 + 1 + 1 + 1 + 1 + 1 := by omega
  rw [e, take_add1 (d := .top) (by omega), take_add1 (d := .top) (by omega), take_add1 (d := .top) (by omega), take_add1 (d := .top) (by omega), take_add1 (d := .top) (by omega)]
  rw [show i * 5 + 1 + 1 + 1 + 1 = i * 5 + 4 by omega, show i * 5 + 1 + 1 + 1 = i * 5 + 3 by omega, show i * 5 + 1 + 1 = i * 5 + 2 by omega]
  rw [h.c0 i hi, h.c1 i hi, h.c2 i hi, h.c3 i hi, h.c4 i hi]
  simp

theorem intsOf_L {xs : List Int} : intsOf (intsL xs) = xs := by
  unfold intsOf intsL; rw [List.map_map, show (toI ∘ AV.int IntKind.i64) = id from rfl, List.map_id]

theorem ints_L {xs : List Int} (h : xs.length < 9223372036854775808) : Ints xs.length (intsL xs) := ⟨h, by rw [intsOf_L]; rfl, by simp [intsL]⟩

theorem unwL_len {m : Int} : ∀ {vs acc : List Int}, (unwL m acc vs).1.length ≤ acc.length + vs.length
  | [], acc => by simp [unwL]
  | v :: vs, acc => by
    rw [unwL_cons]
    split
    · simp
    · refine Nat.le_trans (unwL_len (vs := vs)) ?_
      simp; omega

theorem unwS_len {n : Nat} {m : Int} {xs : List Int} : (unwS n m xs).1.length ≤ xs.length := by
  unfold unwS
  split
  · simp
  · split
    · simpa using unwL_len (m := m) (vs := xs) (acc := [])
    · simp

theorem ints0 : Ints 0 [] := ⟨by omega, rfl, rfl⟩

theorem run_6' {n m : Nat} {cs ds : List AV} {b : Int} (h : Segs n cs) (h' : Ints m ds) : (fsZ tz6 (n + 1) 8).call (List RLeaf) 6 [.ofB (.list n cs), .ofB (.list m ds), .ofB (.int .i64 b)] [] (resK [false]) = some [.v (.bool true)] := by
  rw [run_6]
  have e2 : ∀ v w : Int, intsOf [AV.int .i64 v, AV.int .i64 w] = [v, w] := fun _ _ => rfl
  simp only [shut_eq, guardO_dec, condO_dec, condO_not, condO_bne, condO_beq, h, if_true, put2, put5, e2, ints2, firstNZ]
  cases hs : shortS n 20 (segsOf n cs)
  case false => simp
  have hn : n ≤ 66 := by
    unfold shortS at hs
    split at hs
    · cases hs
    · omega
  simp only [if_true]
  by_cases hm : ((m : Int) > 20 ∧ (m : Int) ≤ 256) ∨ (m : Int) > 258
  · rcases hm with ⟨h1, h2⟩ | h3
    · rw [if_pos h1, if_pos h2]
    · rw [if_pos (by omega), if_neg (by omega), if_pos h3]
  have i1 : Ints (stpP n b (segsOf n cs)).1.length (intsL (stpP n b (segsOf n cs)).1) := by
    refine ints_L ?_
    unfold stpP
    split
    · split
      · simp
      · simp [stampsL, segsOf_len]; omega
    · simp
  have i2 : Ints (stampsL (2 ^ b.toNat) (segsOf n cs)).length (intsL (stampsL (2 ^ b.toNat) (segsOf n cs))) := ints_L (by simp [stampsL, segsOf_len]; omega)
  have u0 : ∀ m', (unwS m m' (intsOf ds)).1.length < 9223372036854775808 := fun m' => by
    have := unwS_len (n := m) (m := m') (xs := intsOf ds)
    have := h'.len
    have := h'.1
    omega
  have i3 : Ints (unwS m (2 ^ b.toNat) (intsOf ds)).1.length (intsL (unwS m (2 ^ b.toNat) (intsOf ds)).1) := ints_L (u0 _)
  have i4 : Ints (unwP m b (intsOf ds)).1.length (intsL (unwP m b (intsOf ds)).1) := by
    refine ints_L ?_
    unfold unwP
    split
    · simp
    · exact u0 _
  by_cases h1 : (m : Int) > 20
  all_goals first | rw [if_pos h1, if_neg (show ¬ (m : Int) ≤ 256 by omega), if_neg (by omega)] | rw [if_neg h1, if_neg (by omega)]
  all_goals
    refine loopC_rule (fun k (r : Nat → List AV → Int → Nat → List AV → Nat → List AV → Option (List RLeaf)) => ∀ i : Nat, i + k = n → r n cs (i : Int) 0 [] i (cs.take (i * 5)) = some [RLeaf.v (.bool true)]) ?_ (n + 1) n (by omega) 0 (by omega)
    intro k r ih i hi
    by_cases hk : i < n
    · have hl : 0 < cs.length := by rw [h.len]; omega
      have hl5 : i * 5 + 5 ≤ cs.length := by rw [h.len]; omega
      have hr : (i + 1) * 57 ≤ 549755813888 := by omega
      simp only [Int.ofNat_lt, hk, hl, hl5, hr, if_true, Int.toNat_natCast, h.g0 hk, h.g1 hk, h.g2' hk, h.g3' hk, h.g4' hk, bindO_ok, idx64 h.lt hk, and_true, Int.natCast_nonneg, true_and, h.take_step hk, ih (k - 1) (by omega) (i + 1) (by omega)]
    · obtain rfl : i = n := by omega
      have ht : cs.take (i * 5) = cs := by rw [← h.len, List.take_length]
      simp only [Int.ofNat_lt, hk, if_false, ht, h, h', if_true, i1, i2, i3, i4, ints0, and_self, intsOf_L, true_and]
      by_cases hb : b < 1 ∨ b > 30
      · have hb' : ¬ (1 ≤ b ∧ b ≤ 30) := by omega
        by_cases hc : chkS i (segsOf i cs) = 0
        · simp [hb, hc, stpP, unwP, intsOf]
        · simp [hb, hc, stpP, unwP, intsOf]
      · have hb' : (1 ≤ b ∧ b ≤ 30) := by omega
        by_cases hc : chkS i (segsOf i cs) = 0
        · simp [hb, hb', hc, stpP, unwP, intsOf, show i ≤ 4096 by omega]
        · simp [hb, hb', hc, stpP, unwP, intsOf]

end Go.Abs
end

