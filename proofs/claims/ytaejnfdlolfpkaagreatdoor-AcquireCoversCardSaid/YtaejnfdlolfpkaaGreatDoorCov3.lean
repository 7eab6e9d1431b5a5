/- Part 13 of the library that the proof of the statement uses: an abstract run of the program, proved right, and what its functions give. -/
import Derived.Test.YtaejnfdlolfpkaaGreatDoorCov2
set_option linter.unusedVariables false
set_option linter.unusedSimpArgs false

section
/- Unwrapped stamps: what they are. -/
set_option linter.unusedVariables false
set_option linter.unusedSimpArgs false
namespace Go.Abs

theorem nextU_gt {m p v : Int} (hm : 0 < m) : p < nextU m p v := by
  have := Int.emod_nonneg (v - p - 1) (Int.ne_of_gt hm)
  unfold nextU; omega

theorem nextU_le {m p v : Int} (hm : 0 < m) : nextU m p v ≤ p + m := by
  have := Int.emod_lt_of_pos (v - p - 1) hm
  unfold nextU; omega

theorem nextU_mod {m p v : Int} (hm : 0 < m) (hv : 0 ≤ v) (hv' : v < m) : nextU m p v % m = v := by
  unfold nextU
  have e : p + (v - p - 1) % m + 1 = v + m * (-((v - p - 1) / m)) := by
    have := Int.emod_add_mul_ediv (v - p - 1) m
    rw [Int.mul_neg]; omega
  rw [e, Int.add_mul_emod_self_left, Int.emod_eq_of_lt hv hv']

theorem nextU_hit {m p t : Int} (hm : 0 < m) (h1 : p < t) (h2 : t - p ≤ m) : nextU m p (t % m) = t := by
  unfold nextU
  have e : (t % m - p - 1) % m = (t - p - 1) % m := by
    have e2 : t % m - p - 1 = (t - p - 1) + m * (-(t / m)) := by
      have := Int.emod_add_mul_ediv t m
      rw [Int.mul_neg]; omega
    rw [e2, Int.add_mul_emod_self_left]
  rw [e, Int.emod_eq_of_lt (by omega) (by omega)]
  omega

def stepU (m : Int) : Option Int → Int → Int
  | none, v => v
  | some p, v => nextU m p v

def unwA (m : Int) : Option Int → List Int → List Int
  | _, [] => []
  | o, v :: vs => stepU m o v :: unwA m (some (stepU m o v)) vs

theorem unwA_len {m : Int} : ∀ {vs : List Int} {o : Option Int}, (unwA m o vs).length = vs.length
  | [], o => rfl
  | v :: vs, o => by simp [unwA, unwA_len]

theorem unwL_cons {m v : Int} {vs acc : List Int} : unwL m acc (v :: vs) = if stepU m acc.getLast? v > 999999999 then ([], 4) else unwL m (acc ++ [stepU m acc.getLast? v]) vs := by
  simp only [unwL]
  cases acc.getLast? <;> rfl

theorem unwL_eq {m : Int} (hm : 0 < m) : ∀ (vs acc : List Int), (∀ v ∈ vs, 0 ≤ v ∧ v < m) → (∀ x, acc.getLast? = some x → 0 ≤ x ∧ x < (acc.length : Int) * m) →
    ((acc.length + vs.length : Nat) : Int) * m ≤ 1000000000 → unwL m acc vs = (acc ++ unwA m acc.getLast? vs, 0)
  | [], acc, _, _, _ => by simp [unwL, unwA]
  | v :: vs, acc, hv, ha, hb => by
    have hv0 := hv v List.mem_cons_self
    have hw0 : 0 ≤ stepU m acc.getLast? v ∧ stepU m acc.getLast? v < ((acc.length + 1 : Nat) : Int) * m := by
      have hpos : 0 ≤ (acc.length : Int) * m := Int.mul_nonneg (by omega) (by omega)
      have hsucc : ((acc.length + 1 : Nat) : Int) * m = (acc.length : Int) * m + m := by rw [Int.natCast_add, Int.add_mul]; simp
      cases hl : acc.getLast? with
      | none => simp only [stepU]; omega
      | some p =>
        have hp := ha p hl
        have h1 := nextU_gt (m := m) (p := p) (v := v) hm
        have h2 := nextU_le (m := m) (p := p) (v := v) hm
        simp only [stepU]; omega
    have hmono : ((acc.length + 1 : Nat) : Int) * m ≤ ((acc.length + (v :: vs).length : Nat) : Int) * m := Int.mul_le_mul_of_nonneg_right (by simp; omega) (by omega)
    have hl2 : (acc ++ [stepU m acc.getLast? v]).getLast? = some (stepU m acc.getLast? v) := by simp
    rw [unwL_cons, if_neg (by omega)]
    have := unwL_eq hm vs (acc ++ [stepU m acc.getLast? v]) (fun x hx => hv x (List.mem_cons_of_mem _ hx)) (fun x hx => by
      rw [hl2] at hx
      simp only [Option.some.injEq] at hx
      subst hx
      rw [List.length_append]
      exact hw0) (by simpa [Nat.add_assoc, Nat.add_comm, Nat.add_left_comm] using hb)
    rw [this, hl2]
    simp [unwA]

theorem unwA_head {m : Int} {o : Option Int} {v : Int} {vs : List Int} : (unwA m o (v :: vs)).getD 0 0 = stepU m o v := rfl

theorem unwA_step {m : Int} : ∀ {vs : List Int} {o : Option Int} {i : Nat}, i < vs.length → (unwA m o vs).getD i 0 = stepU m (if i = 0 then o else some ((unwA m o vs).getD (i - 1) 0)) (vs.getD i 0)
  | [], o, i, h => by simp at h
  | v :: vs, o, 0, h => by simp [unwA]
  | v :: vs, o, 1, h => by
    have := unwA_step (m := m) (vs := vs) (o := some (stepU m o v)) (i := 0) (by simpa using h)
    simpa [unwA] using this
  | v :: vs, o, i + 2, h => by
    have := unwA_step (m := m) (vs := vs) (o := some (stepU m o v)) (i := i + 1) (by simp at h; omega)
    simpa [unwA] using this

theorem unwA_hit {m : Int} (hm : 0 < m) : ∀ {ts : List Int} {p : Int}, (∀ i, i < ts.length → (if i = 0 then p else ts.getD (i - 1) 0) < ts.getD i 0 ∧ ts.getD i 0 - (if i = 0 then p else ts.getD (i - 1) 0) ≤ m) → unwA m (some p) (ts.map (· % m)) = ts
  | [], p, h => rfl
  | t :: ts, p, h => by
    have h0 := h 0 (by simp)
    simp at h0
    simp only [List.map_cons, unwA, stepU, nextU_hit hm h0.1 h0.2]
    rw [unwA_hit hm fun i hi => ?_]
    have := h (i + 1) (by simpa using hi)
    cases i with
    | zero => simpa using this
    | succ i => simpa using this

theorem unwA_hit0 {m : Int} (hm : 0 < m) {ts : List Int} (h0 : ∀ i, i < ts.length → 0 ≤ ts.getD i 0) (h : ∀ i, i < ts.length → (if i = 0 then -1 else ts.getD (i - 1) 0) < ts.getD i 0 ∧ ts.getD i 0 - (if i = 0 then -1 else ts.getD (i - 1) 0) ≤ m) :
    unwA m none (ts.map (· % m)) = ts := by
  match ts, h0, h with
  | [], _, _ => rfl
  | t :: ts, h0, h =>
    have g0 := h0 0 (by simp)
    have g1 := h 0 (by simp)
    simp at g0 g1
    simp only [List.map_cons, unwA, stepU, Int.emod_eq_of_lt g0 (show t < m by omega)]
    rw [unwA_hit hm fun i hi => ?_]
    have := h (i + 1) (by simpa using hi)
    cases i with
    | zero => simpa using this
    | succ i => simpa using this

/-- What unwrapped stamps are. -/
theorem unwA_props {m : Int} (hm : 0 < m) {vs : List Int} (hv : ∀ v ∈ vs, 0 ≤ v ∧ v < m) : ∀ i, i < vs.length →
    0 ≤ (unwA m none vs).getD i 0 ∧ (unwA m none vs).getD i 0 < ((i + 1 : Nat) : Int) * m ∧ (unwA m none vs).getD i 0 % m = vs.getD i 0 ∧ (i = 0 → (unwA m none vs).getD i 0 < m) ∧
    (0 < i → (unwA m none vs).getD (i - 1) 0 < (unwA m none vs).getD i 0 ∧ (unwA m none vs).getD i 0 - (unwA m none vs).getD (i - 1) 0 ≤ m) := by
  intro i
  induction i with
  | zero =>
    intro hi
    have hv0 := hv (vs.getD 0 0) (by rw [List.getD_eq_getElem?_getD, List.getElem?_eq_getElem hi]; exact List.getElem_mem hi)
    rw [unwA_step hi]
    simp only [if_true, stepU]
    refine ⟨hv0.1, by simpa using hv0.2, Int.emod_eq_of_lt hv0.1 hv0.2, fun _ => hv0.2, fun h => by omega⟩
  | succ i ih =>
    intro hi
    obtain ⟨h1, h2, _⟩ := ih (by omega)
    have hv0 := hv (vs.getD (i + 1) 0) (by rw [List.getD_eq_getElem?_getD, List.getElem?_eq_getElem hi]; exact List.getElem_mem hi)
    have hs : (unwA m none vs).getD (i + 1) 0 = nextU m ((unwA m none vs).getD i 0) (vs.getD (i + 1) 0) := by
      rw [unwA_step hi]; simp [stepU]
    have g1 := nextU_gt (m := m) (p := (unwA m none vs).getD i 0) (v := vs.getD (i + 1) 0) hm
    have g2 := nextU_le (m := m) (p := (unwA m none vs).getD i 0) (v := vs.getD (i + 1) 0) hm
    have g3 := nextU_mod (m := m) (p := (unwA m none vs).getD i 0) hm hv0.1 hv0.2
    have hsucc : ((i + 1 + 1 : Nat) : Int) * m = ((i + 1 : Nat) : Int) * m + m := by rw [Int.natCast_add (i + 1) 1, Int.add_mul]; simp
    rw [Nat.add_sub_cancel]
    rw [hs]
    refine ⟨by omega, by omega, g3, fun h => by omega, fun _ => ⟨g1, by omega⟩⟩

end Go.Abs
end

section
/- The law AcquireStamps. -/
set_option linter.unusedVariables false
set_option linter.unusedSimpArgs false
namespace Go.Abs
open Go.Proofs Classical

theorem put5 (a b : Int) (k : Nat) (fs : List AV) (c d : Int) : putCells (zrow (ofV (Go.Value.agg #[Go.Value.int IntKind.i64 (0 : Int), Go.Value.int IntKind.i64 (0 : Int), Go.Value.slice Option.none 0 0, Go.Value.int IntKind.i64 (0 : Int), Go.Value.int IntKind.i64 (0 : Int)])).cells 5) 0
    [AV.int IntKind.i64 a, AV.int IntKind.i64 b, AV.list k fs, AV.int IntKind.i64 c, AV.int IntKind.i64 d] = [AV.int .i64 a, AV.int .i64 b, AV.list k fs, AV.int .i64 c, AV.int .i64 d] := by
  rfl

theorem take_add1 {α : Type} {xs : List α} {i : Nat} {d : α} (h : i < xs.length) : xs.take (i + 1) = xs.take i ++ [xs.getD i d] := by
  rw [List.take_add_one, List.getElem?_eq_getElem h, List.getD_eq_getElem?_getD, List.getElem?_eq_getElem h]; rfl

theorem Segs.take_step {n : Nat} {cs : List AV} (h : Segs n cs) {i : Nat} (hi : i < n) :
    cs.take (i * 5) ++ [AV.int .i64 (segAt cs i).start, AV.int .i64 (segAt cs i).trig, AV.list (segAt cs i).k (segAt cs i).fs, AV.int .i64 (segAt cs i).lost, AV.int .i64 (segAt cs i).missed] = cs.take ((i + 1) * 5) := by
  have hl := h.len
  have e : (i + 1) * 5 = i * 5 + 1 + 1 + 1 + 1 + 1 := by omega
  rw [e, take_add1 (d := .top) (by omega), take_add1 (d := .top) (by omega), take_add1 (d := .top) (by omega), take_add1 (d := .top) (by omega), take_add1 (d := .top) (by omega)]
  rw [show i * 5 + 1 + 1 + 1 + 1 = i * 5 + 4 by omega, show i * 5 + 1 + 1 + 1 = i * 5 + 3 by omega, show i * 5 + 1 + 1 = i * 5 + 2 by omega]
  rw [h.c0 i hi, h.c1 i hi, h.c2 i hi, h.c3 i hi, h.c4 i hi]
  simp

theorem intsOf_L {xs : List Int} : intsOf (intsL xs) = xs := by
  unfold intsOf intsL; rw [List.map_map, show (toI ∘ AV.int IntKind.i64) = id from rfl, List.map_id]

theorem ints_L {xs : List Int} (h : xs.length < 9223372036854775808) : Ints xs.length (intsL xs) := ⟨h, by rw [intsOf_L]; rfl, by simp [intsL]⟩

theorem unwL_len {m : Int} : ∀ {vs acc : List Int}, (unwL m acc vs).1.length ≤ acc.length + vs.length
  | [], acc => by simp [unwL]
  | v :: vs, acc => by
    rw [unwL_cons]
    split
    · simp
    · refine Nat.le_trans (unwL_len (vs := vs)) ?_
      simp; omega

theorem unwS_len {n : Nat} {m : Int} {xs : List Int} : (unwS n m xs).1.length ≤ xs.length := by
  unfold unwS
  split
  · simp
  · split
    · simpa using unwL_len (m := m) (vs := xs) (acc := [])
    · simp

theorem ints0 : Ints 0 [] := ⟨by omega, rfl, rfl⟩

theorem run_6' {n m : Nat} {cs ds : List AV} {b : Int} (h : Segs n cs) (h' : Ints m ds) : (fsZ tz6 (n + 1) 8).call (List RLeaf) 6 [.ofB (.list n cs), .ofB (.list m ds), .ofB (.int .i64 b)] [] (resK [false]) = some [.v (.bool true)] := by
  rw [run_6]
  have e2 : ∀ v w : Int, intsOf [AV.int .i64 v, AV.int .i64 w] = [v, w] := fun _ _ => rfl
  simp only [shut_eq, guardO_dec, condO_dec, condO_not, condO_bne, condO_beq, h, if_true, put2, put5, e2, ints2, firstNZ]
  cases hs : shortS n 20 (segsOf n cs)
  case false => simp
  have hn : n ≤ 66 := by
    unfold shortS at hs
    split at hs
    · cases hs
    · omega
  simp only [if_true]
  by_cases hm : ((m : Int) > 20 ∧ (m : Int) ≤ 256) ∨ (m : Int) > 258
  · rcases hm with ⟨h1, h2⟩ | h3
    · rw [if_pos h1, if_pos h2]
    · rw [if_pos (by omega), if_neg (by omega), if_pos h3]
  have i1 : Ints (stpP n b (segsOf n cs)).1.length (intsL (stpP n b (segsOf n cs)).1) := by
    refine ints_L ?_
    unfold stpP
    split
    · split
      · simp
      · simp [stampsL, segsOf_len]; omega
    · simp
  have i2 : Ints (stampsL (2 ^ b.toNat) (segsOf n cs)).length (intsL (stampsL (2 ^ b.toNat) (segsOf n cs))) := ints_L (by simp [stampsL, segsOf_len]; omega)
  have u0 : ∀ m', (unwS m m' (intsOf ds)).1.length < 9223372036854775808 := fun m' => by
    have := unwS_len (n := m) (m := m') (xs := intsOf ds)
    have := h'.len
    have := h'.1
    omega
  have i3 : Ints (unwS m (2 ^ b.toNat) (intsOf ds)).1.length (intsL (unwS m (2 ^ b.toNat) (intsOf ds)).1) := ints_L (u0 _)
  have i4 : Ints (unwP m b (intsOf ds)).1.length (intsL (unwP m b (intsOf ds)).1) := by
    refine ints_L ?_
    unfold unwP
    split
    · simp
    · exact u0 _
  by_cases h1 : (m : Int) > 20
  all_goals first | rw [if_pos h1, if_neg (show ¬ (m : Int) ≤ 256 by omega), if_neg (by omega)] | rw [if_neg h1, if_neg (by omega)]
  all_goals
    refine loopC_rule (fun k (r : Nat → List AV → Int → Nat → List AV → Nat → List AV → Option (List RLeaf)) => ∀ i : Nat, i + k = n → r n cs (i : Int) 0 [] i (cs.take (i * 5)) = some [RLeaf.v (.bool true)]) ?_ (n + 1) n (by omega) 0 (by omega)
    intro k r ih i hi
    by_cases hk : i < n
    · have hl : 0 < cs.length := by rw [h.len]; omega
      have hl5 : i * 5 + 5 ≤ cs.length := by rw [h.len]; omega
      have hr : (i + 1) * 57 ≤ 549755813888 := by omega
      simp only [Int.ofNat_lt, hk, hl, hl5, hr, if_true, Int.toNat_natCast, h.g0 hk, h.g1 hk, h.g2' hk, h.g3' hk, h.g4' hk, bindO_ok, idx64 h.lt hk, and_true, Int.natCast_nonneg, true_and, h.take_step hk, ih (k - 1) (by omega) (i + 1) (by omega)]
    · obtain rfl : i = n := by omega
      have ht : cs.take (i * 5) = cs := by rw [← h.len, List.take_length]
      simp only [Int.ofNat_lt, hk, if_false, ht, h, h', if_true, i1, i2, i3, i4, ints0, and_self, intsOf_L, true_and]
      by_cases hb : b < 1 ∨ b > 30
      · have hb' : ¬ (1 ≤ b ∧ b ≤ 30) := by omega
        by_cases hc : chkS i (segsOf i cs) = 0
        · simp [hb, hc, stpP, unwP, intsOf]
        · simp [hb, hc, stpP, unwP, intsOf]
      · have hb' : (1 ≤ b ∧ b ≤ 30) := by omega
        by_cases hc : chkS i (segsOf i cs) = 0
        · simp [hb, hb', hc, stpP, unwP, intsOf, show i ≤ 4096 by omega]
        · simp [hb, hb', hc, stpP, unwP, intsOf]

end Go.Abs
end

section
/- Ranges that cover samples: the program's and the reference's. -/
set_option linter.unusedVariables false
set_option linter.unusedSimpArgs false
namespace Go.Abs
open Go.Proofs Classical

theorem put3 (a b c : Int) : putCells (zrow (ofV (Go.Value.agg #[Go.Value.int IntKind.i64 (0 : Int), Go.Value.int IntKind.i64 (0 : Int), Go.Value.int IntKind.i64 (0 : Int)])).cells 3) 0
    [AV.int IntKind.i64 a, AV.int IntKind.i64 b, AV.int IntKind.i64 c] = [AV.int .i64 a, AV.int .i64 b, AV.int .i64 c] := by
  rfl

theorem lastE_app {a : Int} {ss : List SegA} {s : SegA} : lastE a (ss ++ [s]) = endA s := by
  induction ss generalizing a with
  | nil => rfl
  | cons t ss ih => simp only [List.cons_append, lastE]; exact ih

theorem segsOf_last {n : Nat} {cs : List AV} (h : 0 < n) : segsOf n cs = segsOf (n - 1) cs ++ [segAt cs (n - 1)] := by
  obtain ⟨m, rfl⟩ : ∃ m, n = m + 1 := ⟨n - 1, by omega⟩
  simp [segsOf, List.range_succ]

theorem lastE_segs {n : Nat} {cs : List AV} (h : 0 < n) : lastE 0 (segsOf n cs) = endA (segAt cs (n - 1)) := by
  rw [segsOf_last h, lastE_app]

def outR (p : List (Int × Int × Int) × Int) : List RLeaf := [.fz p.1.length (rcells p.1), .v (.int .i64 p.2)]

def covP (n : Nat) (b : Int) (ss : List SegA) : List (Int × Int × Int) × Int :=
  if chkS n ss = 0 then (if covErr b ss = 0 then (covR b ss, 0) else ([], 3)) else ([], chkS n ss)

theorem chkS_L {n : Nat} {ss : List SegA} (h : chkS n ss = 0) : chkL 0 ss = 0 := by
  have := chkS_le h
  unfold chkS at h
  rwa [if_neg (by omega)] at h

theorem not_lt_of_zero {e : Int} {s : SegA} (h : segErr e s = 0) : ¬ s.start < e := by
  obtain ⟨a1, a2, a3, a4, a5, a6, a7, a8, a9⟩ := segErr_zero h
  omega

theorem gt_of {s e : Int} (h1 : ¬ s < e) (h2 : ¬ s = e) : s > e := by omega

theorem mul25 {a : Nat} (h : a ≤ 9000) : a * 25 ≤ 549755813888 := by omega

theorem first2 (c d : Prop) [Decidable c] [Decidable d] : (if (if c then (3 : Int) else 0) = 0 then (if (if d then (3 : Int) else 0) = 0 then (0 : Int) else (if d then 3 else 0)) else (if c then 3 else 0)) = if c ∨ d then 3 else 0 := by
  by_cases hc : c <;> by_cases hd : d <;> simp [hc, hd]

theorem three0 (c : Prop) [Decidable c] : ((if c then (3 : Int) else 0) = 0) = ¬ c := by
  by_cases hc : c <;> simp [hc]

theorem rcells_one {acc : List (Int × Int × Int)} {a b c : Int} : rcells acc ++ [AV.int .i64 a, AV.int .i64 b, AV.int .i64 c] = rcells (acc ++ [(a, b, c)]) := by simp [rcells]

set_option maxHeartbeats 1600000 in
theorem run_46' {n : Nat} {cs : List AV} {b : Int} (h : Segs n cs) : (fsZ tz4 (n + 1) 6).call (List RLeaf) 46 [.ofB (.list n cs), .ofB (.int .i64 b)] [] (resK [true, false]) = some (outR (covP n b (segsOf n cs))) := by
  rw [run_46]
  have e2 : ∀ v w : Int, intsOf [AV.int .i64 v, AV.int .i64 w] = [v, w] := fun _ _ => rfl
  simp only [shut_eq, guardO_dec, condO_dec, condO_bne, h, if_true, put2, put3, e2, ints2, firstNZ, beq_self_eq_true, Bool.true_and, Bool.and_true, condO_not, Bool.and_eq_true, beq_iff_eq, decide_eq_true_eq]
  simp only [first2]
  simp only [three0, ite_not]
  unfold covP
  by_cases hc : chkS n (segsOf n cs) = 0
  case neg => rw [if_neg hc, if_neg hc]; rfl
  rw [if_pos hc, if_pos hc]
  have hn := chkS_le hc
  have hcL := chkS_L hc
  by_cases h0 : n = 0
  · subst h0
    have es : segsOf 0 cs = [] := rfl
    rw [if_neg (by omega)]
    simp only [es, covErr, lastE, covR, covL, decide_eq_true_eq]
    by_cases hb : b < 0 ∨ b > 999999999
    · have hb' : b < 0 ∨ b > 999999999 ∨ b < 0 := by omega
      have hb3 : (b < 0 ∨ b > 999999999) ∨ b < 0 := by omega
      rw [if_pos hb3, if_pos hb3, if_pos hb', if_neg (show ¬ (3 : Int) = 0 by decide)]; rfl
    have hb' : ¬ (b < 0 ∨ b > 999999999 ∨ b < 0) := by omega
    have hb3 : ¬ ((b < 0 ∨ b > 999999999) ∨ b < 0) := by omega
    rw [if_neg hb3, if_neg hb', if_pos rfl]
    rw [loopC_succ]
    simp only [Int.ofNat_lt, Nat.lt_irrefl, if_false, Int.natCast_zero, Int.lt_irrefl]
    by_cases hb4 : b = 0
    · subst hb4; simp [outR, rcells]
    · have : b > 0 := by omega
      simp [hb4, this, outR, rcells]
  have hn0 : 0 < n := Nat.pos_of_ne_zero h0
  have hl : 0 < cs.length := by rw [h.len]; omega
  have hn1 : n - 1 < n := by omega
  have e1 : IntKind.i64.wrap ((n : Int) - 1) = ((n - 1 : Nat) : Int) := by rw [wrap64] <;> omega
  have hlt : ((n - 1 : Nat) : Int) < (n : Int) := by omega
  have hl5 : (n - 1) * 5 + 5 ≤ cs.length := by rw [h.len]; omega
  rw [if_pos (show (n : Int) > 0 by omega)]
  simp only [e1, Int.toNat_natCast, Int.natCast_nonneg, hlt, hl, hl5, and_self, if_true, h.g0 hn1, h.g1 hn1, h.g2' hn1, h.g3' hn1, h.g4' hn1, bindO_ok]
  have hL : IntKind.i64.wrap ((segAt cs (n - 1)).start + ((segAt cs (n - 1)).k : Int)) = lastE 0 (segsOf n cs) := (lastE_segs hn0).symm
  simp only [hL, decide_eq_true_eq]
  unfold covErr covR
  generalize lastE 0 (segsOf n cs) = L
  by_cases hb3 : (b < 0 ∨ b > 999999999) ∨ b < L
  · have hb' : b < 0 ∨ b > 999999999 ∨ b < L := by omega
    rw [if_pos hb3, if_pos hb3, if_pos hb', if_neg (show ¬ (3 : Int) = 0 by decide)]; rfl
  have hb' : ¬ (b < 0 ∨ b > 999999999 ∨ b < L) := by omega
  have hbL : ¬ b < L := by omega
  rw [if_neg hb3, if_neg hb', if_pos rfl]
  clear e1 hlt hl5 hL e2 hb3 hb' hn1
  refine loopC_rule (fun k (r : Int → Nat → List AV → Int → Int → Nat → List AV → Nat → List AV → Nat → List AV → Int → Nat → List AV → Nat → List AV → Int → Int → Int → Int → Int → Nat → List AV → Int → Int → Bool → Nat → List AV → Int → Bool → Nat → List AV → Nat → List AV → Int → Int → List AV → Nat → Int → Int → Nat → List AV → Int → Int → Int → Int → Int → Int → Int → Bool → Int → Int → Int → Bool → Nat → List AV → Option (List RLeaf)) => ∀ (i : Nat) (e : Int) (acc : List (Int × Int × Int)) (y5 : Nat) (y6 : List AV) (y7 : Nat) (y8 : List AV) (y12 : Nat) (y13 : List AV) (y14 : Nat) (y15 : List AV) (y16 : Int) (y17 : Int) (y18 : Int) (y19 : Int) (y20 : Int) (y21 : Nat) (y22 : List AV) (y23 : Int) (y24 : Int) (y25 : Bool) (y26 : Nat) (y27 : List AV) (y28 : Int) (y29 : Bool) (y30 : Nat) (y31 : List AV) (y32 : Nat) (y33 : List AV) (y34 : Int) (y35 : Int) (y36 : List AV) (y37 : Nat) (y38 : Int) (y39 : Int) (y40 : Nat) (y41 : List AV) (y42 : Int) (y43 : Int) (y44 : Int) (y45 : Int) (y46 : Int) (y47 : Int) (y48 : Int) (y49 : Bool) (y50 : Int) (y51 : Int) (y52 : Int) (y53 : Bool) (y54 : Nat) (y55 : List AV), i + k = n → acc.length ≤ 2 * i → chkL e ((segsOf n cs).drop i) = 0 →
    r e n cs (n : Int) (i : Int) y5 y6 y7 y8 acc.length (rcells acc) (i : Int) y12 y13 y14 y15 y16 y17 y18 y19 y20 y21 y22 y23 y24 y25 y26 y27 y28 y29 y30 y31 y32 y33 y34 y35 y36 y37 y38 y39 y40 y41 y42 y43 y44 y45 y46 y47 y48 y49 y50 y51 y52 y53 y54 y55 = some (outR (acc ++ covL e i ((segsOf n cs).drop i) ++ (if b > L then [(L, b, 0)] else []), 0))) ?_ (n + 1) n (by omega) 0 0 [] _ _ _ _ _ _ _ _ _ _ _ _ _ _ _ _ _ _ _ _ _ _ _ _ _ _ _ _ _ _ _ _ _ _ _ _ _ _ _ _ _ _ _ _ _ _ _ _ (by omega) (by simp) hcL
  intro k r ih i e acc y5 y6 y7 y8 y12 y13 y14 y15 y16 y17 y18 y19 y20 y21 y22 y23 y24 y25 y26 y27 y28 y29 y30 y31 y32 y33 y34 y35 y36 y37 y38 y39 y40 y41 y42 y43 y44 y45 y46 y47 y48 y49 y50 y51 y52 y53 y54 y55 hi hacc hch
  by_cases hk : i < n
  · have hi5 : i * 5 + 5 ≤ cs.length := by rw [h.len]; omega
    have l1 : acc.length + 1 ≤ 9000 := by omega
    have l2 : acc.length + 1 + 1 ≤ 9000 := by omega
    have ni : ¬ (((i + 1 : Nat) : Int) = 0) := by omega
    have o1 : k - 1 < k := by omega
    have o2 : i + 1 + (k - 1) = n := by omega
    have o3 : acc.length + 1 ≤ 2 * (i + 1) := by omega
    have o4 : acc.length + 1 + 1 ≤ 2 * (i + 1) := by omega
    have nE : ¬ (endA (segAt cs i) = (segAt cs i).start ∧ ((i + 1 : Nat) : Int) = 0) := fun hh => ni hh.2
    have r1 := mul25 l1
    have r2 := mul25 l2
    have hw : IntKind.i64.wrap ((segAt cs i).start + ((segAt cs i).k : Int)) = endA (segAt cs i) := rfl
    rw [segsOf_drop hk] at hch ⊢
    obtain ⟨q1, q2⟩ := chkL_cons hch
    have a5 : ¬ (segAt cs i).start < e := not_lt_of_zero q1
    clear q1
    simp only [Int.ofNat_lt, hk, hl, hi5, if_true, Int.toNat_natCast, h.g0 hk, h.g1 hk, h.g2' hk, h.g3' hk, h.g4' hk, bindO_ok, idx64 h.lt hk, and_true, Int.natCast_nonneg, true_and, hw, r1, r2, nE, if_false]
    by_cases hs : (segAt cs i).start = e
    · rw [if_pos hs]
      have := ih (k - 1) o1 (i + 1) (endA (segAt cs i)) (acc ++ [((segAt cs i).start, endA (segAt cs i), ((i + 1 : Nat) : Int))])
      rw [← rcells_one] at this
      simp only [List.length_append, List.length_cons, List.length_nil, Nat.zero_add] at this
      rw [this]
      · simp [covL, hs]
      · exact o2
      · exact o3
      · exact q2
    · rw [if_neg hs]
      have hgt : (segAt cs i).start > e := gt_of a5 hs
      have := ih (k - 1) o1 (i + 1) (endA (segAt cs i)) (acc ++ [(e, (segAt cs i).start, 0)] ++ [((segAt cs i).start, endA (segAt cs i), ((i + 1 : Nat) : Int))])
      rw [← rcells_one, ← rcells_one] at this
      simp only [List.length_append, List.length_cons, List.length_nil, Nat.zero_add] at this
      rw [this]
      · simp [covL, hgt]
      · exact o2
      · exact o4
      · exact q2
  · have hd : (segsOf n cs).drop i = [] := by rw [List.drop_eq_nil_iff, segsOf_len]; omega
    have r1 : (acc.length + 1) * 25 ≤ 549755813888 := by omega
    simp only [Int.ofNat_lt, hk, if_false, hd, covL, List.append_nil, r1, if_true]
    by_cases hbl : b = L
    · have : ¬ b > L := by omega
      simp [hbl, outR]
    · have : b > L := by omega
      simp [hbl, this, outR, rcells_one]

theorem run_47' {n : Nat} {cs : List AV} {b : Int} (h : Segs n cs) : (fsZ tz4 (n + 1) 6).call (List RLeaf) 47 [.ofB (.list n cs), .ofB (.int .i64 b)] [] (resK [false]) = some [.v (.int .i64 (covErr b (segsOf n cs)))] := by
  rw [run_47]
  simp only [shut_eq, guardO_dec, condO_dec, covErr]
  by_cases hb : b < 0 ∨ b > 999999999
  · have hb' : b < 0 ∨ b > 999999999 ∨ b < lastE 0 (segsOf n cs) := by omega
    simp only [hb, hb', if_true]
  by_cases h0 : n = 0
  · subst h0
    have hb' : ¬ (b < 0 ∨ b > 999999999 ∨ b < lastE 0 (segsOf 0 cs)) := by
      have : lastE 0 (segsOf 0 cs) = 0 := rfl
      omega
    simp only [hb, hb', if_false]
    simp
  have hn0 : 0 < n := Nat.pos_of_ne_zero h0
  have hl : 0 < cs.length := by rw [h.len]; omega
  have hn1 : n - 1 < n := by omega
  have hlt0 := h.lt
  have e1 : IntKind.i64.wrap ((n : Int) - 1) = ((n - 1 : Nat) : Int) := by rw [wrap64] <;> omega
  have hlt : ((n - 1 : Nat) : Int) < (n : Int) := by omega
  have hl5 : (n - 1) * 5 + 5 ≤ cs.length := by rw [h.len]; omega
  simp only [hb, if_false]
  rw [if_pos (show (n : Int) > 0 by omega)]
  simp only [e1, Int.toNat_natCast, Int.natCast_nonneg, hlt, hl, hl5, and_self, if_true, h.g0 hn1, h.g1 hn1, h.g2' hn1, h.g3' hn1, h.g4' hn1, bindO_ok]
  have hL : IntKind.i64.wrap ((segAt cs (n - 1)).start + ((segAt cs (n - 1)).k : Int)) = lastE 0 (segsOf n cs) := (lastE_segs hn0).symm
  simp only [hL]
  by_cases hbL : b < lastE 0 (segsOf n cs)
  · have hb' : b < 0 ∨ b > 999999999 ∨ b < lastE 0 (segsOf n cs) := by omega
    rw [if_pos hbL, if_pos hb']
  · have hb' : ¬ (b < 0 ∨ b > 999999999 ∨ b < lastE 0 (segsOf n cs)) := by omega
    rw [if_neg hbL, if_neg hb']

theorem lastE_cov {e : Int} {i : Nat} : True := trivial

set_option maxHeartbeats 1600000 in
theorem run_48' {n : Nat} {cs : List AV} {b : Int} (h : Segs n cs) (hn : n ≤ 4096) : (fsZ tz4 (n + 1) 6).call (List RLeaf) 48 [.ofB (.list n cs), .ofB (.int .i64 b)] [] (resK [true]) = some [.fz (covR b (segsOf n cs)).length (rcells (covR b (segsOf n cs)))] := by
  rw [run_48]
  simp only [shut_eq, guardO_dec, condO_dec, put3]
  unfold covR
  refine loopC_rule (fun k (r : Nat → List AV → Int → Int → Int → Nat → List AV → Nat → List AV → Option (List RLeaf)) => ∀ (i : Nat) (e : Int) (acc : List (Int × Int × Int)), i + k = n → acc.length ≤ 2 * i →
    r n cs b e (i : Int) 0 [] acc.length (rcells acc) = some [.fz (acc ++ covL e i ((segsOf n cs).drop i) ++ (if b > lastE e ((segsOf n cs).drop i) then [(lastE e ((segsOf n cs).drop i), b, 0)] else [])).length
      (rcells (acc ++ covL e i ((segsOf n cs).drop i) ++ (if b > lastE e ((segsOf n cs).drop i) then [(lastE e ((segsOf n cs).drop i), b, 0)] else [])))]) ?_ (n + 1) n (by omega) 0 0 [] (by omega) (by simp)
  intro k r ih i e acc hi hacc
  have l1 : acc.length + 1 ≤ 9000 := by omega
  have l2 : acc.length + 1 + 1 ≤ 9000 := by omega
  by_cases hk : i < n
  · have hl : 0 < cs.length := by rw [h.len]; omega
    have hi5 : i * 5 + 5 ≤ cs.length := by rw [h.len]; omega
    have o1 : k - 1 < k := by omega
    have o2 : i + 1 + (k - 1) = n := by omega
    have o3 : acc.length + 1 ≤ 2 * (i + 1) := by omega
    have o4 : acc.length + 1 + 1 ≤ 2 * (i + 1) := by omega
    have r1 := mul25 l1
    have r2 := mul25 l2
    have hw : IntKind.i64.wrap ((segAt cs i).start + ((segAt cs i).k : Int)) = endA (segAt cs i) := rfl
    rw [segsOf_drop hk]
    simp only [Int.ofNat_lt, hk, hl, hi5, if_true, Int.toNat_natCast, Nat.add_zero, h.g0 hk, h.g1 hk, h.g2' hk, h.g3' hk, h.g4' hk, bindO_ok, idx64 h.lt hk, and_true, Int.natCast_nonneg, true_and, hw, r1, r2, lastE]
    by_cases hs : (segAt cs i).start > e
    · rw [if_pos hs]
      have := ih (k - 1) o1 (i + 1) (endA (segAt cs i)) (acc ++ [(e, (segAt cs i).start, 0)] ++ [((segAt cs i).start, endA (segAt cs i), ((i + 1 : Nat) : Int))])
      rw [← rcells_one, ← rcells_one] at this
      simp only [List.length_append, List.length_cons, List.length_nil, Nat.zero_add] at this
      rw [this]
      · simp [covL, hs, rcells]
        clear r1 r2 this ih
        omega
      · exact o2
      · exact o4
    · rw [if_neg hs]
      have := ih (k - 1) o1 (i + 1) (endA (segAt cs i)) (acc ++ [((segAt cs i).start, endA (segAt cs i), ((i + 1 : Nat) : Int))])
      rw [← rcells_one] at this
      simp only [List.length_append, List.length_cons, List.length_nil, Nat.zero_add] at this
      rw [this]
      · simp [covL, hs, rcells]
        clear r1 r2 this ih
        omega
      · exact o2
      · exact o3
  · have hd : (segsOf n cs).drop i = [] := by rw [List.drop_eq_nil_iff, segsOf_len]; omega
    have r1 := mul25 l1
    simp only [Int.ofNat_lt, hk, if_false, hd, covL, List.append_nil, r1, if_true, lastE]
    by_cases hbl : b > e
    · simp [hbl, rcells]
    · simp [hbl, rcells]

end Go.Abs
end

section
/- Entries: ranges that cover samples (printed by mkent.py). -/
set_option linter.unusedVariables false
set_option linter.unusedSimpArgs false
namespace Go.Abs
open Go.Proofs Classical

noncomputable def eCovP : Ent := fun args' R K => match args' with
  | [.list n cs, .int .i64 b] => guardO (shut (decide (Segs n cs))) (K [.fz (shut ((covP n b (segsOf n cs)).1.length)) (shut (rcells (covP n b (segsOf n cs)).1)), .v (.int .i64 (shut ((covP n b (segsOf n cs)).2)))])
  | _ => none

theorem eCovP_46 : EntOk Tryz.prog 46 eCovP := by
  intro args' R K r ha h
  unfold eCovP at h
  split at h
  · rename_i n cs b
    obtain ⟨h1, h2⟩ := guardO_some h
    rw [shut_eq] at h1
    have h1' := of_decide_eq_true h1
    refine ⟨[.fz ((covP n b (segsOf n cs)).1.length) (rcells (covP n b (segsOf n cs)).1), .v (.int .i64 ((covP n b (segsOf n cs)).2))], fun _ _ => by simp only [eCovP, shut_eq, h1', decide_true, guardO, and_self], ?_, con_of tz4_ok (N := n + 1) (k := 6) (ms := [true, false]) ?_ ha ⟨rcells_plain, trivial⟩⟩
    · intro l hl; rcases List.mem_cons.1 hl with rfl | hl
      · exact (leaf_fz (rcells_plain))
      rcases List.mem_cons.1 hl with rfl | hl
      · exact leaf_int
      cases hl
    · exact run_46' h1'
  · cases h

noncomputable def eCovE : Ent := fun args' R K => match args' with
  | [.list n cs, .int .i64 b] => guardO (shut (decide (Segs n cs))) (K [.v (.int .i64 (shut (covErr b (segsOf n cs))))])
  | _ => none

theorem eCovE_47 : EntOk Tryz.prog 47 eCovE := by
  intro args' R K r ha h
  unfold eCovE at h
  split at h
  · rename_i n cs b
    obtain ⟨h1, h2⟩ := guardO_some h
    rw [shut_eq] at h1
    have h1' := of_decide_eq_true h1
    refine ⟨[.v (.int .i64 (covErr b (segsOf n cs)))], fun _ _ => by simp only [eCovE, shut_eq, h1', decide_true, guardO, and_self], ?_, con_of tz4_ok (N := n + 1) (k := 6) (ms := [false]) ?_ ha trivial⟩
    · intro l hl; rcases List.mem_cons.1 hl with rfl | hl
      · exact leaf_int
      cases hl
    · exact run_47' h1'
  · cases h

noncomputable def eCovR : Ent := fun args' R K => match args' with
  | [.list n cs, .int .i64 b] => guardO (shut (decide (Segs n cs ∧ n ≤ 4096))) (K [.fz (shut ((covR b (segsOf n cs)).length)) (shut (rcells (covR b (segsOf n cs))))])
  | _ => none

theorem eCovR_48 : EntOk Tryz.prog 48 eCovR := by
  intro args' R K r ha h
  unfold eCovR at h
  split at h
  · rename_i n cs b
    obtain ⟨h1, h2⟩ := guardO_some h
    rw [shut_eq] at h1
    have h1' := of_decide_eq_true h1
    refine ⟨[.fz ((covR b (segsOf n cs)).length) (rcells (covR b (segsOf n cs)))], fun _ _ => by simp only [eCovR, shut_eq, h1', decide_true, guardO, and_self], ?_, con_of tz4_ok (N := n + 1) (k := 6) (ms := [true]) ?_ ha ⟨rcells_plain, trivial⟩⟩
    · intro l hl; rcases List.mem_cons.1 hl with rfl | hl
      · exact (leaf_fz (rcells_plain))
      cases hl
    · exact run_48' h1'.1 h1'.2
  · cases h


noncomputable def tz9 : List (FuncId × Ent) := (46, eCovP) :: (47, eCovE) :: (48, eCovR) :: tz6

theorem tz9_ok : TabLOk Tryz.prog tz9 := ⟨eCovP_46, eCovE_47, eCovR_48, tz6_ok⟩

end Go.Abs
end

section
/- Functions of the Acquire seat, lifted (printed by the tool gen.py). -/
set_option maxRecDepth 100000
set_option linter.unusedVariables false
namespace Go.Abs
open Go.Proofs Classical

theorem run_5 (N : Nat) (n : Nat) (cs : List AV) (b : Int) : (fsZ tz9 N 8).call (List RLeaf) 5 [.ofB (.list n cs), .ofB (.int .i64 b)] [] (resK [false]) = (
 guardO (shut (decide (Segs n cs))) <|
 condO (!shut (shortS n (20 : Int) (segsOf n cs)))
  (
  some [RLeaf.v (AV.bool true)])
  (
  guardO (shut (decide (Segs n cs))) <|
  loopC N (fun r_3 (x0_3 : Nat) (x1_3 : List AV) (x2_3 : Int) (x3_3 : Nat) (x4_3 : List AV) (x5_3 : Nat) (x6_3 : List AV) =>
    condO (shut (decide (x2_3 < (↑x0_3 : Int))))
     (
     guardO (shut (decide ((0 : Int) ≤ x2_3 ∧ x2_3 < (↑x0_3 : Int) ∧ 0 < x1_3.length))) <|
     guardO (shut (decide (x2_3.toNat * 5 + 5 ≤ x1_3.length))) <|
     bindO (asInt IntKind.i64 (x1_3.getD (x2_3.toNat * 5) AV.top)) fun v7 =>
     bindO (asInt IntKind.i64 (x1_3.getD (x2_3.toNat * 5 + 1) AV.top)) fun v8 =>
     bindO (asList (x1_3.getD (x2_3.toNat * 5 + 1 + 1) AV.top)) fun v9 =>
     bindO (asInt IntKind.i64 (x1_3.getD (x2_3.toNat * 5 + 1 + 1 + 1) AV.top)) fun v10 =>
     bindO (asInt IntKind.i64 (x1_3.getD (x2_3.toNat * 5 + 1 + 1 + 1 + 1) AV.top)) fun v11 =>
     guardO (shut (decide ((x5_3 + 1) * 57 ≤ 549755813888))) <|
     r_3 (x0_3) (x1_3) (shut (IntKind.i64.wrap (x2_3 + (1 : Int)))) (x3_3) (x4_3) (x5_3 + 1) (x6_3 ++ putCells (zrow (ofV (Go.Value.agg #[Go.Value.int IntKind.i64 (0 : Int), Go.Value.int IntKind.i64 (0 : Int), Go.Value.slice Option.none 0 0, Go.Value.int IntKind.i64 (0 : Int), Go.Value.int IntKind.i64 (0 : Int)])).cells 5) 0 [AV.int IntKind.i64 v7, AV.int IntKind.i64 v8, AV.list v9.fst v9.snd, AV.int IntKind.i64 v10, AV.int IntKind.i64 v11]))
     (
     guardO (shut (decide (Segs x5_3 x6_3))) <|
     condO (shut (shut (chkS x5_3 (segsOf x5_3 x6_3)) != shut (chkS n (segsOf n cs))))
      (
      some [RLeaf.v (AV.bool false)])
      (
      loopC N (fun r_7 (x0_7 : Nat) (x1_7 : List AV) (x2_7 : Int) (x3_7 : Nat) (x4_7 : List AV) (x5_7 : Nat) (x6_7 : List AV) (x7_7 : Nat) (x8_7 : List AV) (x9_7 : Nat) (x10_7 : List AV) =>
        condO (shut (decide (x2_7 < (↑x0_7 : Int))))
         (
         guardO (shut (decide ((0 : Int) ≤ x2_7 ∧ x2_7 < (↑x0_7 : Int) ∧ 0 < x1_7.length))) <|
         guardO (shut (decide (x2_7.toNat * 5 + 5 ≤ x1_7.length))) <|
         bindO (asInt IntKind.i64 (x1_7.getD (x2_7.toNat * 5) AV.top)) fun v11 =>
         bindO (asInt IntKind.i64 (x1_7.getD (x2_7.toNat * 5 + 1) AV.top)) fun v12 =>
         bindO (asList (x1_7.getD (x2_7.toNat * 5 + 1 + 1) AV.top)) fun v13 =>
         bindO (asInt IntKind.i64 (x1_7.getD (x2_7.toNat * 5 + 1 + 1 + 1) AV.top)) fun v14 =>
         bindO (asInt IntKind.i64 (x1_7.getD (x2_7.toNat * 5 + 1 + 1 + 1 + 1) AV.top)) fun v15 =>
         guardO (shut (decide ((x9_7 + 1) * 57 ≤ 549755813888))) <|
         r_7 (x0_7) (x1_7) (shut (IntKind.i64.wrap (x2_7 + (1 : Int)))) (x3_7) (x4_7) (x5_7) (x6_7) (x7_7) (x8_7) (x9_7 + 1) (x10_7 ++ putCells (zrow (ofV (Go.Value.agg #[Go.Value.int IntKind.i64 (0 : Int), Go.Value.int IntKind.i64 (0 : Int), Go.Value.slice Option.none 0 0, Go.Value.int IntKind.i64 (0 : Int), Go.Value.int IntKind.i64 (0 : Int)])).cells 5) 0 [AV.int IntKind.i64 v11, AV.int IntKind.i64 v12, AV.list v13.fst v13.snd, AV.int IntKind.i64 v14, AV.int IntKind.i64 v15]))
         (
         guardO (shut (decide (Segs x9_7 x10_7))) <|
         guardO (shut (decide (Ints 1 (putCells (zrow (ofV (Go.Value.int IntKind.i64 (0 : Int))).cells 1) 0 [AV.int IntKind.i64 (shut (chkS n (segsOf n cs)))])))) <|
         condO (shut (shut (firstNZ (intsOf (putCells (zrow (ofV (Go.Value.int IntKind.i64 (0 : Int))).cells 1) 0 [AV.int IntKind.i64 (shut (chkS n (segsOf n cs)))]))) == (0 : Int)))
          (
          guardO (shut (decide (Segs n cs))) <|
          condO (shut (shut (covErr b (segsOf n cs)) != (0 : Int)))
           (
           condO (shut ((↑(shut (covP x9_7 b (segsOf x9_7 x10_7)).fst.length) : Int) == (0 : Int)))
            (
            some [RLeaf.v (AV.bool (shut (shut (covP x9_7 b (segsOf x9_7 x10_7)).snd == shut (covErr b (segsOf n cs)))))])
            (
            some [RLeaf.v (AV.bool false)]))
           (
           guardO (shut (decide (Segs n cs ∧ n ≤ 4096))) <|
           condO (shut (shut (covP x9_7 b (segsOf x9_7 x10_7)).snd != (0 : Int)))
            (
            some [RLeaf.v (AV.bool false)])
            (
            condO (shut ((↑(shut (covP x9_7 b (segsOf x9_7 x10_7)).fst.length) : Int) != (↑(shut (covR b (segsOf n cs)).length) : Int)))
             (
             some [RLeaf.v (AV.bool false)])
             (
             loopC N (fun r_17 (x0_17 : Nat) (x1_17 : List AV) (x2_17 : Nat) (x3_17 : List AV) (x4_17 : Int) (x5_17 : Nat) (x6_17 : List AV) (x7_17 : Nat) (x8_17 : List AV) (x9_17 : Nat) (x10_17 : List AV) (x11_17 : Nat) (x12_17 : List AV) (x13_17 : Nat) (x14_17 : List AV) =>
               condO (shut (decide (x4_17 < (↑x0_17 : Int))))
                (
                guardO (shut (decide ((0 : Int) ≤ x4_17 ∧ x4_17 < (↑x0_17 : Int) ∧ 0 < x1_17.length))) <|
                guardO (shut (decide (x4_17.toNat * 3 + 3 ≤ x1_17.length))) <|
                bindO (asInt IntKind.i64 (x1_17.getD (x4_17.toNat * 3) AV.top)) fun v21 =>
                bindO (asInt IntKind.i64 (x1_17.getD (x4_17.toNat * 3 + 1) AV.top)) fun v22 =>
                bindO (asInt IntKind.i64 (x1_17.getD (x4_17.toNat * 3 + 1 + 1) AV.top)) fun v23 =>
                guardO (shut (decide ((0 : Int) ≤ x4_17 ∧ x4_17 < (↑x2_17 : Int) ∧ 0 < x3_17.length))) <|
                guardO (shut (decide (x4_17.toNat * 3 + 3 ≤ x3_17.length))) <|
                bindO (asInt IntKind.i64 (x3_17.getD (x4_17.toNat * 3) AV.top)) fun v26 =>
                bindO (asInt IntKind.i64 (x3_17.getD (x4_17.toNat * 3 + 1) AV.top)) fun v27 =>
                bindO (asInt IntKind.i64 (x3_17.getD (x4_17.toNat * 3 + 1 + 1) AV.top)) fun v28 =>
                condO (shut !(shut (v21 == v26) && (shut (v22 == v27) && (shut (v23 == v28) && true))))
                 (
                 some [RLeaf.v (AV.bool false)])
                 (
                 r_17 (x0_17) (x1_17) (x2_17) (x3_17) (shut (IntKind.i64.wrap (x4_17 + (1 : Int)))) (x5_17) (x6_17) (x7_17) (x8_17) (x9_17) (x10_17) (x11_17) (x12_17) (x13_17) (x14_17)))
                (
                some [RLeaf.v (AV.bool true)]))
               (fun _ _ _ _ _ _ _ _ _ _ _ _ _ _ _ => none) (shut (covP x9_7 b (segsOf x9_7 x10_7)).fst.length) (shut (rcells (covP x9_7 b (segsOf x9_7 x10_7)).fst)) (shut (covR b (segsOf n cs)).length) (shut (rcells (covR b (segsOf n cs)))) ((0 : Int)) (x3_7) (x4_7) (x5_7) (x6_7) (x7_7) (x8_7) (x9_7) (x10_7) (1) (putCells (zrow (ofV (Go.Value.int IntKind.i64 (0 : Int))).cells 1) 0 [AV.int IntKind.i64 (shut (chkS n (segsOf n cs)))])))))
          (
          condO (shut (shut (firstNZ (intsOf (putCells (zrow (ofV (Go.Value.int IntKind.i64 (0 : Int))).cells 1) 0 [AV.int IntKind.i64 (shut (chkS n (segsOf n cs)))]))) != (0 : Int)))
           (
           condO (shut ((↑(shut (covP x9_7 b (segsOf x9_7 x10_7)).fst.length) : Int) == (0 : Int)))
            (
            some [RLeaf.v (AV.bool (shut (shut (covP x9_7 b (segsOf x9_7 x10_7)).snd == shut (firstNZ (intsOf (putCells (zrow (ofV (Go.Value.int IntKind.i64 (0 : Int))).cells 1) 0 [AV.int IntKind.i64 (shut (chkS n (segsOf n cs)))]))))))])
            (
            some [RLeaf.v (AV.bool false)]))
           (
           guardO (shut (decide (Segs n cs ∧ n ≤ 4096))) <|
           condO (shut (shut (covP x9_7 b (segsOf x9_7 x10_7)).snd != (0 : Int)))
            (
            some [RLeaf.v (AV.bool false)])
            (
            condO (shut ((↑(shut (covP x9_7 b (segsOf x9_7 x10_7)).fst.length) : Int) != (↑(shut (covR b (segsOf n cs)).length) : Int)))
             (
             some [RLeaf.v (AV.bool false)])
             (
             loopC N (fun r_16 (x0_16 : Nat) (x1_16 : List AV) (x2_16 : Nat) (x3_16 : List AV) (x4_16 : Int) (x5_16 : Nat) (x6_16 : List AV) (x7_16 : Nat) (x8_16 : List AV) (x9_16 : Nat) (x10_16 : List AV) (x11_16 : Nat) (x12_16 : List AV) (x13_16 : Nat) (x14_16 : List AV) =>
               condO (shut (decide (x4_16 < (↑x0_16 : Int))))
                (
                guardO (shut (decide ((0 : Int) ≤ x4_16 ∧ x4_16 < (↑x0_16 : Int) ∧ 0 < x1_16.length))) <|
                guardO (shut (decide (x4_16.toNat * 3 + 3 ≤ x1_16.length))) <|
                bindO (asInt IntKind.i64 (x1_16.getD (x4_16.toNat * 3) AV.top)) fun v20 =>
                bindO (asInt IntKind.i64 (x1_16.getD (x4_16.toNat * 3 + 1) AV.top)) fun v21 =>
                bindO (asInt IntKind.i64 (x1_16.getD (x4_16.toNat * 3 + 1 + 1) AV.top)) fun v22 =>
                guardO (shut (decide ((0 : Int) ≤ x4_16 ∧ x4_16 < (↑x2_16 : Int) ∧ 0 < x3_16.length))) <|
                guardO (shut (decide (x4_16.toNat * 3 + 3 ≤ x3_16.length))) <|
                bindO (asInt IntKind.i64 (x3_16.getD (x4_16.toNat * 3) AV.top)) fun v25 =>
                bindO (asInt IntKind.i64 (x3_16.getD (x4_16.toNat * 3 + 1) AV.top)) fun v26 =>
                bindO (asInt IntKind.i64 (x3_16.getD (x4_16.toNat * 3 + 1 + 1) AV.top)) fun v27 =>
                condO (shut !(shut (v20 == v25) && (shut (v21 == v26) && (shut (v22 == v27) && true))))
                 (
                 some [RLeaf.v (AV.bool false)])
                 (
                 r_16 (x0_16) (x1_16) (x2_16) (x3_16) (shut (IntKind.i64.wrap (x4_16 + (1 : Int)))) (x5_16) (x6_16) (x7_16) (x8_16) (x9_16) (x10_16) (x11_16) (x12_16) (x13_16) (x14_16)))
                (
                some [RLeaf.v (AV.bool true)]))
               (fun _ _ _ _ _ _ _ _ _ _ _ _ _ _ _ => none) (shut (covP x9_7 b (segsOf x9_7 x10_7)).fst.length) (shut (rcells (covP x9_7 b (segsOf x9_7 x10_7)).fst)) (shut (covR b (segsOf n cs)).length) (shut (rcells (covR b (segsOf n cs)))) ((0 : Int)) (x3_7) (x4_7) (x5_7) (x6_7) (x7_7) (x8_7) (x9_7) (x10_7) (1) (putCells (zrow (ofV (Go.Value.int IntKind.i64 (0 : Int))).cells 1) 0 [AV.int IntKind.i64 (shut (chkS n (segsOf n cs)))])))))))
        (fun _ _ _ _ _ _ _ _ _ _ _ => none) (n) (cs) ((0 : Int)) (x3_3) (x4_3) (x5_3) (x6_3) (0) ([]) (0) ([]))))
    (fun _ _ _ _ _ _ _ => none) (n) (cs) ((0 : Int)) (0) ([]) (0) ([]))) := by kernel_rfl


end Go.Abs
end

section
/- The law AcquireCovers. -/
set_option linter.unusedVariables false
set_option linter.unusedSimpArgs false
namespace Go.Abs
open Go.Proofs Classical

theorem ints1' (a : Int) : Ints 1 [AV.int .i64 a] := ⟨by omega, rfl, rfl⟩

theorem covR_len {b : Int} {ss : List SegA} : (covR b ss).length ≤ 2 * ss.length + 1 := by
  have h : ∀ (ss : List SegA) (a : Int) (i : Nat), (covL a i ss).length ≤ 2 * ss.length := by
    intro ss
    induction ss with
    | nil => intro a i; simp [covL]
    | cons s ss ih =>
      intro a i
      have := ih (endA s) (i + 1)
      simp only [covL, List.length_append, List.length_cons]
      split <;> simp <;> omega
  have := h ss 0 0
  unfold covR
  rw [List.length_append]
  split <;> simp <;> omega

theorem covErr_cases (b : Int) (ss : List SegA) : covErr b ss = 0 ∨ covErr b ss = 3 := by
  unfold covErr; split <;> simp

theorem run_5' {n : Nat} {cs : List AV} {b : Int} (h : Segs n cs) : (fsZ tz9 (3 * n + 3) 8).call (List RLeaf) 5 [.ofB (.list n cs), .ofB (.int .i64 b)] [] (resK [false]) = some [.v (.bool true)] := by
  rw [run_5]
  have e1 : ∀ v : Int, intsOf [AV.int IntKind.i64 v] = [v] := fun _ => rfl
  simp only [shut_eq, guardO_dec, condO_dec, condO_not, condO_bne, condO_beq, h, if_true, put5, put1, e1, ints1', firstNZ]
  try simp only [condO_bool]
  cases hs : shortS n 20 (segsOf n cs)
  case false => simp
  simp only [if_true]
  have hn : n ≤ 66 := by
    unfold shortS at hs
    split at hs
    · cases hs
    · omega
  have hl0 := h.len
  refine loopC_rule (fun k (r : Nat → List AV → Int → Nat → List AV → Nat → List AV → Option (List RLeaf)) => ∀ q : Nat, q + k = n → r n cs (q : Int) 0 [] q (cs.take (q * 5)) = some [RLeaf.v (.bool true)]) ?_ (3 * n + 3) n (by omega) 0 (by omega)
  intro k r ih q hq
  by_cases hk : q < n
  · have hl : 0 < cs.length := by rw [h.len]; omega
    have hl5 : q * 5 + 5 ≤ cs.length := by rw [h.len]; omega
    have hr : (q + 1) * 57 ≤ 549755813888 := by omega
    simp only [Int.ofNat_lt, hk, hl, hl5, hr, if_true, Int.toNat_natCast, h.g0 hk, h.g1 hk, h.g2' hk, h.g3' hk, h.g4' hk, bindO_ok, idx64 h.lt hk, and_true, Int.natCast_nonneg, true_and, h.take_step hk, ih (k - 1) (by omega) (q + 1) (by omega)]
  have hqn : q = n := by omega
  rw [hqn] at hk ⊢
  have ht : cs.take (n * 5) = cs := by rw [← h.len, List.take_length]
  simp only [Int.ofNat_lt, hk, if_false, ht, h, if_true]
  clear ih r hq hqn k q hk
  refine loopC_rule (fun k (r : Nat → List AV → Int → Nat → List AV → Nat → List AV → Nat → List AV → Nat → List AV → Option (List RLeaf)) => ∀ q : Nat, q + k = n → r n cs (q : Int) 0 [] n cs 0 [] q (cs.take (q * 5)) = some [RLeaf.v (.bool true)]) ?_ (3 * n + 3) n (by omega) 0 (by omega)
  intro k r ih q hq
  by_cases hk : q < n
  · have hl : 0 < cs.length := by rw [h.len]; omega
    have hl5 : q * 5 + 5 ≤ cs.length := by rw [h.len]; omega
    have hr : (q + 1) * 57 ≤ 549755813888 := by omega
    simp only [Int.ofNat_lt, hk, hl, hl5, hr, if_true, Int.toNat_natCast, h.g0 hk, h.g1 hk, h.g2' hk, h.g3' hk, h.g4' hk, bindO_ok, idx64 h.lt hk, and_true, Int.natCast_nonneg, true_and, h.take_step hk, ih (k - 1) (by omega) (q + 1) (by omega)]
  have hqn : q = n := by omega
  rw [hqn] at hk ⊢
  simp only [Int.ofNat_lt, hk, if_false, ht, h, if_true, true_and]
  clear ih r hq hqn k q hk
  by_cases hc : chkS n (segsOf n cs) = 0
  case neg =>
    have e : covP n b (segsOf n cs) = ([], chkS n (segsOf n cs)) := by unfold covP; rw [if_neg hc]
    simp only [hc, if_false, e]
    simp
  have hn64 := chkS_le hc
  rw [hc]
  simp only [if_true]
  rcases covErr_cases b (segsOf n cs) with hce | hce
  · have e : covP n b (segsOf n cs) = (covR b (segsOf n cs), 0) := by unfold covP; rw [if_pos hc, if_pos hce]
    have h4 : n ≤ 4096 := by omega
    simp only [hce, e, h4, and_self, if_true]
    have hlen := covR_len (b := b) (ss := segsOf n cs)
    rw [segsOf_len] at hlen
    generalize covR b (segsOf n cs) = L at hlen
    refine loopC_rule (fun k (r : Nat → List AV → Nat → List AV → Int → Nat → List AV → Nat → List AV → Nat → List AV → Nat → List AV → Nat → List AV → Option (List RLeaf)) => ∀ i : Nat, i + k = L.length →
      r L.length (rcells L) L.length (rcells L) (i : Int) 0 [] n cs 0 [] n cs 1 [AV.int .i64 0] = some [RLeaf.v (.bool true)]) ?_ (3 * n + 3) L.length (by omega) 0 (by omega)
    intro k r ih i hi
    by_cases hk : i < L.length
    · have hl : 0 < (rcells L).length := by rw [rcells_len]; omega
      have hl3 : i * 3 + 3 ≤ (rcells L).length := by rw [rcells_len]; omega
      have g2 : asInt .i64 ((rcells L).getD (i * 3 + 1 + 1) .top) = some (L.getD i (0, 0, 0)).2.2 := rcells_get2 hk
      simp only [Int.ofNat_lt, hk, hl, hl3, if_true, Int.toNat_natCast, rcells_get0 hk, rcells_get1 hk, g2, bindO_ok, idx64 (show L.length < 9223372036854775808 by omega) hk, and_true, Int.natCast_nonneg, true_and, ih (k - 1) (by omega) (i + 1) (by omega), beq_self_eq_true, Bool.and_true, Bool.not_true, Bool.false_eq_true, if_false]
    · simp only [Int.ofNat_lt, hk, if_false]
  · have h3 : ¬ covErr b (segsOf n cs) = 0 := by omega
    have e : covP n b (segsOf n cs) = ([], 3) := by unfold covP; rw [if_pos hc, if_neg h3]
    simp only [h3, e, hce]
    simp

end Go.Abs
end

