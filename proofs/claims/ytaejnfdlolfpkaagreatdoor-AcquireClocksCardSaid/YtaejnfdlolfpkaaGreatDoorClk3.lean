/- Part 12 of the library that the proof of the statement uses: an abstract run of the program, proved right, and what its functions give. -/
import Derived.Test.YtaejnfdlolfpkaaGreatDoorClk2
set_option linter.unusedVariables false
set_option linter.unusedSimpArgs false

section
/- Unwrapped stamps: what they are. -/
set_option linter.unusedVariables false
set_option linter.unusedSimpArgs false
namespace Go.Abs

theorem nextU_gt {m p v : Int} (hm : 0 < m) : p < nextU m p v := by
  have := Int.emod_nonneg (v - p - 1) (Int.ne_of_gt hm)
  unfold nextU; omega

theorem nextU_le {m p v : Int} (hm : 0 < m) : nextU m p v ≤ p + m := by
  have := Int.emod_lt_of_pos (v - p - 1) hm
  unfold nextU; omega

theorem nextU_mod {m p v : Int} (hm : 0 < m) (hv : 0 ≤ v) (hv' : v < m) : nextU m p v % m = v := by
  unfold nextU
  have e : p + (v - p - 1) % m + 1 = v + m * (-((v - p - 1) / m)) := by
    have := Int.emod_add_mul_ediv (v - p - 1) m
    rw [Int.mul_neg]; omega
  rw [e, Int.add_mul_emod_self_left, Int.emod_eq_of_lt hv hv']

theorem nextU_hit {m p t : Int} (hm : 0 < m) (h1 : p < t) (h2 : t - p ≤ m) : nextU m p (t % m) = t := by
  unfold nextU
  have e : (t % m - p - 1) % m = (t - p - 1) % m := by
    have e2 : t % m - p - 1 = (t - p - 1) + m * (-(t / m)) := by
      have := Int.emod_add_mul_ediv t m
      rw [Int.mul_neg]; omega
    rw [e2, Int.add_mul_emod_self_left]
  rw [e, Int.emod_eq_of_lt (by omega) (by omega)]
  omega

def stepU (m : Int) : Option Int → Int → Int
  | none, v => v
  | some p, v => nextU m p v

def unwA (m : Int) : Option Int → List Int → List Int
  | _, [] => []
  | o, v :: vs => stepU m o v :: unwA m (some (stepU m o v)) vs

theorem unwA_len {m : Int} : ∀ {vs : List Int} {o : Option Int}, (unwA m o vs).length = vs.length
  | [], o => rfl
  | v :: vs, o => by simp [unwA, unwA_len]

theorem unwL_cons {m v : Int} {vs acc : List Int} : unwL m acc (v :: vs) = if stepU m acc.getLast? v > 999999999 then ([], 4) else unwL m (acc ++ [stepU m acc.getLast? v]) vs := by
  simp only [unwL]
  cases acc.getLast? <;> rfl

theorem unwL_eq {m : Int} (hm : 0 < m) : ∀ (vs acc : List Int), (∀ v ∈ vs, 0 ≤ v ∧ v < m) → (∀ x, acc.getLast? = some x → 0 ≤ x ∧ x < (acc.length : Int) * m) →
    ((acc.length + vs.length : Nat) : Int) * m ≤ 1000000000 → unwL m acc vs = (acc ++ unwA m acc.getLast? vs, 0)
  | [], acc, _, _, _ => by simp [unwL, unwA]
  | v :: vs, acc, hv, ha, hb => by
    have hv0 := hv v List.mem_cons_self
    have hw0 : 0 ≤ stepU m acc.getLast? v ∧ stepU m acc.getLast? v < ((acc.length + 1 : Nat) : Int) * m := by
      have hpos : 0 ≤ (acc.length : Int) * m := Int.mul_nonneg (by omega) (by omega)
      have hsucc : ((acc.length + 1 : Nat) : Int) * m = (acc.length : Int) * m + m := by rw [Int.natCast_add, Int.add_mul]; simp
      cases hl : acc.getLast? with
      | none => simp only [stepU]; omega
      | some p =>
        have hp := ha p hl
        have h1 := nextU_gt (m := m) (p := p) (v := v) hm
        have h2 := nextU_le (m := m) (p := p) (v := v) hm
        simp only [stepU]; omega
    have hmono : ((acc.length + 1 : Nat) : Int) * m ≤ ((acc.length + (v :: vs).length : Nat) : Int) * m := Int.mul_le_mul_of_nonneg_right (by simp; omega) (by omega)
    have hl2 : (acc ++ [stepU m acc.getLast? v]).getLast? = some (stepU m acc.getLast? v) := by simp
    rw [unwL_cons, if_neg (by omega)]
    have := unwL_eq hm vs (acc ++ [stepU m acc.getLast? v]) (fun x hx => hv x (List.mem_cons_of_mem _ hx)) (fun x hx => by
      rw [hl2] at hx
      simp only [Option.some.injEq] at hx
      subst hx
      rw [List.length_append]
      exact hw0) (by simpa [Nat.add_assoc, Nat.add_comm, Nat.add_left_comm] using hb)
    rw [this, hl2]
    simp [unwA]

theorem unwA_head {m : Int} {o : Option Int} {v : Int} {vs : List Int} : (unwA m o (v :: vs)).getD 0 0 = stepU m o v := rfl

theorem unwA_step {m : Int} : ∀ {vs : List Int} {o : Option Int} {i : Nat}, i < vs.length → (unwA m o vs).getD i 0 = stepU m (if i = 0 then o else some ((unwA m o vs).getD (i - 1) 0)) (vs.getD i 0)
  | [], o, i, h => by simp at h
  | v :: vs, o, 0, h => by simp [unwA]
  | v :: vs, o, 1, h => by
    have := unwA_step (m := m) (vs := vs) (o := some (stepU m o v)) (i := 0) (by simpa using h)
    simpa [unwA] using this
  | v :: vs, o, i + 2, h => by
    have := unwA_step (m := m) (vs := vs) (o := some (stepU m o v)) (i := i + 1) (by simp at h; omega)
    simpa [unwA] using this

theorem unwA_hit {m : Int} (hm : 0 < m) : ∀ {ts : List Int} {p : Int}, (∀ i, i < ts.length → (if i = 0 then p else ts.getD (i - 1) 0) < ts.getD i 0 ∧ ts.getD i 0 - (if i = 0 then p else ts.getD (i - 1) 0) ≤ m) → unwA m (some p) (ts.map (· % m)) = ts
  | [], p, h => rfl
  | t :: ts, p, h => by
    have h0 := h 0 (by simp)
    simp at h0
    simp only [List.map_cons, unwA, stepU, nextU_hit hm h0.1 h0.2]
    rw [unwA_hit hm fun i hi => ?_]
    have := h (i + 1) (by simpa using hi)
    cases i with
    | zero => simpa using this
    | succ i => simpa using this

theorem unwA_hit0 {m : Int} (hm : 0 < m) {ts : List Int} (h0 : ∀ i, i < ts.length → 0 ≤ ts.getD i 0) (h : ∀ i, i < ts.length → (if i = 0 then -1 else ts.getD (i - 1) 0) < ts.getD i 0 ∧ ts.getD i 0 - (if i = 0 then -1 else ts.getD (i - 1) 0) ≤ m) :
    unwA m none (ts.map (· % m)) = ts := by
  match ts, h0, h with
  | [], _, _ => rfl
  | t :: ts, h0, h =>
    have g0 := h0 0 (by simp)
    have g1 := h 0 (by simp)
    simp at g0 g1
    simp only [List.map_cons, unwA, stepU, Int.emod_eq_of_lt g0 (show t < m by omega)]
    rw [unwA_hit hm fun i hi => ?_]
    have := h (i + 1) (by simpa using hi)
    cases i with
    | zero => simpa using this
    | succ i => simpa using this

/-- What unwrapped stamps are. -/
theorem unwA_props {m : Int} (hm : 0 < m) {vs : List Int} (hv : ∀ v ∈ vs, 0 ≤ v ∧ v < m) : ∀ i, i < vs.length →
    0 ≤ (unwA m none vs).getD i 0 ∧ (unwA m none vs).getD i 0 < ((i + 1 : Nat) : Int) * m ∧ (unwA m none vs).getD i 0 % m = vs.getD i 0 ∧ (i = 0 → (unwA m none vs).getD i 0 < m) ∧
    (0 < i → (unwA m none vs).getD (i - 1) 0 < (unwA m none vs).getD i 0 ∧ (unwA m none vs).getD i 0 - (unwA m none vs).getD (i - 1) 0 ≤ m) := by
  intro i
  induction i with
  | zero =>
    intro hi
    have hv0 := hv (vs.getD 0 0) (by rw [List.getD_eq_getElem?_getD, List.getElem?_eq_getElem hi]; exact List.getElem_mem hi)
    rw [unwA_step hi]
    simp only [if_true, stepU]
    refine ⟨hv0.1, by simpa using hv0.2, Int.emod_eq_of_lt hv0.1 hv0.2, fun _ => hv0.2, fun h => by omega⟩
  | succ i ih =>
    intro hi
    obtain ⟨h1, h2, _⟩ := ih (by omega)
    have hv0 := hv (vs.getD (i + 1) 0) (by rw [List.getD_eq_getElem?_getD, List.getElem?_eq_getElem hi]; exact List.getElem_mem hi)
    have hs : (unwA m none vs).getD (i + 1) 0 = nextU m ((unwA m none vs).getD i 0) (vs.getD (i + 1) 0) := by
      rw [unwA_step hi]; simp [stepU]
    have g1 := nextU_gt (m := m) (p := (unwA m none vs).getD i 0) (v := vs.getD (i + 1) 0) hm
    have g2 := nextU_le (m := m) (p := (unwA m none vs).getD i 0) (v := vs.getD (i + 1) 0) hm
    have g3 := nextU_mod (m := m) (p := (unwA m none vs).getD i 0) hm hv0.1 hv0.2
    have hsucc : ((i + 1 + 1 : Nat) : Int) * m = ((i + 1 : Nat) : Int) * m + m := by rw [Int.natCast_add (i + 1) 1, Int.add_mul]; simp
    rw [Nat.add_sub_cancel]
    rw [hs]
    refine ⟨by omega, by omega, g3, fun h => by omega, fun _ => ⟨g1, by omega⟩⟩

end Go.Abs
end

section
/- The law AcquireStamps. -/
set_option linter.unusedVariables false
set_option linter.unusedSimpArgs false
namespace Go.Abs
open Go.Proofs Classical

theorem put5 (a b : Int) (k : Nat) (fs : List AV) (c d : Int) : putCells (zrow (ofV (Go.Value.agg #[Go.Value.int IntKind.i64 (0 : Int), Go.Value.int IntKind.i64 (0 : Int), Go.Value.slice Option.none 0 0, Go.Value.int IntKind.i64 (0 : Int), Go.Value.int IntKind.i64 (0 : Int)])).cells 5) 0
    [AV.int IntKind.i64 a, AV.int IntKind.i64 b, AV.list k fs, AV.int IntKind.i64 c, AV.int IntKind.i64 d] = [AV.int .i64 a, AV.int .i64 b, AV.list k fs, AV.int .i64 c, AV.int .i64 d] := by
  rfl

theorem take_add1 {α : Type} {xs : List α} {i : Nat} {d : α} (h : i < xs.length) : xs.take (i + 1) = xs.take i ++ [xs.getD i d] := by
  rw [List.take_add_one, List.getElem?_eq_getElem h, List.getD_eq_getElem?_getD, List.getElem?_eq_getElem h]; rfl

theorem Segs.take_step {n : Nat} {cs : List AV} (h : Segs n cs) {i : Nat} (hi : i < n) :
    cs.take (i * 5) ++ [AV.int .i64 (segAt cs i).start, AV.int .i64 (segAt cs i).trig, AV.list (segAt cs i).k (segAt cs i).fs, AV.int .i64 (segAt cs i).lost, AV.int .i64 (segAt cs i).missed] = cs.take ((i + 1) * 5) := by
  have hl := h.len
  have e : (i + 1) * 5 = i * 5 + 1 + 1 + 1 + 1 + 1 := by omega
  rw [e, take_add1 (d := .top) (by omega), take_add1 (d := .top) (by omega), take_add1 (d := .top) (by omega), take_add1 (d := .top) (by omega), take_add1 (d := .top) (by omega)]
  rw [show i * 5 + 1 + 1 + 1 + 1 = i * 5 + 4 by omega, show i * 5 + 1 + 1 + 1 = i * 5 + 3 by omega, show i * 5 + 1 + 1 = i * 5 + 2 by omega]
  rw [h.c0 i hi, h.c1 i hi, h.c2 i hi, h.c3 i hi, h.c4 i hi]
  simp

theorem intsOf_L {xs : List Int} : intsOf (intsL xs) = xs := by
  unfold intsOf intsL; rw [List.map_map, show (toI ∘ AV.int IntKind.i64) = id from rfl, List.map_id]

theorem ints_L {xs : List Int} (h : xs.length < 9223372036854775808) : Ints xs.length (intsL xs) := ⟨h, by rw [intsOf_L]; rfl, by simp [intsL]⟩

theorem unwL_len {m : Int} : ∀ {vs acc : List Int}, (unwL m acc vs).1.length ≤ acc.length + vs.length
  | [], acc => by simp [unwL]
  | v :: vs, acc => by
    rw [unwL_cons]
    split
    · simp
    · refine Nat.le_trans (unwL_len (vs := vs)) ?_
      simp; omega

theorem unwS_len {n : Nat} {m : Int} {xs : List Int} : (unwS n m xs).1.length ≤ xs.length := by
  unfold unwS
  split
  · simp
  · split
    · simpa using unwL_len (m := m) (vs := xs) (acc := [])
    · simp

theorem ints0 : Ints 0 [] := ⟨by omega, rfl, rfl⟩

theorem run_6' {n m : Nat} {cs ds : List AV} {b : Int} (h : Segs n cs) (h' : Ints m ds) : (fsZ tz6 (n + 1) 8).call (List RLeaf) 6 [.ofB (.list n cs), .ofB (.list m ds), .ofB (.int .i64 b)] [] (resK [false]) = some [.v (.bool true)] := by
  rw [run_6]
  have e2 : ∀ v w : Int, intsOf [AV.int .i64 v, AV.int .i64 w] = [v, w] := fun _ _ => rfl
  simp only [shut_eq, guardO_dec, condO_dec, condO_not, condO_bne, condO_beq, h, if_true, put2, put5, e2, ints2, firstNZ]
  cases hs : shortS n 20 (segsOf n cs)
  case false => simp
  have hn : n ≤ 66 := by
    unfold shortS at hs
    split at hs
    · cases hs
    · omega
  simp only [if_true]
  by_cases hm : ((m : Int) > 20 ∧ (m : Int) ≤ 256) ∨ (m : Int) > 258
  · rcases hm with ⟨h1, h2⟩ | h3
    · rw [if_pos h1, if_pos h2]
    · rw [if_pos (by omega), if_neg (by omega), if_pos h3]
  have i1 : Ints (stpP n b (segsOf n cs)).1.length (intsL (stpP n b (segsOf n cs)).1) := by
    refine ints_L ?_
    unfold stpP
    split
    · split
      · simp
      · simp [stampsL, segsOf_len]; omega
    · simp
  have i2 : Ints (stampsL (2 ^ b.toNat) (segsOf n cs)).length (intsL (stampsL (2 ^ b.toNat) (segsOf n cs))) := ints_L (by simp [stampsL, segsOf_len]; omega)
  have u0 : ∀ m', (unwS m m' (intsOf ds)).1.length < 9223372036854775808 := fun m' => by
    have := unwS_len (n := m) (m := m') (xs := intsOf ds)
    have := h'.len
    have := h'.1
    omega
  have i3 : Ints (unwS m (2 ^ b.toNat) (intsOf ds)).1.length (intsL (unwS m (2 ^ b.toNat) (intsOf ds)).1) := ints_L (u0 _)
  have i4 : Ints (unwP m b (intsOf ds)).1.length (intsL (unwP m b (intsOf ds)).1) := by
    refine ints_L ?_
    unfold unwP
    split
    · simp
    · exact u0 _
  by_cases h1 : (m : Int) > 20
  all_goals first | rw [if_pos h1, if_neg (show ¬ (m : Int) ≤ 256 by omega), if_neg (by omega)] | rw [if_neg h1, if_neg (by omega)]
  all_goals
    refine loopC_rule (fun k (r : Nat → List AV → Int → Nat → List AV → Nat → List AV → Option (List RLeaf)) => ∀ i : Nat, i + k = n → r n cs (i : Int) 0 [] i (cs.take (i * 5)) = some [RLeaf.v (.bool true)]) ?_ (n + 1) n (by omega) 0 (by omega)
    intro k r ih i hi
    by_cases hk : i < n
    · have hl : 0 < cs.length := by rw [h.len]; omega
      have hl5 : i * 5 + 5 ≤ cs.length := by rw [h.len]; omega
      have hr : (i + 1) * 57 ≤ 549755813888 := by omega
      simp only [Int.ofNat_lt, hk, hl, hl5, hr, if_true, Int.toNat_natCast, h.g0 hk, h.g1 hk, h.g2' hk, h.g3' hk, h.g4' hk, bindO_ok, idx64 h.lt hk, and_true, Int.natCast_nonneg, true_and, h.take_step hk, ih (k - 1) (by omega) (i + 1) (by omega)]
    · obtain rfl : i = n := by omega
      have ht : cs.take (i * 5) = cs := by rw [← h.len, List.take_length]
      simp only [Int.ofNat_lt, hk, if_false, ht, h, h', if_true, i1, i2, i3, i4, ints0, and_self, intsOf_L, true_and]
      by_cases hb : b < 1 ∨ b > 30
      · have hb' : ¬ (1 ≤ b ∧ b ≤ 30) := by omega
        by_cases hc : chkS i (segsOf i cs) = 0
        · simp [hb, hc, stpP, unwP, intsOf]
        · simp [hb, hc, stpP, unwP, intsOf]
      · have hb' : (1 ≤ b ∧ b ≤ 30) := by omega
        by_cases hc : chkS i (segsOf i cs) = 0
        · simp [hb, hb', hc, stpP, unwP, intsOf, show i ≤ 4096 by omega]
        · simp [hb, hb', hc, stpP, unwP, intsOf]

end Go.Abs
end

section
/- Ranges that cover samples. -/
set_option linter.unusedVariables false
set_option linter.unusedSimpArgs false
namespace Go.Abs
open Go.Proofs Classical

def endA (s : SegA) : Int := IntKind.i64.wrap (s.start + (s.k : Int))

/-- The ranges of segments behind a time. -/
def covL : Int → Nat → List SegA → List (Int × Int × Int)
  | _, _, [] => []
  | a, i, s :: ss => (if s.start > a then [(a, s.start, 0)] else []) ++ ((s.start, endA s, ((i + 1 : Nat) : Int)) :: covL (endA s) (i + 1) ss)

def lastE : Int → List SegA → Int
  | a, [] => a
  | _, s :: ss => lastE (endA s) ss

def covR (n : Int) (ss : List SegA) : List (Int × Int × Int) := covL 0 0 ss ++ (if n > lastE 0 ss then [(lastE 0 ss, n, 0)] else [])

def covErr (n : Int) (ss : List SegA) : Int := if n < 0 ∨ n > 999999999 ∨ n < lastE 0 ss then 3 else 0

def rcells (l : List (Int × Int × Int)) : List AV := l.flatMap fun r => [.int .i64 r.1, .int .i64 r.2.1, .int .i64 r.2.2]

theorem rcells_len {l : List (Int × Int × Int)} : (rcells l).length = l.length * 3 := by
  unfold rcells
  rw [List.flatMap_def, flat_len (C := 3) (by intro e he; obtain ⟨r, _, rfl⟩ := List.mem_map.1 he; rfl), List.length_map]

theorem rcells_get {l : List (Int × Int × Int)} {i r : Nat} (hi : i < l.length) (hr : r < 3) :
    (rcells l).getD (i * 3 + r) .top = ([AV.int .i64 (l.getD i (0, 0, 0)).1, .int .i64 (l.getD i (0, 0, 0)).2.1, .int .i64 (l.getD i (0, 0, 0)).2.2]).getD r .top := by
  unfold rcells
  rw [List.flatMap_def, List.getD_eq_getElem?_getD, flat_get (C := 3) (by intro e he; obtain ⟨r, _, rfl⟩ := List.mem_map.1 he; rfl) hr]
  simp [hi, List.getD]

theorem rcells_get0 {l : List (Int × Int × Int)} {i : Nat} (hi : i < l.length) : asInt .i64 ((rcells l).getD (i * 3) .top) = some (l.getD i (0, 0, 0)).1 := by
  have := rcells_get hi (r := 0) (by omega)
  rw [Nat.add_zero] at this
  rw [this]; simp [asInt]
theorem rcells_get1 {l : List (Int × Int × Int)} {i : Nat} (hi : i < l.length) : asInt .i64 ((rcells l).getD (i * 3 + 1) .top) = some (l.getD i (0, 0, 0)).2.1 := by
  rw [rcells_get hi (by omega)]; simp [asInt]
theorem rcells_get2 {l : List (Int × Int × Int)} {i : Nat} (hi : i < l.length) : asInt .i64 ((rcells l).getD (i * 3 + 2) .top) = some (l.getD i (0, 0, 0)).2.2 := by
  rw [rcells_get hi (by omega)]; simp [asInt]

theorem rcells_plain {l : List (Int × Int × Int)} : ∀ c ∈ rcells l, PlainC c := by
  intro c hc
  obtain ⟨r, _, hr⟩ := List.mem_flatMap.1 hc
  simp only [List.mem_cons, List.not_mem_nil, or_false] at hr
  rcases hr with rfl | rfl | rfl <;> exact .int _ _

theorem rcells_app {l m : List (Int × Int × Int)} : rcells (l ++ m) = rcells l ++ rcells m := by simp [rcells]

/-- Segments that pass lie one behind the other. -/
theorem chkL_cons {e : Int} {s : SegA} {ss : List SegA} (h : chkL e (s :: ss) = 0) : segErr e s = 0 ∧ chkL (endA s) ss = 0 := by
  unfold chkL at h
  split at h
  · rename_i h0; exact ⟨h0, h⟩
  · rename_i h0; exact absurd h h0

theorem segErr_zero {e : Int} {s : SegA} (h : segErr e s = 0) : 0 ≤ s.start ∧ s.start ≤ 999999999 ∧ sampErr s.k (flosOf s.fs) = 0 ∧ 0 < s.k ∧ s.k ≤ 4096 ∧ s.start ≤ s.trig ∧ s.trig < s.start + s.k ∧ e ≤ s.start ∧ endA s = s.start + s.k := by
  unfold segErr at h
  split at h
  · cases h
  · rename_i h1
    split at h
    · rename_i h2; exact absurd h h2
    · rename_i h2
      have h2 : sampErr s.k (flosOf s.fs) = 0 := Classical.not_not.1 h2
      have hk : s.k ≤ 4096 := by
        unfold sampErr at h2
        split at h2
        · cases h2
        · omega
      split at h
      · cases h
      · rename_i h3
        have he : endA s = s.start + s.k := by unfold endA; rw [wrap64] <;> omega
        split at h
        · cases h
        · rename_i h4
          have he' : IntKind.i64.wrap (IntKind.i64.wrap (s.start + (s.k : Int)) - 1) = s.start + s.k - 1 := by
            have : IntKind.i64.wrap (s.start + (s.k : Int)) = s.start + s.k := he
            rw [this, wrap64] <;> omega
          rw [he'] at h4
          split at h
          · cases h
          · rename_i h5
            exact ⟨by omega, by omega, h2, by omega, hk, by omega, by omega, by omega, he⟩

end Go.Abs
end

section
/- Triggers of segments that pass ascend. -/
set_option linter.unusedVariables false
set_option linter.unusedSimpArgs false
namespace Go.Abs

def trigs (ss : List SegA) : List Int := ss.map (·.trig)

theorem trigs_len {ss : List SegA} : (trigs ss).length = ss.length := by simp [trigs]

theorem chkL_trigs : ∀ {ss : List SegA} {e p : Int}, chkL e ss = 0 → p < e → ∀ i, i < ss.length → (if i = 0 then p else (trigs ss).getD (i - 1) 0) < (trigs ss).getD i 0
  | [], e, p, _, _, i, hi => by simp at hi
  | s :: ss, e, p, h, hp, i, hi => by
    obtain ⟨h1, h2⟩ := chkL_cons h
    obtain ⟨a1, a2, a3, a4, a5, a6, a7, a8, a9⟩ := segErr_zero h1
    have ih := chkL_trigs (ss := ss) (p := s.trig) h2 (by omega)
    cases i with
    | zero => simp [trigs]; omega
    | succ i =>
      have := ih i (by simpa using hi)
      cases i with
      | zero => simpa [trigs] using this
      | succ i => simpa [trigs] using this

theorem chkL_bd : ∀ {ss : List SegA} {e : Int}, chkL e ss = 0 → ∀ s ∈ ss, 0 ≤ s.trig ∧ s.trig < 1000005000
  | [], e, _, s, hs => by cases hs
  | s :: ss, e, h, t, ht => by
    obtain ⟨h1, h2⟩ := chkL_cons h
    obtain ⟨a1, a2, a3, a4, a5, a6, a7, a8, a9⟩ := segErr_zero h1
    rcases List.mem_cons.1 ht with rfl | ht
    · omega
    · exact chkL_bd h2 t ht

theorem trigs_bd {ss : List SegA} {e : Int} (h : chkL e ss = 0) {i : Nat} (hi : i < ss.length) : 0 ≤ (trigs ss).getD i 0 ∧ (trigs ss).getD i 0 < 1000005000 := by
  have : (trigs ss).getD i 0 = (ss[i]).trig := by simp [trigs, List.getD, hi]
  rw [this]
  exact chkL_bd h _ (List.getElem_mem hi)

theorem stamps_mod {m : Int} {ss : List SegA} {e : Int} (h : chkL e ss = 0) : stampsL m ss = (trigs ss).map (· % m) := by
  unfold stampsL trigs
  rw [List.map_map]
  refine List.map_congr_left fun s hs => ?_
  exact Int.tmod_eq_emod_of_nonneg (chkL_bd h s hs).1

theorem getD_mem' {xs : List Int} {i : Nat} (h : i < xs.length) : xs.getD i 0 ∈ xs := by
  rw [List.getD_eq_getElem?_getD, List.getElem?_eq_getElem h]; exact List.getElem_mem h

/-- Whether no time stamp can be missed so far. -/
def nearT (m : Int) (ts : List Int) (i : Nat) : Bool := (List.range i).all fun j => decide (ts.getD j 0 - (if j = 0 then -1 else ts.getD (j - 1) 0) ≤ m)

theorem nearT_succ {m : Int} {ts : List Int} {i : Nat} : nearT m ts (i + 1) = (nearT m ts i && decide (ts.getD i 0 - (if i = 0 then -1 else ts.getD (i - 1) 0) ≤ m)) := by
  simp [nearT, List.range_succ, List.all_append]

theorem nearT_all {m : Int} {ts : List Int} {n : Nat} (h : nearT m ts n = true) {i : Nat} (hi : i < n) : ts.getD i 0 - (if i = 0 then -1 else ts.getD (i - 1) 0) ≤ m := by
  simp only [nearT, List.all_eq_true, List.mem_range, decide_eq_true_eq] at h
  exact h i hi

theorem segsOf_trig {n : Nat} {cs : List AV} {i : Nat} (hi : i < n) : (trigs (segsOf n cs)).getD i 0 = (segAt cs i).trig := by
  simp [trigs, segsOf, List.getD, hi]

end Go.Abs
end

section
/- The law AcquireClocks. -/
set_option linter.unusedVariables false
set_option linter.unusedSimpArgs false
namespace Go.Abs
open Go.Proofs Classical

theorem shl20 {b : Int} (h1 : 1 ≤ b) (h2 : b ≤ 20) : (2 : Int) ^ b.toNat ≤ 1048576 := by
  have key : ∀ k : Fin 21, 1 ≤ k.val → (2 : Int) ^ k.val ≤ 1048576 := by decide
  exact key ⟨b.toNat, by omega⟩ (by show 1 ≤ b.toNat; omega)

theorem all_in {m : Int} {xs : List Int} (h : ∀ j, j < xs.length → 0 ≤ xs.getD j 0 ∧ xs.getD j 0 < m) : xs.all (fun v => decide (0 ≤ v ∧ v < m)) = true := by
  rw [List.all_eq_true]
  intro v hv
  obtain ⟨j, hj⟩ := List.getElem?_of_mem hv
  have hl := (List.getElem?_eq_some_iff.1 hj).1
  have := h j hl
  rw [List.getD_eq_getElem?_getD, hj] at this
  simpa using this

theorem not_all_in {m : Int} {xs : List Int} {j : Nat} (hj : j < xs.length) (h : ¬ (0 ≤ xs.getD j 0 ∧ xs.getD j 0 < m)) : xs.all (fun v => decide (0 ≤ v ∧ v < m)) = false := by
  rw [List.all_eq_false]
  exact ⟨xs.getD j 0, getD_mem' hj, by simpa using h⟩

/-- Unwrapping that goes through. -/
theorem unwS_ok {n : Nat} {m : Int} {xs : List Int} (hm : 0 < m) (hn : n ≤ 256) (hx : ∀ j, j < xs.length → 0 ≤ xs.getD j 0 ∧ xs.getD j 0 < m) (hb : (xs.length : Int) * m ≤ 1000000000) : unwS n m xs = (unwA m none xs, 0) := by
  unfold unwS
  rw [if_neg (by omega), if_pos (all_in hx), unwL_eq hm xs [] (fun v hv => by
    obtain ⟨j, hj⟩ := List.getElem?_of_mem hv
    have hl := (List.getElem?_eq_some_iff.1 hj).1
    have := hx j hl
    rwa [List.getD_eq_getElem?_getD, hj] at this) (fun x hx => by simp at hx) (by simpa using hb)]
  simp

theorem run_10' {n m : Nat} {cs ds : List AV} {b : Int} (h : Segs n cs) (h' : Ints m ds) : (fsZ tz6 (n + m + 1) 8).call (List RLeaf) 10 [.ofB (.list n cs), .ofB (.list m ds), .ofB (.int .i64 b)] [] (resK [false]) = some [.v (.bool true)] := by
  rw [run_10]
  simp only [shut_eq, guardO_dec, condO_dec, condO_not, condO_bne, condO_beq, h, h', if_true, put5]
  simp only [condO_bool]
  cases hs : shortS n 20 (segsOf n cs)
  case false => simp
  simp only [if_true]
  by_cases hc : chkS n (segsOf n cs) = 0
  case neg => rw [if_neg hc]
  rw [if_pos hc]
  have hn : n ≤ 64 := chkS_le hc
  have hn12 : n ≤ 12 := by
    unfold shortS at hs
    split at hs
    · cases hs
    · omega
  have hcL : chkL 0 (segsOf n cs) = 0 := by
    unfold chkS at hc
    rwa [if_neg (by omega)] at hc
  by_cases hm1 : (m : Int) > 20
  · rw [if_pos hm1]
  rw [if_neg hm1]
  by_cases hb : b < 1 ∨ b > 20
  · rw [if_pos hb]
  rw [if_neg hb]
  have hb0 : (0 : Int) ≤ b := by omega
  have hb30 : ¬ (b < 1 ∨ b > 30) := by omega
  obtain ⟨g1, g2, g3⟩ := shl30 (b := b) (by omega) (by omega)
  have g4 := shl20 (b := b) (by omega) (by omega)
  have eS : stpP n b (segsOf n cs) = (stampsL (2 ^ b.toNat) (segsOf n cs), 0) := by simp only [stpP, hc, if_true, if_neg hb30]
  have eU : ∀ k xs, unwP k b xs = unwS k (2 ^ b.toNat) xs := fun k xs => by simp only [unwP, if_neg hb30]
  rw [if_pos hb0]
  simp only [g1, eU]
  generalize hM : (2 : Int) ^ b.toNat = M at g1 g2 g3 g4 eS eU
  have hM0 : 0 < M := by omega
  have hMne : M ≠ 0 := by omega
  have hxl : (intsOf ds).length = m := h'.len
  -- the time stamps of the segments, unwrapped
  have hst : stampsL M (segsOf n cs) = (trigs (segsOf n cs)).map (· % M) := stamps_mod hcL
  have hstl : (stampsL M (segsOf n cs)).length = n := by simp [stampsL, segsOf_len]
  have hstb : ∀ j, j < (stampsL M (segsOf n cs)).length → 0 ≤ (stampsL M (segsOf n cs)).getD j 0 ∧ (stampsL M (segsOf n cs)).getD j 0 < M := by
    intro j hj
    have hmem := getD_mem' hj
    rw [hst] at hmem
    obtain ⟨t, _, ht⟩ := List.mem_map.1 hmem
    rw [hst, ← ht]
    exact ⟨Int.emod_nonneg t hMne, Int.emod_lt_of_pos t hM0⟩
  have hbig : ∀ q : Nat, q ≤ 20 → (q : Int) * M ≤ 1000000000 := by
    intro q hq
    have := Int.mul_le_mul_of_nonneg_right (show (q : Int) ≤ 20 by omega) (show 0 ≤ M by omega)
    omega
  have eV : unwS n M (stampsL M (segsOf n cs)) = (unwA M none (stampsL M (segsOf n cs)), 0) := unwS_ok hM0 (by omega) hstb (by rw [hstl]; exact hbig n (by omega))
  -- the stamps are looked through
  refine loopC_rule (fun k (r : Nat → List AV → Nat → List AV → Int → Int → Nat → List AV → Int → Nat → List AV → Int → Int → Option (List RLeaf)) => ∀ i : Nat, i + k = m → (∀ j, j < i → 0 ≤ (intsOf ds).getD j 0 ∧ (intsOf ds).getD j 0 < M) →
    r n cs m ds b M (unwS m M (intsOf ds)).1.length (intsL (unwS m M (intsOf ds)).1) (unwS m M (intsOf ds)).2 m ds (m : Int) (i : Int) = some [RLeaf.v (.bool true)]) ?_ (n + m + 1) m (by omega) 0 (by omega) (by omega)
  intro k r ih i hi hin
  by_cases hk : i < m
  · have hl : 0 < ds.length := by rw [h'.2.2]; omega
    simp only [Int.ofNat_lt, hk, hl, if_true, Int.toNat_natCast, Nat.mul_one, h'.get hk, bindO_ok, idx64 h'.1 hk, and_true, Int.natCast_nonneg, true_and]
    by_cases hz : 0 ≤ (intsOf ds).getD i 0 ∧ (intsOf ds).getD i 0 < M
    · rw [if_neg (by omega), if_neg (by omega)]
      exact ih (k - 1) (by omega) (i + 1) (by omega) fun j hj => by
        by_cases e : j = i
        · rw [e]; exact hz
        · exact hin j (by omega)
    · have e3 : unwS m M (intsOf ds) = ([], 3) := by
        unfold unwS
        rw [if_neg (by omega), not_all_in (by rw [hxl]; exact hk) hz]; rfl
      by_cases hz1 : (intsOf ds).getD i 0 < 0
      · simp only [hz1, if_true, e3]; rfl
      · rw [if_neg hz1, if_pos (by omega), e3]; rfl
  have him : i = m := by omega
  subst him
  have hin : ∀ j, j < (intsOf ds).length → 0 ≤ (intsOf ds).getD j 0 ∧ (intsOf ds).getD j 0 < M := fun j hj => hin j (by omega)
  have eX : unwS i M (intsOf ds) = (unwA M none (intsOf ds), 0) := unwS_ok hM0 (by omega) hin (by rw [hxl]; exact hbig i (by omega))
  have hUl : (unwA M none (intsOf ds)).length = i := by rw [unwA_len, hxl]
  simp only [Int.ofNat_lt, hk, if_false, eX, if_true, hUl]
  have hprop := unwA_props hM0 (vs := intsOf ds) (fun v hv => by
    obtain ⟨j, hj⟩ := List.getElem?_of_mem hv
    have hl := (List.getElem?_eq_some_iff.1 hj).1
    have := hin j hl
    rwa [List.getD_eq_getElem?_getD, hj] at this)
  clear ih r hi hk k
  generalize hU : unwA M none (intsOf ds) = U at hprop hUl eX
  -- the unwrapped stamps are looked through
  refine loopC_rule (fun k (r : Nat → List AV → Nat → List AV → Int → Int → Nat → List AV → Nat → List AV → Int → Int → Option (List RLeaf)) => ∀ q : Nat, q + k = i →
    r n cs i ds b M i (intsL U) i (intsL U) (i : Int) (q : Int) = some [RLeaf.v (.bool true)]) ?_ (n + i + 1) i (by omega) 0 (by omega)
  intro k r ih q hq
  by_cases hk : q < i
  · have hl : 0 < ds.length := by rw [h'.2.2]; omega
    have hlU : 0 < (intsL U).length := by rw [intsL_len, hUl]; omega
    obtain ⟨p1, p2, p3, p4, p5⟩ := hprop q (by rw [hxl]; exact hk)
    have p3' : (U.getD q 0).tmod M = (intsOf ds).getD q 0 := by rw [Int.tmod_eq_emod_of_nonneg p1, p3]
    have p1' : ¬ U.getD q 0 < 0 := by omega
    have hget := intsL_get (acc := U) (i := q) (by rw [hUl]; exact hk)
    have ih' := ih (k - 1) (by omega) (q + 1) (by omega)
    simp only [Int.ofNat_lt, hk, hl, hlU, if_true, Int.toNat_natCast, Nat.mul_one, h'.get hk, hget, bindO_ok, idx64 h'.1 hk, and_true, Int.natCast_nonneg, true_and, p1', if_false, hMne, ne_eq, not_false_eq_true, p3', ih']
    by_cases h00 : q = 0
    · subst h00
      have := p4 rfl
      rw [if_pos (by rfl), if_neg (by omega), if_neg (by omega)]
    · have hq0 : 0 < q := by omega
      obtain ⟨p6, p7⟩ := p5 hq0
      obtain ⟨o1, o2, _⟩ := hprop (q - 1) (by rw [hxl]; omega)
      have e1 : IntKind.i64.wrap ((q : Int) - 1) = ((q - 1 : Nat) : Int) := by rw [wrap64] <;> omega
      have hget1 := intsL_get (acc := U) (i := q - 1) (by rw [hUl]; omega)
      have hb1 : ((q + 1 : Nat) : Int) * M ≤ 1000000000 := hbig (q + 1) (by omega)
      have e2 : IntKind.i64.wrap (U.getD q 0 - U.getD (q - 1) 0) = U.getD q 0 - U.getD (q - 1) 0 := by rw [wrap64] <;> omega
      have hlt : ((q - 1 : Nat) : Int) < (i : Int) := by omega
      rw [if_neg (by omega), if_pos (by omega)]
      simp only [e1, e2, hget1, bindO_ok, Int.toNat_natCast, Int.natCast_nonneg, hlt, hlU, and_self, if_true]
      rw [if_neg (by omega), if_neg (by omega)]
  simp only [Int.ofNat_lt, hk, if_false]
  clear ih r hq hk k q
  -- the segments are copied
  refine loopC_rule (fun k (r : Nat → List AV → Int → Nat → List AV → Nat → List AV → Option (List RLeaf)) => ∀ q : Nat, q + k = n → r n cs (q : Int) 0 [] q (cs.take (q * 5)) = some [RLeaf.v (.bool true)]) ?_ (n + i + 1) n (by omega) 0 (by omega)
  intro k r ih q hq
  by_cases hk : q < n
  · have hl : 0 < cs.length := by rw [h.len]; omega
    have hl5 : q * 5 + 5 ≤ cs.length := by rw [h.len]; omega
    have hr : (q + 1) * 57 ≤ 549755813888 := by omega
    simp only [Int.ofNat_lt, hk, hl, hl5, hr, if_true, Int.toNat_natCast, h.g0 hk, h.g1 hk, h.g2' hk, h.g3' hk, h.g4' hk, bindO_ok, idx64 h.lt hk, and_true, Int.natCast_nonneg, true_and, h.take_step hk, ih (k - 1) (by omega) (q + 1) (by omega)]
  obtain rfl : q = n := by omega
  have ht : cs.take (q * 5) = cs := by rw [← h.len, List.take_length]
  have i1 : Ints q (intsL (stampsL M (segsOf q cs))) := by
    have := ints_L (xs := stampsL M (segsOf q cs)) (by rw [hstl]; omega)
    rwa [hstl] at this
  simp only [Int.ofNat_lt, hk, if_false, ht, h, eS, eU, i1, if_true, intsOf_L, hstl, eV]
  have hVl : (unwA M none (stampsL M (segsOf q cs))).length = q := by rw [unwA_len, hstl]
  try simp only [hVl]
  clear ih r hq k ht
  generalize hV : unwA M none (stampsL M (segsOf q cs)) = V at hVl
  -- whether the triggers are near
  refine loopC_rule (fun k (r : Nat → List AV → Int → Nat → List AV → Bool → Nat → List AV → Int → Int → Nat → List AV → Nat → List AV → Option (List RLeaf)) => ∀ j : Nat, j + k = q →
    r q cs M q (intsL V) (nearT M (trigs (segsOf q cs)) j) q cs (q : Int) (j : Int) 0 [] q cs = some [RLeaf.v (.bool true)]) ?_ (q + i + 1) q (by omega) 0 (by omega)
  intro k r ih j hj
  by_cases hk' : j < q
  · have hl : 0 < cs.length := by rw [h.len]; omega
    have hl5 : j * 5 + 5 ≤ cs.length := by rw [h.len]; omega
    have ih' := ih (k - 1) (by omega) (j + 1) (by omega)
    rw [nearT_succ] at ih'
    have bj := trigs_bd hcL (i := j) (by rw [segsOf_len]; exact hk')
    rw [segsOf_trig hk'] at bj ih'
    simp only [Int.ofNat_lt, hk', hl, hl5, if_true, Int.toNat_natCast, h.g0 hk', h.g1 hk', h.g2' hk', h.g3' hk', h.g4' hk', bindO_ok, idx64 h.lt hk', and_true, Int.natCast_nonneg, true_and]
    by_cases h00 : j = 0
    · subst h00
      have e2 : IntKind.i64.wrap ((segAt cs 0).trig - -1) = (segAt cs 0).trig - -1 := by rw [wrap64] <;> omega
      rw [if_neg (by omega), e2]
      simp only [if_true] at ih'
      cases hnear : nearT M (trigs (segsOf q cs)) 0
      · rw [hnear] at ih'; simpa using ih'
      · rw [hnear] at ih'; simpa using ih'
    · have hj1 : j - 1 < q := by omega
      have bj1 := trigs_bd hcL (i := j - 1) (by rw [segsOf_len]; exact hj1)
      rw [segsOf_trig hj1] at bj1
      have e1 : IntKind.i64.wrap ((j : Int) - 1) = ((j - 1 : Nat) : Int) := by rw [wrap64] <;> omega
      have e2 : IntKind.i64.wrap ((segAt cs j).trig - (segAt cs (j - 1)).trig) = (segAt cs j).trig - (segAt cs (j - 1)).trig := by rw [wrap64] <;> omega
      have hlt : ((j - 1 : Nat) : Int) < (q : Int) := by omega
      rw [if_pos (show (j : Int) > 0 by omega)]
      simp only [e1, Int.toNat_natCast, Int.natCast_nonneg, hlt, hl, and_self, if_true, h.g1 hj1, bindO_ok, e2]
      rw [if_neg h00, segsOf_trig hj1] at ih'
      cases hnear : nearT M (trigs (segsOf q cs)) j
      · rw [hnear] at ih'; simpa using ih'
      · rw [hnear] at ih'; simpa using ih'
  obtain rfl : j = q := by omega
  simp only [Int.ofNat_lt, hk', if_false]
  clear ih r hj k
  -- near triggers are found again
  refine loopC_rule (fun k (r : Nat → List AV → Nat → List AV → Bool → Nat → List AV → Int → Int → Nat → List AV → Nat → List AV → Option (List RLeaf)) => ∀ q : Nat, q + k = j →
    r j cs j (intsL V) (nearT M (trigs (segsOf j cs)) j) j cs (j : Int) (q : Int) 0 [] j cs = some [RLeaf.v (.bool true)]) ?_ (j + i + 1) j (by omega) 0 (by omega)
  intro k r ih q hq
  by_cases hkq : q < j
  · have hl : 0 < cs.length := by rw [h.len]; omega
    have hl5 : q * 5 + 5 ≤ cs.length := by rw [h.len]; omega
    have ih' := ih (k - 1) (by omega) (q + 1) (by omega)
    simp only [Int.ofNat_lt, hkq, hl, hl5, if_true, Int.toNat_natCast, h.g0 hkq, h.g1 hkq, h.g2' hkq, h.g3' hkq, h.g4' hkq, bindO_ok, idx64 h.lt hkq, and_true, Int.natCast_nonneg, true_and]
    cases hnear : nearT M (trigs (segsOf j cs)) j
    · rw [hnear] at ih'; simpa using ih'
    · rw [hnear] at ih'
      have hlV : 0 < (intsL V).length := by rw [intsL_len, hVl]; omega
      have hgetV := intsL_get (acc := V) (i := q) (by rw [hVl]; exact hkq)
      have hasc := chkL_trigs hcL (p := -1) (by omega)
      have eVt : V = trigs (segsOf j cs) := by
        rw [← hV, hst]
        exact unwA_hit0 hM0 (fun a ha => (trigs_bd hcL (by rw [← trigs_len]; exact ha)).1) fun a ha => ⟨hasc a (by rw [← trigs_len]; exact ha), nearT_all hnear (by rw [trigs_len, segsOf_len] at ha; exact ha)⟩
      have eVq : V.getD q 0 = (segAt cs q).trig := by rw [eVt]; exact segsOf_trig hkq
      simp only [if_true, Nat.mul_one, hlV, hgetV, bindO_ok, eVq, ih']
  · simp only [Int.ofNat_lt, hkq, if_false]

end Go.Abs
end

