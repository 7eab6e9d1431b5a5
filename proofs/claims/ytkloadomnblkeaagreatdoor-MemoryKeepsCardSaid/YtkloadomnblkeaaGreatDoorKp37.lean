/- Part 37 of the library that the proof of the statement uses: an abstract run of the program, proved right, and what its functions give. -/
import Derived.Test.YtkloadomnblkeaaGreatDoorKp36
set_option linter.unusedVariables false
set_option linter.unusedSimpArgs false

section
/- What is packed is unpacked as it was, and the other way round. -/
set_option linter.unusedVariables false
set_option linter.unusedSimpArgs false
namespace Go.Abs
open Go.Proofs Classical

theorem unzig_zig (d : Int) : unzig (zig d) = d := by
  unfold unzig zig
  by_cases h : d < 0
  · rw [if_pos h, if_pos (by omega)]; omega
  · rw [if_neg h, if_neg (by omega)]; omega

theorem zig_unzig {z : Int} (h : 0 ≤ z) : zig (unzig z) = z := by
  unfold unzig zig
  by_cases h1 : z % 2 = 1
  · rw [if_pos h1, if_pos (by omega)]; omega
  · rw [if_neg h1, if_neg (by omega)]; omega

theorem unpL_two {b z m : Int} {c : Nat} {ms : List Int} (h : ¬ z < 128) : unpL b c (z :: m :: ms) = if m = 0 ∨ m ≥ 128 then .error 1
    else match unpS b c (z + 128 * (m - 1)) with | .error e => .error e | .ok b' => (unpL b' (c + 1) ms).map (b' :: ·) := by
  simp only [unpL, if_neg h]; rfl

theorem unp_pack : ∀ (cs : List Int) (b : Int) (c : Nat), (∀ z ∈ cs, 0 ≤ z ∧ z ≤ 4095) → 0 ≤ b → b ≤ 4095 → c + cs.length ≤ 4096 → unpL b c (packL b cs) = .ok cs
  | [], b, c, _, _, _, _ => rfl
  | x :: cs, b, c, hz, h1, h2, hl => by
    have hx := hz x List.mem_cons_self
    have ih := unp_pack cs x (c + 1) (fun z h => hz z (List.mem_cons_of_mem _ h)) hx.1 hx.2 (by simp at hl; omega)
    have hr := zig_range (d := x - b) (by omega) (by omega)
    have hs : ∀ z, z = zig (x - b) → unpS b c z = .ok x := by
      intro z e
      have : b + unzig z = x := by rw [e, unzig_zig]; omega
      unfold unpS
      rw [this, if_neg (by omega), if_neg (by simp at hl; omega)]
    simp only [packL]
    by_cases h : zig (x - b) < 128
    · rw [if_pos h, List.singleton_append, unpL_low h, hs _ rfl]
      simp only [ih]; rfl
    · rw [if_neg h]
      show unpL b c ((zig (x - b) % 128 + 128) :: (zig (x - b) / 128) :: packL x cs) = _
      rw [unpL_two (by omega), if_neg (by omega), hs _ (by omega)]
      simp only [ih]; rfl

theorem map_ok {α β : Type} {f : α → β} {r : Except Int α} {y : β} (h : r.map f = .ok y) : ∃ x, r = .ok x ∧ y = f x := by
  cases r with
  | error e => cases h
  | ok x => exact ⟨x, rfl, (Except.ok.inj h).symm⟩

theorem unpS_ok {b z x : Int} {c : Nat} (h : unpS b c z = .ok x) : x = b + unzig z ∧ 0 ≤ x ∧ x ≤ 4095 ∧ c ≠ 4096 := by
  unfold unpS at h
  split at h
  · cases h
  · split at h
    · cases h
    · rename_i h1 h2
      have := Except.ok.inj h
      omega

theorem pack_unp : ∀ (k : Nat) (zs : List Int) (b : Int) (c : Nat) (l : List Int), zs.length ≤ k → (∀ z ∈ zs, 0 ≤ z ∧ z < 256) → c ≤ 4096 → unpL b c zs = .ok l → packL b l = zs ∧ (∀ z ∈ l, 0 ≤ z ∧ z ≤ 4095) ∧ c + l.length ≤ 4096
  | k, [], b, c, l, _, _, hc, h => by
    simp only [unpL, Except.ok.injEq] at h
    subst h
    exact ⟨rfl, fun z h => (by cases h), hc⟩
  | 0, z :: zs, b, c, l, hk, _, _, _ => by simp at hk
  | k + 1, z :: zs, b, c, l, hk, hz, hc, h => by
    have hz0 := hz z List.mem_cons_self
    have step : ∀ (zz : Int) (rest : List Int), rest.length ≤ k → (∀ z ∈ rest, 0 ≤ z ∧ z < 256) → 0 ≤ zz → (match unpS b c zz with | .error e => .error e | .ok b' => (unpL b' (c + 1) rest).map (b' :: ·)) = Except.ok l →
        ∃ x l', l = x :: l' ∧ zig (x - b) = zz ∧ 0 ≤ x ∧ x ≤ 4095 ∧ packL x l' = rest ∧ (∀ z ∈ l', 0 ≤ z ∧ z ≤ 4095) ∧ c + (l'.length + 1) ≤ 4096 := by
      intro zz rest hr1 hr2 hzz h
      split at h
      · cases h
      · rename_i b' hb
        obtain ⟨e1, e2, e3, e4⟩ := unpS_ok hb
        obtain ⟨l', h1, h2⟩ := map_ok h
        obtain ⟨i1, i2, i3⟩ := pack_unp k rest b' (c + 1) l' hr1 hr2 (by omega) h1
        refine ⟨b', l', h2, ?_, e2, e3, i1, i2, by omega⟩
        rw [e1, show b + unzig zz - b = unzig zz by omega, zig_unzig hzz]
    by_cases h1 : z < 128
    · rw [unpL_low h1] at h
      obtain ⟨x, l', rfl, q1, q2, q3, q4, q5, q6⟩ := step z zs (by simpa using hk) (fun z h => hz z (List.mem_cons_of_mem _ h)) hz0.1 h
      refine ⟨by simp only [packL, q1, if_pos h1, q4, List.singleton_append], fun z hz => ?_, by simpa using q6⟩
      rcases List.mem_cons.1 hz with rfl | hz
      · exact ⟨q2, q3⟩
      · exact q5 z hz
    · cases zs with
      | nil => simp only [unpL, if_neg h1] at h; cases h
      | cons m ms =>
        rw [unpL_two h1] at h
        have hm := hz m (by simp)
        split at h
        · cases h
        · rename_i hm2
          obtain ⟨x, l', rfl, q1, q2, q3, q4, q5, q6⟩ := step (z + 128 * (m - 1)) ms (by simp at hk; omega) (fun z h => hz z (by simp [h])) (by omega) h
          refine ⟨?_, fun z hz => ?_, by simpa using q6⟩
          · simp only [packL, q1, q4]
            rw [if_neg (by omega), show (z + 128 * (m - 1)) % 128 + 128 = z by omega, show (z + 128 * (m - 1)) / 128 = m by omega]
            rfl
          · rcases List.mem_cons.1 hz with rfl | hz
            · exact ⟨q2, q3⟩
            · exact q5 z hz

/-- Whether all differences are small. -/
def smallL : Int → List Int → Bool
  | _, [] => true
  | b, x :: xs => decide (x - b < 64 ∧ b - x ≤ 64) && smallL x xs

theorem packL_ge : ∀ (cs : List Int) (b : Int), cs.length ≤ (packL b cs).length
  | [], b => by simp [packL]
  | x :: cs, b => by
    have := packL_ge cs x
    simp only [packL, List.length_append, List.length_cons]
    split <;> simp <;> omega

theorem packL_small : ∀ (cs : List Int) (b : Int), smallL b cs = decide ((packL b cs).length = cs.length)
  | [], b => by simp [smallL, packL]
  | x :: cs, b => by
    have h0 := packL_ge cs x
    have ih := packL_small cs x
    have hz : zig (x - b) < 128 ↔ (x - b < 64 ∧ b - x ≤ 64) := by unfold zig; split <;> omega
    simp only [smallL, packL, List.length_append, List.length_cons, ih]
    by_cases h : zig (x - b) < 128
    · rw [if_pos h, decide_eq_true (hz.1 h), Bool.true_and]
      congr 1
      simp only [List.length_singleton]
      exact propext ⟨fun e => by omega, fun e => by omega⟩
    · rw [if_neg h, decide_eq_false (fun e => h (hz.2 e)), Bool.false_and]
      symm
      apply decide_eq_false
      simp only [List.length_cons, List.length_nil]
      omega

/-! Words -/

theorem runLen_take (x : Int) : ∀ (b : Nat) (l : List Int), l.take (runLen x b l) = List.replicate (runLen x b l) x
  | 0, l => by simp [runLen]
  | b + 1, [] => by simp [runLen]
  | b + 1, y :: ys => by
    simp only [runLen]
    split
    · rename_i h
      simp [runLen_take x b ys, h, List.replicate_succ]
    · simp

theorem runLen_split (x : Int) (b : Nat) (l : List Int) : List.replicate (runLen x b l) x ++ l.drop (runLen x b l) = l := by
  rw [← runLen_take, List.take_append_drop]

theorem runLen_stop (x : Int) : ∀ (b : Nat) (l : List Int), runLen x b l = b ∨ (l.drop (runLen x b l)).head? ≠ some x
  | 0, l => .inl rfl
  | b + 1, [] => .inr (by simp [runLen])
  | b + 1, y :: ys => by
    simp only [runLen]
    split
    · rcases runLen_stop x b ys with h | h
      · exact .inl (by rw [h])
      · exact .inr (by simpa using h)
    · rename_i h
      exact .inr (by simpa using h)

theorem unp_packW : ∀ (k : Nat) (ws : List Int) (pl pw : Int) (c : Nat), ws.length ≤ k → (∀ z ∈ ws, 0 ≤ z ∧ z < 65536) → (pl < 255 → ws.head? ≠ some pw) → c + ws.length ≤ 4096 → unpW pl pw c (packW ws) = .ok ws
  | k, [], pl, pw, c, _, _, _, _ => by simp [packW, unpW]
  | 0, x :: xs, _, _, _, hk, _, _, _ => by simp at hk
  | k + 1, x :: xs, pl, pw, c, hk, hz, hp, hc => by
    have hx := hz x List.mem_cons_self
    have hl := (runLen_le x 254 xs)
    have hsp := runLen_split x 254 xs
    have hst := runLen_stop x 254 xs
    rw [packW]
    generalize hr : runLen x 254 xs = n at hl hsp hst ⊢
    simp only [List.length_cons] at hk hc
    show unpW pl pw c (((n + 1 : Nat) : Int) :: (x % 256) :: (x / 256) :: packW (xs.drop n)) = _
    rw [unpW, if_neg (by omega), if_neg, if_neg (by omega)]
    · have e : x % 256 + 256 * (x / 256) = x := by omega
      rw [e, unp_packW k (xs.drop n) _ x _ (by simp; omega) (fun z h => hz z (List.mem_cons_of_mem _ (List.mem_of_mem_drop h))) (fun h => ?_) (by simp; omega)]
      · show Except.ok _ = Except.ok _
        simp only [Int.toNat_natCast, List.replicate_succ, List.cons_append, hsp]
      · rcases hst with h1 | h1
        · omega
        · exact h1
    · rintro ⟨h1, h2⟩
      refine hp h1 ?_
      rw [h2]; simp; omega

theorem runLen_rep (x : Int) : ∀ (n b : Nat) (l : List Int), n ≤ b → (n = b ∨ l.head? ≠ some x) → runLen x b (List.replicate n x ++ l) = n
  | 0, 0, l, _, _ => rfl
  | 0, b + 1, l, _, h => by
    cases l with
    | nil => rfl
    | cons y ys =>
      rcases h with h | h
      · cases h
      · simp only [List.replicate_zero, List.nil_append, runLen]
        rw [if_neg (fun e => h (by simp [e]))]
  | n + 1, 0, l, h, _ => by omega
  | n + 1, b + 1, l, h, h' => by
    simp only [List.replicate_succ, List.cons_append, runLen, if_true]
    rw [runLen_rep x n b l (by omega) (by rcases h' with h' | h'; exact .inl (by omega); exact .inr h')]

theorem packW_unp : ∀ (k : Nat) (zs : List Int) (pl pw : Int) (c : Nat) (l : List Int), zs.length ≤ 3 * k → zs.length % 3 = 0 → (∀ z ∈ zs, 0 ≤ z ∧ z < 256) → unpW pl pw c zs = .ok l →
    packW l = zs ∧ (∀ z ∈ l, 0 ≤ z ∧ z < 65536) ∧ (pl < 255 → l.head? ≠ some pw)
  | k, [], pl, pw, c, l, _, _, _, h => by
    simp only [unpW, Except.ok.injEq] at h
    subst h
    exact ⟨by simp [packW], fun z h => by (cases h), fun _ => by simp⟩
  | k, [_], _, _, _, _, _, h, _, _ => by simp at h
  | k, [_, _], _, _, _, _, _, h, _, _ => by simp at h
  | 0, _ :: _ :: _ :: _, _, _, _, _, h, _, _, _ => by simp at h
  | k + 1, a :: b :: d :: rest, pl, pw, c, l, hk, hm, hz, h => by
    have ha := hz a (by simp)
    have hb := hz b (by simp)
    have hd := hz d (by simp)
    rw [unpW] at h
    split at h
    · cases h
    rename_i h1
    split at h
    · cases h
    rename_i h2
    split at h
    · cases h
    obtain ⟨l', h3, rfl⟩ := map_ok h
    obtain ⟨i1, i2, i3⟩ := packW_unp k rest a (b + 256 * d) _ l' (by simp at hk; omega) (by simp at hm; omega) (fun z h => hz z (by simp [h])) h3
    obtain ⟨n, hn⟩ : ∃ n : Nat, a.toNat = n + 1 := ⟨a.toNat - 1, by omega⟩
    rw [hn, List.replicate_succ, List.cons_append]
    refine ⟨?_, ?_, fun h => ?_⟩
    · rw [packW, runLen_rep _ n 254 l' (by omega) (by by_cases e : n = 254; exact .inl e; exact .inr (i3 (by omega)))]
      have e1 : (List.replicate n (b + 256 * d) ++ l').drop n = l' := by
        rw [List.drop_append_of_le_length (by simp)]; simp
      rw [e1, i1, show (b + 256 * d) % 256 = b by omega, show (b + 256 * d) / 256 = d by omega, show ((n + 1 : Nat) : Int) = a by omega]
      rfl
    · intro z hz'
      rcases List.mem_cons.1 hz' with rfl | hz'
      · omega
      · rcases List.mem_append.1 hz' with hz' | hz'
        · have := List.eq_of_mem_replicate hz'
          omega
        · exact i2 z hz'
    · simp only [List.head?_cons, ne_eq, Option.some.injEq]
      exact fun e => h2 ⟨h, e.symm⟩

/-- How many runs of words there are. -/
def runsL : Option Int → List Int → Nat
  | _, [] => 0
  | p, x :: xs => (if p = some x then 0 else 1) + runsL (some x) xs

theorem runsL_rep (x : Int) : ∀ (n : Nat) (l : List Int), runsL (some x) (List.replicate n x ++ l) = runsL (some x) l
  | 0, l => rfl
  | n + 1, l => by
    simp only [List.replicate_succ, List.cons_append, runsL, if_true, Nat.zero_add]
    exact runsL_rep x n l

theorem packW_runs : ∀ (k : Nat) (ws : List Int) (p : Option Int), ws.length ≤ k →
    (packW ws).length % 3 = 0 ∧ 3 * runsL p ws ≤ (packW ws).length ∧ (packW ws).length ≤ 3 * (runsL p ws + (ws.length + (if ws.head? = p then 255 else 0)) / 255)
  | k, [], p, _ => by simp [packW, runsL]
  | 0, x :: xs, _, hk => by simp at hk
  | k + 1, x :: xs, p, hk => by
    have hl := runLen_le x 254 xs
    have hsp := runLen_split x 254 xs
    have hst := runLen_stop x 254 xs
    rw [packW]
    generalize hr : runLen x 254 xs = n at hl hsp hst ⊢
    simp only [List.length_cons] at hk
    have hd : (xs.drop n).length = xs.length - n := by simp
    obtain ⟨i1, i2, i3⟩ := packW_runs k (xs.drop n) (some x) (by omega)
    have e : runsL (some x) xs = runsL (some x) (xs.drop n) := by
      conv => lhs; rw [← hsp]
      exact runsL_rep x n _
    simp only [runsL, e, List.length_append, List.length_cons, List.length_nil, List.head?_cons]
    rw [hd] at i3
    refine ⟨by omega, ?_, ?_⟩
    · split <;> omega
    · by_cases hp : p = some x
      · subst hp
        simp only [if_true]
        rcases hst with h1 | h1
        · split at i3 <;> omega
        · rw [if_neg h1] at i3; omega
      · have hp' : ¬ some x = p := fun e => hp e.symm
        simp only [hp, hp', if_false]
        rcases hst with h1 | h1
        · split at i3 <;> omega
        · rw [if_neg h1] at i3; omega

theorem map_err {α β : Type} {f : α → β} {r : Except Int α} {e : Int} (h : r.map f = .error e) : r = .error e := by
  cases r with
  | error e' => have := Except.error.inj h; subst this; rfl
  | ok x => cases h

theorem unpS_err {b z e : Int} {c : Nat} (h : unpS b c z = .error e) : e ≠ 0 := by
  unfold unpS at h
  split at h
  · have := Except.error.inj h; omega
  · split at h
    · have := Except.error.inj h; omega
    · cases h

theorem unpL_err : ∀ (k : Nat) (zs : List Int) (b : Int) (c : Nat) (e : Int), zs.length ≤ k → unpL b c zs = .error e → e ≠ 0
  | k, [], b, c, e, _, h => by simp only [unpL] at h; cases h
  | 0, z :: zs, b, c, e, hk, _ => by simp at hk
  | k + 1, z :: zs, b, c, e, hk, h => by
    have step : ∀ (zz : Int) (rest : List Int), rest.length ≤ k → (match unpS b c zz with | .error e => .error e | .ok b' => (unpL b' (c + 1) rest).map (b' :: ·)) = Except.error e → e ≠ 0 := by
      intro zz rest hr h
      split at h
      · rename_i e' he
        have := Except.error.inj h
        subst this
        exact unpS_err he
      · exact unpL_err k rest _ _ e hr (map_err h)
    by_cases h1 : z < 128
    · rw [unpL_low h1] at h
      exact step z zs (by simpa using hk) h
    · cases zs with
      | nil =>
        simp only [unpL, if_neg h1] at h
        have := Except.error.inj h; omega
      | cons m ms =>
        rw [unpL_two h1] at h
        split at h
        · have := Except.error.inj h; omega
        · exact step _ ms (by simp at hk; omega) h

theorem unpW_err : ∀ (k : Nat) (zs : List Int) (pl pw : Int) (c : Nat) (e : Int), zs.length ≤ 3 * k + 2 → unpW pl pw c zs = .error e → e ≠ 0
  | k, [], pl, pw, c, e, _, h => by simp only [unpW] at h; cases h
  | k, [_], pl, pw, c, e, _, h => by simp only [unpW] at h; cases h
  | k, [_, _], pl, pw, c, e, _, h => by simp only [unpW] at h; cases h
  | 0, _ :: _ :: _ :: _, _, _, _, _, h, _ => by simp at h
  | k + 1, a :: b :: d :: rest, pl, pw, c, e, hk, h => by
    rw [unpW] at h
    split at h
    · have := Except.error.inj h; omega
    split at h
    · have := Except.error.inj h; omega
    split at h
    · have := Except.error.inj h; omega
    exact unpW_err k rest _ _ _ e (by simp at hk; omega) (map_err h)

theorem packL_bytes : ∀ (cs : List Int) (b : Int), (∀ z ∈ cs, 0 ≤ z ∧ z ≤ 4095) → 0 ≤ b → b ≤ 4095 → ∀ z ∈ packL b cs, 0 ≤ z ∧ z < 256
  | [], b, _, _, _, z, h => by simp [packL] at h
  | x :: cs, b, hz, h1, h2, z, h => by
    have hx := hz x List.mem_cons_self
    have hr := zig_range (d := x - b) (by omega) (by omega)
    simp only [packL] at h
    rcases List.mem_append.1 h with h | h
    · split at h
      · simp at h; omega
      · simp at h; omega
    · exact packL_bytes cs x (fun z h => hz z (List.mem_cons_of_mem _ h)) hx.1 hx.2 z h

theorem packW_bytes : ∀ (k : Nat) (ws : List Int), ws.length ≤ k → (∀ z ∈ ws, 0 ≤ z ∧ z < 65536) → ∀ z ∈ packW ws, 0 ≤ z ∧ z < 256
  | _, [], _, _, z, h => by simp [packW] at h
  | 0, x :: xs, hk, _, _, _ => by simp at hk
  | k + 1, x :: xs, hk, hw, z, h => by
    have hx := hw x List.mem_cons_self
    have hl := runLen_le x 254 xs
    rw [packW] at h
    rcases List.mem_append.1 h with h | h
    · simp at h; omega
    · exact packW_bytes k _ (by simp at hk ⊢; omega) (fun z h => hw z (List.mem_cons_of_mem _ (List.mem_of_mem_drop h))) z h

end Go.Abs
end

