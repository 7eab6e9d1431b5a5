/- Part 29 of the library that the proof of the statement uses: an abstract run of the program, proved right, and what its functions give. -/
import Derived.Test.YtkloadomnblkeaaGreatDoorCv28
set_option linter.unusedVariables false
set_option linter.unusedSimpArgs false

section
/- Words that are repeated. -/
set_option linter.unusedVariables false
set_option linter.unusedSimpArgs false
namespace Go.Abs
open Go.Proofs Classical

theorem putCells_mid : ∀ (xs pre mid post : List AV), mid.length = xs.length → putCells (pre ++ mid ++ post) pre.length xs = pre ++ xs ++ post
  | [], pre, mid, post, h => by
    have : mid = [] := List.eq_nil_of_length_eq_zero h
    subst this; simp [putCells]
  | x :: xs, pre, [], post, h => by simp at h
  | x :: xs, pre, y :: mid, post, h => by
    simp only [putCells]
    have e : (pre ++ y :: mid ++ post).set pre.length x = (pre ++ [x]) ++ mid ++ post := by simp
    rw [e, show pre.length + 1 = (pre ++ [x]).length by simp, putCells_mid xs (pre ++ [x]) mid post (by simpa using h)]
    simp

theorem zrow1 (x : AV) (n : Nat) : zrow [x] n = List.replicate n x := by
  unfold zrow
  apply List.ext_getElem
  · simp
  · intro i h1 h2
    simp [Nat.mod_one]

theorem run_121' {m : Nat} {cs : List AV} {n : Int} (h : Nums .u16 m cs) (hm : m = 1) (h0 : 0 ≤ n) (h1 : n ≤ 100000) :
    (fsM mzA waysP (n.toNat + 1) 8).call (List RLeaf) 121 [.ofB (.list m cs), .ofB (.int .i64 n)] [] (resK [true]) = some [.fz n.toNat (numsL .u16 (List.replicate n.toNat ((intsOf cs).getD 0 0)))] := by
  subst hm
  have e0 := h.eq
  match hi : intsOf cs, h.il with
  | [a], _ =>
  rw [hi] at e0
  have hcs : cs = [.int .u16 a] := e0
  rw [hcs, run_121]
  obtain ⟨k, rfl⟩ := Int.eq_ofNat_of_zero_le h0
  have w1 : IntKind.u64.wrap ((1 : Nat) : Int) = 1 := by decide
  have w2 : IntKind.u64.wrap (k : Int) = k := by simp [IntKind.wrap, IntKind.signed, IntKind.bits]; omega
  have w3 : IntKind.i64.wrap (1 * (k : Int) % 18446744073709551616) = k := by rw [wrap64] <;> omega
  have w1' : IntKind.u64.wrap 1 = 1 := by decide
  simp only [shut_eq, w1, w1', w2, w3, condO_dec, guardO_dec, Int.toNat_natCast]
  rw [if_neg (by omega), if_pos (by omega), if_neg (by omega), bindO_ok]
  have hb : decide (1 * (k : Int) % 18446744073709551616 > 9223372036854775807) = false := decide_eq_false (by omega)
  rw [hb]
  show (if _ then _ else _) = _
  rw [if_pos (by omega), if_pos trivial]
  have key : ∀ (Z : List AV), Z.length = k - min 1 k → loopC (k + 1) (fun (r_6 : Int → Nat → List AV → Nat → List AV → Option (List RLeaf)) (x0_6 : Int) (x1_6 : Nat) (x2_6 : List AV) (x3_6 : Nat) (x4_6 : List AV) =>
      if x0_6 < (↑x3_6 : Int) then
        if (0 : Int) ≤ x0_6 ∧ x0_6 ≤ (↑x3_6 : Int) ∧ (↑x3_6 : Int) ≤ (↑x3_6 : Int) then
          if (0 : Int) ≤ (0 : Int) ∧ (0 : Int) ≤ x0_6 ∧ x0_6 ≤ (↑x3_6 : Int) then
            r_6 (IntKind.i64.wrap (x0_6 + (↑((x0_6.toNat - 0).min (x3_6 - x0_6.toNat)) : Int))) (x1_6) (x2_6) (x3_6) (putCells x4_6 (x0_6.toNat * 1) (List.take ((x0_6.toNat - 0).min (x3_6 - x0_6.toNat) * 1) (List.take ((x0_6.toNat - 0) * 1) (List.drop 0 x4_6))))
          else none
        else none
      else some ([RLeaf.fz x3_6 x4_6]))
      (fun _ _ _ _ _ => none) ((Nat.min 1 k : Nat) : Int) 0 [] k (List.replicate (min 1 k) (.int .u16 a) ++ Z) = some [.fz k (numsL .u16 (List.replicate k a))] := by
    intro Z hZ
    refine loopC_rule (fun j (r : Int → Nat → List AV → Nat → List AV → Option (List RLeaf)) => ∀ (i : Nat) (Z : List AV), i + j = k → (0 < k → 0 < i) → Z.length = k - i →
      r (i : Int) 0 [] k (List.replicate i (.int .u16 a) ++ Z) = some [.fz k (numsL .u16 (List.replicate k a))]) ?_ (k + 1) (k - min 1 k) (by omega) (min 1 k) Z (by omega) (by omega) hZ
    intro j r ih i Z hi hi0 hZ
    by_cases hk : i < k
    · rw [if_pos (by omega), if_pos (by omega), if_pos (by omega)]
      simp only [Int.toNat_natCast, Nat.sub_zero, Nat.mul_one, List.drop_zero]
      have et : Nat.min i (k - i) = min i (k - i) := rfl
      generalize ht : min i (k - i) = t at *
      rw [et, wrap64 (by omega) (by omega), show ((i : Int) + (t : Int)) = ((i + t : Nat) : Int) by omega]
      have e1 : List.take t (List.take i (List.replicate i (AV.int .u16 a) ++ Z)) = List.replicate t (.int .u16 a) := by
        rw [List.take_append_of_le_length (by simp)]; simp; omega
      have e2 : List.replicate i (AV.int .u16 a) ++ Z = List.replicate i (.int .u16 a) ++ Z.take t ++ Z.drop t := by simp
      rw [e1, e2]
      have e3 := putCells_mid (List.replicate t (.int .u16 a)) (List.replicate i (.int .u16 a)) (Z.take t) (Z.drop t) (by simp; omega)
      rw [List.length_replicate] at e3
      rw [e3]
      have := ih (k - (i + t)) (by omega) (i + t) (Z.drop t) (by omega) (by omega) (by simp; omega)
      rw [List.replicate_append_replicate]
      exact this
    · have : i = k := by omega
      subst this
      have : Z = [] := List.eq_nil_of_length_eq_zero (by omega)
      subst this
      rw [if_neg (by omega)]
      simp [numsL]
  cases k with
  | zero => rfl
  | succ k =>
    have e : putCells (zrow (ofV (Go.Value.int IntKind.u16 (0 : Int))).cells ((k + 1) * 1)) 0 (List.take (Nat.min 1 (k + 1) * 1) [AV.int IntKind.u16 a]) = List.replicate (min 1 (k + 1)) (.int .u16 a) ++ List.replicate k (AV.int .u16 0) := by
      rw [show (ofV (Go.Value.int IntKind.u16 (0 : Int))).cells = [AV.int .u16 0] from rfl, zrow1, Nat.mul_one, show min 1 (k + 1) = 1 by omega, show Nat.min 1 (k + 1) * 1 = 1 from by show min 1 (k + 1) * 1 = 1; omega]
      simp [putCells, List.replicate_succ]
    rw [e]
    exact key _ (by simp)

noncomputable def eMulW : Ent := fun args' R K => match args' with
  | [.int .u64 a, .int .u64 b] => guardO (shut (decide (0 ≤ a ∧ a < 18446744073709551616 ∧ 0 ≤ b ∧ b < 18446744073709551616))) (K [.v (.int .u64 (shut (a * b / 18446744073709551616))), .v (.int .u64 (shut (a * b % 18446744073709551616)))])
  | _ => none

theorem eMulW_158 : EntOk Tryz.prog 158 eMulW := by
  intro args' R K r ha h
  unfold eMulW at h
  split at h
  · rename_i a b
    obtain ⟨h1, h2⟩ := guardO_some h
    rw [shut_eq] at h1
    have h1' := of_decide_eq_true h1
    refine ⟨[.v (.int .u64 (a * b / 18446744073709551616)), .v (.int .u64 (a * b % 18446744073709551616))], fun _ _ => by simp only [eMulW, shut_eq, decide_eq_true h1', guardO], ?_, con_of mzA_ok (W := waysP) (N := 1) (k := 8) (ms := [false, false]) ?_ ha trivial⟩
    · intro l hl; rcases List.mem_cons.1 hl with rfl | hl
      · exact leaf_int
      rcases List.mem_cons.1 hl with rfl | hl
      · exact leaf_int
      cases hl
    · refine (run_158 _ a b).trans ?_; simp only [shut_eq, guardO_dec, if_pos h1']
  · cases h

noncomputable def eRep : Ent := fun args' R K => match args' with
  | [.list m cs, .int .i64 n] => guardO (shut (decide (Nums .u16 m cs ∧ m = 1 ∧ 0 ≤ n ∧ n ≤ 100000))) (K [.fz (shut (n.toNat)) (shut (numsL .u16 (List.replicate n.toNat ((intsOf cs).getD 0 0))))])
  | _ => none

theorem eRep_121 : EntOk Tryz.prog 121 eRep := by
  intro args' R K r ha h
  unfold eRep at h
  split at h
  · rename_i m cs n
    obtain ⟨h1, h2⟩ := guardO_some h
    rw [shut_eq] at h1
    have h1' := of_decide_eq_true h1
    refine ⟨[.fz (n.toNat) (numsL .u16 (List.replicate n.toNat ((intsOf cs).getD 0 0)))], fun _ _ => by simp only [eRep, shut_eq, decide_eq_true h1', guardO], ?_, con_of mzA_ok (W := waysP) (N := n.toNat + 1) (k := 8) (ms := [true]) ?_ ha ⟨numsL_plain, trivial⟩⟩
    · intro l hl; rcases List.mem_cons.1 hl with rfl | hl
      · exact (leaf_fz (numsL_plain))
      cases hl
    · exact run_121' h1'.1 h1'.2.1 h1'.2.2.1 h1'.2.2.2
  · cases h


noncomputable def mzB : List (FuncId × Ent) := (158, eMulW) :: (121, eRep) :: mzA
theorem mzB_ok : TabLOk Tryz.prog mzB := ⟨eMulW_158, eRep_121, mzA_ok⟩

end Go.Abs
end

