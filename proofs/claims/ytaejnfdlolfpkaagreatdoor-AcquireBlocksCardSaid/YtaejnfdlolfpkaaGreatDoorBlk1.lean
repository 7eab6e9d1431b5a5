/- Part 11 of the library that the proof of the statement uses: an abstract run of the program, proved right, and what its functions give. -/
import Derived.Test.YtaejnfdlolfpkaaGreatDoorStm10
set_option linter.unusedVariables false
set_option linter.unusedSimpArgs false

section
/- Functions of the Acquire seat, lifted (printed by the tool gen.py). -/
set_option maxRecDepth 100000
set_option linter.unusedVariables false
namespace Go.Abs
open Go.Proofs Classical

theorem run_26 (N : Nat) (n : Nat) (cs : List AV) (b : Int) : (fsZ tz5 N 6).call (List RLeaf) 26 [.ofB (.list n cs), .ofB (.int .i64 b)] [] (resK [false]) = (
 condO (shut (decide ((↑n : Int) ≤ b)))
  (
  some [RLeaf.v (AV.bool true)])
  (
  condO (shut (decide ((↑n : Int) > (4096 : Int))))
   (
   some [RLeaf.v (AV.bool (shut (decide ((↑n : Int) ≤ (4098 : Int)))))])
   (
   some [RLeaf.v (AV.bool false)]))) := by kernel_rfl

theorem run_64 (N : Nat) (n : Nat) (cs : List AV) : (fsZ tz5 N 6).call (List RLeaf) 64 [.ofB (.list n cs)] [] (resK [false]) = (
 loopC N (fun r_0 (x0_0 : Nat) (x1_0 : List AV) (x2_0 : Int) =>
   condO (shut (decide (x2_0 < (↑x0_0 : Int))))
    (
    guardO (shut (decide ((0 : Int) ≤ x2_0 ∧ x2_0 < (↑x0_0 : Int) ∧ 0 < x1_0.length))) <|
    bindO (asFloat Go.FloatKind.f32 (x1_0.getD (x2_0.toNat * 1) AV.top)) fun v3 =>
    condO (shut (ordO Go.FloatKind.f32 v3 (Option.some 0) == Option.some Ordering.eq))
     (
     guardO (shut (decide ((0 : Int) ≤ x2_0 ∧ x2_0 < (↑x0_0 : Int) ∧ 0 < x1_0.length))) <|
     bindO (asFloat Go.FloatKind.f32 (x1_0.getD (x2_0.toNat * 1) AV.top)) fun v6 =>
     condO (shut (ordO Go.FloatKind.f32 (shut (arithO Go.BinOp.quo Go.FloatKind.f32 (Option.some 1065353216) v6)) (Option.some 0) == Option.some Ordering.lt))
      (
      some [RLeaf.v (AV.bool false)])
      (
      r_0 (x0_0) (x1_0) (shut (IntKind.i64.wrap (x2_0 + (1 : Int))))))
     (
     r_0 (x0_0) (x1_0) (shut (IntKind.i64.wrap (x2_0 + (1 : Int))))))
    (
    some [RLeaf.v (AV.bool true)]))
   (fun _ _ _ => none) (n) (cs) ((0 : Int))) := by kernel_rfl

theorem run_59 (N : Nat) (n : Nat) (cs : List AV) (m : Nat) (ds : List AV) : (fsZ tz5 N 6).call (List RLeaf) 59 [.ofB (.list n cs), .ofB (.list m ds)] [] (resK [false]) = (
 condO (shut ((↑n : Int) != (↑m : Int)))
  (
  some [RLeaf.v (AV.bool false)])
  (
  loopC N (fun r_1 (x0_1 : Nat) (x1_1 : List AV) (x2_1 : Nat) (x3_1 : List AV) (x4_1 : Int) =>
    condO (shut (decide (x4_1 < (↑x0_1 : Int))))
     (
     guardO (shut (decide ((0 : Int) ≤ x4_1 ∧ x4_1 < (↑x0_1 : Int) ∧ 0 < x1_1.length))) <|
     bindO (asFloat Go.FloatKind.f32 (x1_1.getD (x4_1.toNat * 1) AV.top)) fun v4 =>
     guardO (shut (decide ((0 : Int) ≤ x4_1 ∧ x4_1 < (↑x2_1 : Int) ∧ 0 < x3_1.length))) <|
     bindO (asFloat Go.FloatKind.f32 (x3_1.getD (x4_1.toNat * 1) AV.top)) fun v6 =>
     condO (shut (ordO Go.FloatKind.f32 v4 v6 != Option.some Ordering.eq))
      (
      some [RLeaf.v (AV.bool false)])
      (
      r_1 (x0_1) (x1_1) (x2_1) (x3_1) (shut (IntKind.i64.wrap (x4_1 + (1 : Int))))))
     (
     some [RLeaf.v (AV.bool true)]))
    (fun _ _ _ _ _ => none) (n) (cs) (m) (ds) ((0 : Int)))) := by kernel_rfl

theorem run_97 (N : Nat) (o : Option Nat) : (fsZ tz5 N 6).call (List RLeaf) 97 [.ofB (.flo .f32 o)] [] (resK [false]) = (
 condO (shut (ordO Go.FloatKind.f32 o (Option.some 0) == Option.some Ordering.eq))
  (
  some [RLeaf.v (AV.flo Go.FloatKind.f32 (Option.some 0))])
  (
  some [RLeaf.v (AV.flo Go.FloatKind.f32 o)])) := by kernel_rfl

theorem run_96 (N : Nat) (n : Nat) (cs : List AV) : (fsZ tz5 N 6).call (List RLeaf) 96 [.ofB (.list n cs), .s (.o (.fn 97 [] []))] [] (resK [true]) = (
 loopC N (fun r_0 (x0_0 : Nat) (x1_0 : List AV) (x2_0 : Int) (x3_0 : Int) (x4_0 : Nat) (x5_0 : List AV) (x6_0 : Nat) (x7_0 : List AV) =>
   condO (shut (decide (x3_0 < x2_0)))
    (
    guardO (shut (decide ((0 : Int) ≤ x3_0 ∧ x3_0 < (↑x0_0 : Int) ∧ 0 < x1_0.length))) <|
    bindO (asFloat Go.FloatKind.f32 (x1_0.getD (x3_0.toNat * 1) AV.top)) fun v3 =>
    condO (shut (ordO Go.FloatKind.f32 v3 (Option.some 0) == Option.some Ordering.eq))
     (
     guardO (shut (decide ((x6_0 + 1) * 5 ≤ 549755813888))) <|
     r_0 (x0_0) (x1_0) (x2_0) (shut (IntKind.i64.wrap (x3_0 + (1 : Int)))) (x4_0) (x5_0) (x6_0 + 1) (x7_0 ++ putCells (zrow (ofV (Go.Value.float Go.FloatKind.f32 0)).cells 1) 0 [AV.flo Go.FloatKind.f32 (Option.some 0)]))
     (
     guardO (shut (decide ((x6_0 + 1) * 5 ≤ 549755813888))) <|
     r_0 (x0_0) (x1_0) (x2_0) (shut (IntKind.i64.wrap (x3_0 + (1 : Int)))) (x4_0) (x5_0) (x6_0 + 1) (x7_0 ++ putCells (zrow (ofV (Go.Value.float Go.FloatKind.f32 0)).cells 1) 0 [AV.flo Go.FloatKind.f32 v3])))
    (
    some [RLeaf.fz x6_0 x7_0]))
   (fun _ _ _ _ _ _ _ _ => none) (n) (cs) ((↑n : Int)) ((0 : Int)) (0) ([]) (0) ([])) := by kernel_rfl

theorem run_124 (N : Nat) (o : Option Nat) : (fsZ tz5 N 6).call (List RLeaf) 124 [.ofB (.flo .f32 o)] [] (resK [false]) = (
 condO (shut (ordO Go.FloatKind.f32 o (Option.some 0) == Option.some Ordering.eq))
  (
  some [RLeaf.v (AV.flo Go.FloatKind.f32 (Option.some 0))])
  (
  some [RLeaf.v (AV.flo Go.FloatKind.f32 o)])) := by kernel_rfl


end Go.Abs
end

section
/- Samples without the sign of 0; lists of samples. -/
set_option linter.unusedVariables false
set_option linter.unusedSimpArgs false
namespace Go.Abs
open Go.Proofs Classical

theorem leaf_flo {k : FloatKind} {o : Option Nat} : LeafOk (.v (.flo k o)) := ⟨(Cell.flo k o).pure, (fun _ _ h => by cases h), (fun _ h => by cases h)⟩

/-- A sample without the sign of 0. -/
noncomputable def clean1 (o : Option Nat) : Option Nat := if ordO .f32 o (some 0) = some .eq then some 0 else o

/-- Whether a sample is -0. -/
noncomputable def negz (o : Option Nat) : Bool := (ordO .f32 o (some 0) == some .eq) && (ordO .f32 (arithO .quo .f32 (some 1065353216) o) (some 0) == some .lt)

def flosL (xs : List (Option Nat)) : List AV := xs.map (AV.flo .f32)

def sameF (xs ys : List (Option Nat)) : Bool := (xs.length == ys.length) && (List.range xs.length).all fun i => ordO .f32 (xs.getD i none) (ys.getD i none) == some .eq

def shortN (n : Nat) (b : Int) : Bool := decide ((n : Int) ≤ b ∨ ((n : Int) > 4096 ∧ (n : Int) ≤ 4098))

theorem flosOf_L {xs : List (Option Nat)} : flosOf (flosL xs) = xs := by
  simp [flosOf, flosL, List.map_map, Function.comp_def, toF]

theorem flosL_len {xs : List (Option Nat)} : (flosL xs).length = xs.length := by simp [flosL]

theorem flosL_app {xs ys : List (Option Nat)} : flosL (xs ++ ys) = flosL xs ++ flosL ys := by simp [flosL]

theorem Flos_L {xs : List (Option Nat)} (h : xs.length < 9223372036854775808) : Flos xs.length (flosL xs) := ⟨h, by rw [flosOf_L]; rfl, flosL_len⟩

theorem flosL_plain {xs : List (Option Nat)} : ∀ c ∈ flosL xs, PlainC c := by
  intro c hc
  obtain ⟨z, _, rfl⟩ := List.mem_map.1 hc
  exact .flo _ _

theorem flosL_get {xs : List (Option Nat)} {i : Nat} (h : i < xs.length) : asFloat .f32 ((flosL xs).getD i .top) = some (xs.getD i none) := by
  simp [flosL, List.getD, h, asFloat]

theorem putF (o : Option Nat) : putCells (zrow (ofV (Go.Value.float Go.FloatKind.f32 0)).cells 1) 0 [AV.flo Go.FloatKind.f32 o] = [AV.flo .f32 o] := rfl

theorem condO_ord {R : Type} {a b : Option Nat} {c : Ordering} {x y : Option R} : condO (ordO .f32 a b == some c) x y = if ordO .f32 a b = some c then x else y := by
  by_cases h : ordO .f32 a b = some c
  · rw [if_pos h, h, beq_self_eq_true]; rfl
  · rw [if_neg h, beq_eq_false_iff_ne.mpr h]; rfl

theorem condO_ordne {R : Type} {a b : Option Nat} {c : Ordering} {x y : Option R} : condO (ordO .f32 a b != some c) x y = if ordO .f32 a b = some c then y else x := by
  have e : (ordO .f32 a b != some c) = !(ordO .f32 a b == some c) := rfl
  by_cases h : ordO .f32 a b = some c
  · rw [if_pos h, e, h, beq_self_eq_true]; rfl
  · rw [if_neg h, e, beq_eq_false_iff_ne.mpr h]; rfl

theorem run_26' {n : Nat} {cs : List AV} {b : Int} : (fsZ tz5 0 6).call (List RLeaf) 26 [.ofB (.list n cs), .ofB (.int .i64 b)] [] (resK [false]) = some [.v (.bool (shortN n b))] := by
  rw [run_26]
  simp only [shut_eq, condO_dec, shortN]
  by_cases h1 : (n : Int) ≤ b
  · simp [h1]
  · by_cases h2 : (n : Int) > 4096 <;> by_cases h3 : (n : Int) ≤ 4098 <;> simp [h1, h2, h3]

theorem run_64' {n : Nat} {cs : List AV} (h : Flos n cs) : (fsZ tz5 (n + 1) 6).call (List RLeaf) 64 [.ofB (.list n cs)] [] (resK [false]) = some [.v (.bool ((flosOf cs).all fun o => !negz o))] := by
  rw [run_64]
  refine loopC_rule (fun k (r : Nat → List AV → Int → Option (List RLeaf)) => ∀ i : Nat, i + k = n → r n cs (i : Int) = some [RLeaf.v (.bool (((flosOf cs).drop i).all fun o => !negz o))]) ?_ (n + 1) n (by omega) 0 (by omega)
  intro k r ih i hi
  by_cases hk : i < n
  · have h2 : 0 < cs.length := by rw [h.2.2]; omega
    rw [drop_cons (d := none) (show i < (flosOf cs).length by rw [h.len]; exact hk)]
    simp only [shut_eq, condO_dec, condO_ord, guardO_dec, Int.ofNat_lt, hk, h2, if_true, Int.toNat_natCast, Nat.mul_one, h.get hk, bindO_ok, idx64 h.1 hk, ih (k - 1) (by omega) (i + 1) (by omega), and_true, Int.natCast_nonneg, true_and, List.all_cons]
    generalize (flosOf cs).getD i none = v
    have e : negz v = ((ordO .f32 v (some 0) == some .eq) && (ordO .f32 (arithO .quo .f32 (some 1065353216) v) (some 0) == some .lt)) := rfl
    rw [e]
    by_cases hz : ordO .f32 v (some 0) = some .eq
    · by_cases hz2 : ordO .f32 (arithO .quo .f32 (some 1065353216) v) (some 0) = some .lt <;> simp only [hz, hz2, if_true, if_false, beq_self_eq_true, Bool.true_and, Bool.not_true, Bool.false_and, beq_eq_false_iff_ne.mpr, ne_eq, not_false_eq_true, Bool.not_false]
    · rw [if_neg hz, beq_eq_false_iff_ne.mpr hz]; rfl
  · have h2 : (flosOf cs).drop i = [] := by rw [List.drop_eq_nil_iff, h.len]; omega
    simp only [shut_eq, condO_dec, Int.ofNat_lt, hk, h2, if_false, List.all_nil]

theorem range_all_drop {n i : Nat} {p : Nat → Bool} (h : i < n) : ((List.range n).drop i).all p = (p i && ((List.range n).drop (i + 1)).all p) := by
  rw [List.drop_eq_getElem_cons (by simpa using h)]; simp

theorem run_59' {n m : Nat} {cs ds : List AV} (h : Flos n cs) (h' : Flos m ds) : (fsZ tz5 (n + 1) 6).call (List RLeaf) 59 [.ofB (.list n cs), .ofB (.list m ds)] [] (resK [false]) = some [.v (.bool (sameF (flosOf cs) (flosOf ds)))] := by
  rw [run_59]
  simp only [shut_eq, condO_bne, Int.ofNat_inj, sameF, h.len, h'.len]
  by_cases hnm : n = m
  · subst hnm
    rw [if_pos rfl]
    refine loopC_rule (fun k (r : Nat → List AV → Nat → List AV → Int → Option (List RLeaf)) => ∀ i : Nat, i + k = n → r n cs n ds (i : Int) = some [RLeaf.v (.bool (((List.range n).drop i).all fun i => ordO .f32 ((flosOf cs).getD i none) ((flosOf ds).getD i none) == some .eq))]) ?_ (n + 1) n (by omega) 0 (by omega) |>.trans (by simp)
    intro k r ih i hi
    by_cases hk : i < n
    · have h2 : 0 < cs.length := by rw [h.2.2]; omega
      have h3 : 0 < ds.length := by rw [h'.2.2]; omega
      rw [range_all_drop hk]
      simp only [shut_eq, condO_dec, condO_ordne, guardO_dec, Int.ofNat_lt, hk, h2, h3, if_true, Int.toNat_natCast, Nat.mul_one, h.get hk, h'.get hk, bindO_ok, idx64 h.1 hk, ih (k - 1) (by omega) (i + 1) (by omega), and_true, Int.natCast_nonneg, true_and]
      generalize (flosOf cs).getD i none = v
      generalize (flosOf ds).getD i none = u
      by_cases hz : ordO .f32 v u = some .eq
      · rw [if_pos hz, hz]; simp
      · rw [if_neg hz, beq_eq_false_iff_ne.mpr hz]; rfl
    · have h2 : (List.range n).drop i = [] := by rw [List.drop_eq_nil_iff]; simp; omega
      simp only [shut_eq, condO_dec, Int.ofNat_lt, hk, h2, if_false, List.all_nil]
  · rw [if_neg hnm]
    simp [hnm]

theorem run_97' {o : Option Nat} : (fsZ tz5 0 6).call (List RLeaf) 97 [.ofB (.flo .f32 o)] [] (resK [false]) = some [.v (.flo .f32 (clean1 o))] := by
  rw [run_97]
  simp only [shut_eq, condO_ord, clean1]
  split <;> rfl

theorem run_124' {o : Option Nat} : (fsZ tz5 0 6).call (List RLeaf) 124 [.ofB (.flo .f32 o)] [] (resK [false]) = some [.v (.flo .f32 (clean1 o))] := by
  rw [run_124]
  simp only [shut_eq, condO_ord, clean1]
  split <;> rfl

theorem run_96' {n : Nat} {cs : List AV} (h : Flos n cs) (hn : n ≤ 100000) : (fsZ tz5 (n + 1) 6).call (List RLeaf) 96 [.ofB (.list n cs), .s (.o (.fn 97 [] []))] [] (resK [true]) = some [.fz ((flosOf cs).map clean1).length (flosL ((flosOf cs).map clean1))] := by
  rw [run_96]
  refine loopC_rule (fun k (r : Nat → List AV → Int → Int → Nat → List AV → Nat → List AV → Option (List RLeaf)) => ∀ (i : Nat) (acc : List (Option Nat)), i + k = n → acc.length = i → r n cs (n : Int) (i : Int) 0 [] acc.length (flosL acc) = some [.fz (acc ++ ((flosOf cs).drop i).map clean1).length (flosL (acc ++ ((flosOf cs).drop i).map clean1))]) ?_ (n + 1) n (by omega) 0 [] (by omega) rfl
  intro k r ih i acc hi hacc
  by_cases hk : i < n
  · have h2 : 0 < cs.length := by rw [h.2.2]; omega
    have hr : (acc.length + 1) * 5 ≤ 549755813888 := by omega
    have ih' := fun o => ih (k - 1) (by omega) (i + 1) (acc ++ [o]) (by omega) (by simp [hacc])
    simp only [flosL_app, List.length_append, List.length_cons, List.length_nil, Nat.zero_add] at ih'
    rw [drop_cons (d := none) (show i < (flosOf cs).length by rw [h.len]; exact hk)]
    simp only [shut_eq, condO_dec, condO_ord, guardO_dec, Int.ofNat_lt, hk, h2, hr, if_true, Int.toNat_natCast, Nat.mul_one, h.get hk, bindO_ok, idx64 h.1 hk, and_true, Int.natCast_nonneg, true_and, putF]
    have e1 : ∀ o, [AV.flo .f32 o] = flosL [o] := fun _ => rfl
    simp only [e1, ih', List.map_cons]
    generalize (flosOf cs).getD i none = v
    by_cases hz : ordO .f32 v (some 0) = some .eq
    · rw [if_pos hz, show clean1 v = some 0 from if_pos hz]; simp [flosL]; omega
    · rw [if_neg hz, show clean1 v = v from if_neg hz]; simp [flosL]; omega
  · have hd : (flosOf cs).drop i = [] := by rw [List.drop_eq_nil_iff, h.len]; omega
    simp only [shut_eq, condO_dec, Int.ofNat_lt, hk, hd, if_false, List.map_nil, List.append_nil]

end Go.Abs
end

section
/- Entries: lists of samples (printed by mkent.py). -/
set_option linter.unusedVariables false
set_option linter.unusedSimpArgs false
namespace Go.Abs
open Go.Proofs Classical

noncomputable def eShortN : Ent := fun args' R K => match args' with
  | [.list n cs, .int .i64 b] => K [.v (.bool (shut (shortN n b)))]
  | _ => none

theorem eShortN_26 : EntOk Tryz.prog 26 eShortN := by
  intro args' R K r ha h
  unfold eShortN at h
  split at h
  · rename_i n cs b
    refine ⟨[.v (.bool (shortN n b))], fun _ _ => by simp only [eShortN, shut_eq], ?_, con_of tz5_ok (N := 0) (k := 6) (ms := [false]) ?_ ha trivial⟩
    · intro l hl; rcases List.mem_cons.1 hl with rfl | hl
      · exact leaf_bool
      cases hl
    · exact run_26'
  · cases h

noncomputable def eCleanB : Ent := fun args' R K => match args' with
  | [.list n cs] => guardO (shut (decide (Flos n cs))) (K [.v (.bool (shut ((flosOf cs).all fun o => !negz o)))])
  | _ => none

theorem eCleanB_64 : EntOk Tryz.prog 64 eCleanB := by
  intro args' R K r ha h
  unfold eCleanB at h
  split at h
  · rename_i n cs
    obtain ⟨h1, h2⟩ := guardO_some h
    rw [shut_eq] at h1
    have h1' := of_decide_eq_true h1
    refine ⟨[.v (.bool ((flosOf cs).all fun o => !negz o))], fun _ _ => by simp only [eCleanB, shut_eq, h1', decide_true, guardO, and_self], ?_, con_of tz5_ok (N := n + 1) (k := 6) (ms := [false]) ?_ ha trivial⟩
    · intro l hl; rcases List.mem_cons.1 hl with rfl | hl
      · exact leaf_bool
      cases hl
    · exact run_64' h1'
  · cases h

noncomputable def eSameF : Ent := fun args' R K => match args' with
  | [.list n cs, .list m ds] => guardO (shut (decide (Flos n cs ∧ Flos m ds))) (K [.v (.bool (shut (sameF (flosOf cs) (flosOf ds))))])
  | _ => none

theorem eSameF_59 : EntOk Tryz.prog 59 eSameF := by
  intro args' R K r ha h
  unfold eSameF at h
  split at h
  · rename_i n cs m ds
    obtain ⟨h1, h2⟩ := guardO_some h
    rw [shut_eq] at h1
    have h1' := of_decide_eq_true h1
    refine ⟨[.v (.bool (sameF (flosOf cs) (flosOf ds)))], fun _ _ => by simp only [eSameF, shut_eq, h1', decide_true, guardO, and_self], ?_, con_of tz5_ok (N := n + 1) (k := 6) (ms := [false]) ?_ ha trivial⟩
    · intro l hl; rcases List.mem_cons.1 hl with rfl | hl
      · exact leaf_bool
      cases hl
    · exact run_59' h1'.1 h1'.2
  · cases h

noncomputable def eClean1 : Ent := fun args' R K => match args' with
  | [.flo .f32 o] => K [.v (.flo .f32 (shut (clean1 o)))]
  | _ => none

theorem eClean1_97 : EntOk Tryz.prog 97 eClean1 := by
  intro args' R K r ha h
  unfold eClean1 at h
  split at h
  · rename_i o
    refine ⟨[.v (.flo .f32 (clean1 o))], fun _ _ => by simp only [eClean1, shut_eq], ?_, con_of tz5_ok (N := 0) (k := 6) (ms := [false]) ?_ ha trivial⟩
    · intro l hl; rcases List.mem_cons.1 hl with rfl | hl
      · exact leaf_flo
      cases hl
    · exact run_97'
  · cases h

theorem eClean1_124 : EntOk Tryz.prog 124 eClean1 := by
  intro args' R K r ha h
  unfold eClean1 at h
  split at h
  · rename_i o
    refine ⟨[.v (.flo .f32 (clean1 o))], fun _ _ => by simp only [eClean1, shut_eq], ?_, con_of tz5_ok (N := 0) (k := 6) (ms := [false]) ?_ ha trivial⟩
    · intro l hl; rcases List.mem_cons.1 hl with rfl | hl
      · exact leaf_flo
      cases hl
    · exact run_124'
  · cases h

noncomputable def eCleanL : Ent := fun args' R K => match args' with
  | [.list n cs, .func 97 [] []] => guardO (shut (decide (Flos n cs ∧ n ≤ 100000))) (K [.fz (shut (((flosOf cs).map clean1).length)) (shut (flosL ((flosOf cs).map clean1)))])
  | _ => none

theorem eCleanL_96 : EntOk Tryz.prog 96 eCleanL := by
  intro args' R K r ha h
  unfold eCleanL at h
  split at h
  · rename_i n cs
    obtain ⟨h1, h2⟩ := guardO_some h
    rw [shut_eq] at h1
    have h1' := of_decide_eq_true h1
    refine ⟨[.fz (((flosOf cs).map clean1).length) (flosL ((flosOf cs).map clean1))], fun _ _ => by simp only [eCleanL, shut_eq, h1', decide_true, guardO, and_self], ?_, con_of tz5_ok (N := n + 1) (k := 6) (ms := [true]) ?_ ha ⟨flosL_plain, trivial⟩⟩
    · intro l hl; rcases List.mem_cons.1 hl with rfl | hl
      · exact (leaf_fz (flosL_plain))
      cases hl
    · exact run_96' h1'.1 h1'.2
  · cases h


noncomputable def tz7 : List (FuncId × Ent) := (26, eShortN) :: (64, eCleanB) :: (59, eSameF) :: (97, eClean1) :: (124, eClean1) :: (96, eCleanL) :: tz5

theorem tz7_ok : TabLOk Tryz.prog tz7 := ⟨eShortN_26, eCleanB_64, eSameF_59, eClean1_97, eClean1_124, eCleanL_96, tz5_ok⟩

end Go.Abs
end

section
/- Ways of the loops of acquire.Blocks. -/
set_option maxRecDepth 100000
namespace Go.Abs
open Go.Proofs Classical

/-- The table without lists that are mapped. -/
noncomputable def tz7b : List (FuncId × Ent) := (26, eShortN) :: (64, eCleanB) :: (59, eSameF) :: (97, eClean1) :: (124, eClean1) :: tz5

theorem tz7b_ok : TabLOk Tryz.prog tz7b := ⟨eShortN_26, eCleanB_64, eSameF_59, eClean1_97, eClean1_124, tz5_ok⟩

/-- A slice that is cut from its beginning on. -/
def varyCut (t : Tmp) (s : SSt) : Vary :=
  match s.tmps[t]? with
  | some (.s (.o (.b (.own r v e)))) => ⟨[], [s, { s with tmps := s.tmps.set t (.ofB (.sub r v 0 0 e)) }]⟩
  | _ => ⟨[], [s]⟩

def waysB : Ways where
  vary := fun g b => match Nat.beq g 61 with
    | true => (match Nat.beq b 2 with | true => some (varyCut 5) | false => none)
    | false => none
  unroll := fun _ _ => none
  join := []

end Go.Abs
end

section
/- Blocks of records, lifted (printed by the tool gen.py). -/
set_option maxRecDepth 100000
set_option linter.unusedVariables false
namespace Go.Abs
open Go.Proofs Classical

theorem run_61 (N : Nat) (n : Nat) (cs : List AV) : (fsW tz7b waysB N 6).call (List RLeaf) 61 [.ofB (.list n cs)] [] (resK [true, false]) = (
 guardO (shut (decide (Flos n cs))) <|
 condO (shut (shut (sampErr n (flosOf cs)) != (0 : Int)))
  (
  some [RLeaf.fz 0 [], RLeaf.v (AV.int IntKind.i64 (shut (sampErr n (flosOf cs))))])
  (
  loopC N (fun r_2 (x0_2 : Nat) (x1_2 : List AV) (x2_2 : Int) (x3_2 : Int) (x4_2 : Nat) (x5_2 : List AV) (x6_2 : Nat) (x7_2 : List AV) (x8_2 : Nat) (x9_2 : List AV) =>
    condO (shut (decide (x3_2 < x2_2)))
     (
     guardO (shut (decide ((0 : Int) ≤ x3_2 ∧ x3_2 < (↑x0_2 : Int) ∧ 0 < x1_2.length))) <|
     bindO (asFloat Go.FloatKind.f32 (x1_2.getD (x3_2.toNat * 1) AV.top)) fun v5 =>
     guardO (shut (decide ((x8_2 + 1) * 5 ≤ 549755813888))) <|
     r_2 (x0_2) (x1_2) (x2_2) (shut (IntKind.i64.wrap (x3_2 + (1 : Int)))) (x4_2) (x5_2) (x6_2) (x7_2) (x8_2 + 1) (x9_2 ++ putCells (zrow (ofV (Go.Value.float Go.FloatKind.f32 0)).cells 1) 0 [AV.flo Go.FloatKind.f32 (shut (clean1 v5))]))
     (
     loopC N (fun r_4 (x0_4 : Nat) (x1_4 : List AV) (x2_4 : Nat) (x3_4 : List AV) (x4_4 : Nat) (x5_4 : List AV) =>
       guardO (shut (decide ((16 : Int) ≠ (0 : Int)))) <|
       condO (shut (shut ((↑x4_4 : Int).tmod (16 : Int)) != (0 : Int)))
        (
        guardO (shut (decide ((x4_4 + 1) * 5 ≤ 549755813888))) <|
        r_4 (x0_4) (x1_4) (x2_4) (x3_4) (x4_4 + 1) (x5_4 ++ putCells (zrow (ofV (Go.Value.float Go.FloatKind.f32 0)).cells 1) 0 [AV.flo Go.FloatKind.f32 (Option.some 0)]))
        (
        (loopC N (fun (r_7 : (Nat → List AV → Nat → List AV → Nat → List AV → Nat → List AV → Option (List RLeaf)) × (Nat → Nat → Nat → List AV → Nat → List AV → Nat → List AV → Nat → List AV → Option (List RLeaf)) × PUnit.{1}) => (
           (fun (x0_7 : Nat) (x1_7 : List AV) (x2_7 : Nat) (x3_7 : List AV) (x4_7 : Nat) (x5_7 : List AV) (x6_7 : Nat) (x7_7 : List AV) =>
            condO (shut (decide ((↑x4_7 : Int) > (0 : Int))))
             (
             guardO (shut (decide ((0 : Int) ≤ (0 : Int) ∧ (0 : Int) ≤ (16 : Int) ∧ (16 : Int) ≤ (↑x4_7 : Int)))) <|
             guardO (shut (decide (16 ≤ 16))) <|
             guardO (shut !(true && x4_7.beq (0 : Nat))) <|
             guardO (shut (decide (16 ≤ x5_7.length))) <|
             bindO (asFloat Go.FloatKind.f32 (x5_7.getD 0 AV.top)) fun v13 =>
             bindO (asFloat Go.FloatKind.f32 (x5_7.getD 1 AV.top)) fun v14 =>
             bindO (asFloat Go.FloatKind.f32 (x5_7.getD 2 AV.top)) fun v15 =>
             bindO (asFloat Go.FloatKind.f32 (x5_7.getD 3 AV.top)) fun v16 =>
             bindO (asFloat Go.FloatKind.f32 (x5_7.getD 4 AV.top)) fun v17 =>
             bindO (asFloat Go.FloatKind.f32 (x5_7.getD 5 AV.top)) fun v18 =>
             bindO (asFloat Go.FloatKind.f32 (x5_7.getD 6 AV.top)) fun v19 =>
             bindO (asFloat Go.FloatKind.f32 (x5_7.getD 7 AV.top)) fun v20 =>
             bindO (asFloat Go.FloatKind.f32 (x5_7.getD 8 AV.top)) fun v21 =>
             bindO (asFloat Go.FloatKind.f32 (x5_7.getD 9 AV.top)) fun v22 =>
             bindO (asFloat Go.FloatKind.f32 (x5_7.getD 10 AV.top)) fun v23 =>
             bindO (asFloat Go.FloatKind.f32 (x5_7.getD 11 AV.top)) fun v24 =>
             bindO (asFloat Go.FloatKind.f32 (x5_7.getD 12 AV.top)) fun v25 =>
             bindO (asFloat Go.FloatKind.f32 (x5_7.getD 13 AV.top)) fun v26 =>
             bindO (asFloat Go.FloatKind.f32 (x5_7.getD 14 AV.top)) fun v27 =>
             bindO (asFloat Go.FloatKind.f32 (x5_7.getD 15 AV.top)) fun v28 =>
             guardO (shut (decide ((x6_7 + 1) * 65 ≤ 549755813888))) <|
             guardO (shut (decide ((0 : Int) ≤ (16 : Int) ∧ (16 : Int) ≤ (↑x4_7 : Int) ∧ (↑x4_7 : Int) ≤ (↑x4_7 : Int)))) <|
             r_7.2.1 (16) ((↑x4_7 : Int).toNat - 16) (x0_7) (x1_7) (x2_7) (x3_7) (x4_7) (x5_7) (x6_7 + 1) (x7_7 ++ putCells (zrow (ofV (Go.Value.agg #[Go.Value.float Go.FloatKind.f32 0, Go.Value.float Go.FloatKind.f32 0, Go.Value.float Go.FloatKind.f32 0, Go.Value.float Go.FloatKind.f32 0, Go.Value.float Go.FloatKind.f32 0, Go.Value.float Go.FloatKind.f32 0, Go.Value.float Go.FloatKind.f32 0, Go.Value.float Go.FloatKind.f32 0, Go.Value.float Go.FloatKind.f32 0, Go.Value.float Go.FloatKind.f32 0, Go.Value.float Go.FloatKind.f32 0, Go.Value.float Go.FloatKind.f32 0, Go.Value.float Go.FloatKind.f32 0, Go.Value.float Go.FloatKind.f32 0, Go.Value.float Go.FloatKind.f32 0, Go.Value.float Go.FloatKind.f32 0])).cells 16) 0 [AV.flo Go.FloatKind.f32 v13, AV.flo Go.FloatKind.f32 v14, AV.flo Go.FloatKind.f32 v15, AV.flo Go.FloatKind.f32 v16, AV.flo Go.FloatKind.f32 v17, AV.flo Go.FloatKind.f32 v18, AV.flo Go.FloatKind.f32 v19, AV.flo Go.FloatKind.f32 v20, AV.flo Go.FloatKind.f32 v21, AV.flo Go.FloatKind.f32 v22, AV.flo Go.FloatKind.f32 v23, AV.flo Go.FloatKind.f32 v24, AV.flo Go.FloatKind.f32 v25, AV.flo Go.FloatKind.f32 v26, AV.flo Go.FloatKind.f32 v27, AV.flo Go.FloatKind.f32 v28]))
             (
             some [RLeaf.fz x6_7 x7_7, RLeaf.v (AV.int IntKind.i64 (0 : Int))])),
           (fun (x0_7 : Nat) (x1_7 : Nat) (x2_7 : Nat) (x3_7 : List AV) (x4_7 : Nat) (x5_7 : List AV) (x6_7 : Nat) (x7_7 : List AV) (x8_7 : Nat) (x9_7 : List AV) =>
            condO (shut (decide ((↑x1_7 : Int) > (0 : Int))))
             (
             guardO (shut (decide ((0 : Int) ≤ (0 : Int) ∧ (0 : Int) ≤ (16 : Int) ∧ (16 : Int) ≤ (↑x1_7 : Int)))) <|
             guardO (shut (decide (16 ≤ 16))) <|
             guardO (shut !(true && x6_7.beq (0 : Nat))) <|
             guardO (shut (decide ((x0_7 + 0) * 1 + 16 ≤ x7_7.length))) <|
             bindO (asFloat Go.FloatKind.f32 (x7_7.getD ((x0_7 + 0) * 1) AV.top)) fun v13 =>
             bindO (asFloat Go.FloatKind.f32 (x7_7.getD ((x0_7 + 0) * 1 + 1) AV.top)) fun v14 =>
             bindO (asFloat Go.FloatKind.f32 (x7_7.getD ((x0_7 + 0) * 1 + 1 + 1) AV.top)) fun v15 =>
             bindO (asFloat Go.FloatKind.f32 (x7_7.getD ((x0_7 + 0) * 1 + 1 + 1 + 1) AV.top)) fun v16 =>
             bindO (asFloat Go.FloatKind.f32 (x7_7.getD ((x0_7 + 0) * 1 + 1 + 1 + 1 + 1) AV.top)) fun v17 =>
             bindO (asFloat Go.FloatKind.f32 (x7_7.getD ((x0_7 + 0) * 1 + 1 + 1 + 1 + 1 + 1) AV.top)) fun v18 =>
             bindO (asFloat Go.FloatKind.f32 (x7_7.getD ((x0_7 + 0) * 1 + 1 + 1 + 1 + 1 + 1 + 1) AV.top)) fun v19 =>
             bindO (asFloat Go.FloatKind.f32 (x7_7.getD ((x0_7 + 0) * 1 + 1 + 1 + 1 + 1 + 1 + 1 + 1) AV.top)) fun v20 =>
             bindO (asFloat Go.FloatKind.f32 (x7_7.getD ((x0_7 + 0) * 1 + 1 + 1 + 1 + 1 + 1 + 1 + 1 + 1) AV.top)) fun v21 =>
             bindO (asFloat Go.FloatKind.f32 (x7_7.getD ((x0_7 + 0) * 1 + 1 + 1 + 1 + 1 + 1 + 1 + 1 + 1 + 1) AV.top)) fun v22 =>
             bindO (asFloat Go.FloatKind.f32 (x7_7.getD ((x0_7 + 0) * 1 + 1 + 1 + 1 + 1 + 1 + 1 + 1 + 1 + 1 + 1) AV.top)) fun v23 =>
             bindO (asFloat Go.FloatKind.f32 (x7_7.getD ((x0_7 + 0) * 1 + 1 + 1 + 1 + 1 + 1 + 1 + 1 + 1 + 1 + 1 + 1) AV.top)) fun v24 =>
             bindO (asFloat Go.FloatKind.f32 (x7_7.getD ((x0_7 + 0) * 1 + 1 + 1 + 1 + 1 + 1 + 1 + 1 + 1 + 1 + 1 + 1 + 1) AV.top)) fun v25 =>
             bindO (asFloat Go.FloatKind.f32 (x7_7.getD ((x0_7 + 0) * 1 + 1 + 1 + 1 + 1 + 1 + 1 + 1 + 1 + 1 + 1 + 1 + 1 + 1) AV.top)) fun v26 =>
             bindO (asFloat Go.FloatKind.f32 (x7_7.getD ((x0_7 + 0) * 1 + 1 + 1 + 1 + 1 + 1 + 1 + 1 + 1 + 1 + 1 + 1 + 1 + 1 + 1) AV.top)) fun v27 =>
             bindO (asFloat Go.FloatKind.f32 (x7_7.getD ((x0_7 + 0) * 1 + 1 + 1 + 1 + 1 + 1 + 1 + 1 + 1 + 1 + 1 + 1 + 1 + 1 + 1 + 1) AV.top)) fun v28 =>
             guardO (shut (decide ((x8_7 + 1) * 65 ≤ 549755813888))) <|
             guardO (shut (decide ((0 : Int) ≤ (16 : Int) ∧ (16 : Int) ≤ (↑x1_7 : Int) ∧ (↑x1_7 : Int) ≤ (↑x1_7 : Int)))) <|
             r_7.2.1 (x0_7 + 16) ((↑x1_7 : Int).toNat - 16) (x2_7) (x3_7) (x4_7) (x5_7) (x6_7) (x7_7) (x8_7 + 1) (x9_7 ++ putCells (zrow (ofV (Go.Value.agg #[Go.Value.float Go.FloatKind.f32 0, Go.Value.float Go.FloatKind.f32 0, Go.Value.float Go.FloatKind.f32 0, Go.Value.float Go.FloatKind.f32 0, Go.Value.float Go.FloatKind.f32 0, Go.Value.float Go.FloatKind.f32 0, Go.Value.float Go.FloatKind.f32 0, Go.Value.float Go.FloatKind.f32 0, Go.Value.float Go.FloatKind.f32 0, Go.Value.float Go.FloatKind.f32 0, Go.Value.float Go.FloatKind.f32 0, Go.Value.float Go.FloatKind.f32 0, Go.Value.float Go.FloatKind.f32 0, Go.Value.float Go.FloatKind.f32 0, Go.Value.float Go.FloatKind.f32 0, Go.Value.float Go.FloatKind.f32 0])).cells 16) 0 [AV.flo Go.FloatKind.f32 v13, AV.flo Go.FloatKind.f32 v14, AV.flo Go.FloatKind.f32 v15, AV.flo Go.FloatKind.f32 v16, AV.flo Go.FloatKind.f32 v17, AV.flo Go.FloatKind.f32 v18, AV.flo Go.FloatKind.f32 v19, AV.flo Go.FloatKind.f32 v20, AV.flo Go.FloatKind.f32 v21, AV.flo Go.FloatKind.f32 v22, AV.flo Go.FloatKind.f32 v23, AV.flo Go.FloatKind.f32 v24, AV.flo Go.FloatKind.f32 v25, AV.flo Go.FloatKind.f32 v26, AV.flo Go.FloatKind.f32 v27, AV.flo Go.FloatKind.f32 v28]))
             (
             some [RLeaf.fz x8_7 x9_7, RLeaf.v (AV.int IntKind.i64 (0 : Int))])), PUnit.unit))
          ((fun _ _ _ _ _ _ _ _ => none), (fun _ _ _ _ _ _ _ _ _ _ => none), PUnit.unit)).1 (x0_4) (x1_4) (x2_4) (x3_4) (x4_4) (x5_4) (0) ([])))
       (fun _ _ _ _ _ _ => none) (x4_2) (x5_2) (x6_2) (x7_2) (x8_2) (x9_2)))
    (fun _ _ _ _ _ _ _ _ _ _ => none) (n) (cs) ((↑n : Int)) ((0 : Int)) (0) ([]) (0) ([]) (0) ([]))) := by kernel_rfl


theorem run_65 (N : Nat) (n : Nat) (cs : List AV) : (fsW tz7b waysB N 6).call (List RLeaf) 65 [.ofB (.list n cs)] [] (resK [true]) = (
 loopC N (fun r_0 (x0_0 : Nat) (x1_0 : List AV) (x2_0 : Int) (x3_0 : Nat) (x4_0 : List AV) (x5_0 : Nat) (x6_0 : List AV) =>
   condO (shut (decide (x2_0 < (↑x0_0 : Int))))
    (
    guardO (shut (decide ((16 : Int) ≠ (0 : Int)))) <|
    condO (shut (shut (x2_0.tmod (16 : Int)) == (0 : Int)))
     (
     guardO (shut (decide ((x5_0 + 1) * 65 ≤ 549755813888))) <|
     guardO (shut (decide ((16 : Int) ≠ (0 : Int)))) <|
     guardO (shut (decide ((0 : Int) ≤ x2_0 ∧ x2_0 < (↑x0_0 : Int) ∧ 0 < x1_0.length))) <|
     bindO (asFloat Go.FloatKind.f32 (x1_0.getD (x2_0.toNat * 1) AV.top)) fun v7 =>
     guardO (shut (decide ((0 : Int) ≤ shut (IntKind.i64.wrap ((↑(x5_0 + 1) : Int) - (1 : Int))) ∧ shut (IntKind.i64.wrap ((↑(x5_0 + 1) : Int) - (1 : Int))) < (↑(x5_0 + 1) : Int)))) <|
     guardO (shut (decide ((0 : Int) ≤ shut (x2_0.tmod (16 : Int)) ∧ shut (x2_0.tmod (16 : Int)) < (↑16 : Int)))) <|
     guardO (shut !(true && (x5_0 + 1).beq (0 : Nat))) <|
     guardO (shut (decide ((shut (IntKind.i64.wrap ((↑(x5_0 + 1) : Int) - (1 : Int)))).toNat * 16 + (shut (x2_0.tmod (16 : Int))).toNat * 1 + 1 ≤ (x6_0 ++ putCells (zrow (ofV (Go.Value.agg #[Go.Value.float Go.FloatKind.f32 0, Go.Value.float Go.FloatKind.f32 0, Go.Value.float Go.FloatKind.f32 0, Go.Value.float Go.FloatKind.f32 0, Go.Value.float Go.FloatKind.f32 0, Go.Value.float Go.FloatKind.f32 0, Go.Value.float Go.FloatKind.f32 0, Go.Value.float Go.FloatKind.f32 0, Go.Value.float Go.FloatKind.f32 0, Go.Value.float Go.FloatKind.f32 0, Go.Value.float Go.FloatKind.f32 0, Go.Value.float Go.FloatKind.f32 0, Go.Value.float Go.FloatKind.f32 0, Go.Value.float Go.FloatKind.f32 0, Go.Value.float Go.FloatKind.f32 0, Go.Value.float Go.FloatKind.f32 0])).cells 16) 0 [AV.flo Go.FloatKind.f32 (Option.some 0), AV.flo Go.FloatKind.f32 (Option.some 0), AV.flo Go.FloatKind.f32 (Option.some 0), AV.flo Go.FloatKind.f32 (Option.some 0), AV.flo Go.FloatKind.f32 (Option.some 0), AV.flo Go.FloatKind.f32 (Option.some 0), AV.flo Go.FloatKind.f32 (Option.some 0), AV.flo Go.FloatKind.f32 (Option.some 0), AV.flo Go.FloatKind.f32 (Option.some 0), AV.flo Go.FloatKind.f32 (Option.some 0), AV.flo Go.FloatKind.f32 (Option.some 0), AV.flo Go.FloatKind.f32 (Option.some 0), AV.flo Go.FloatKind.f32 (Option.some 0), AV.flo Go.FloatKind.f32 (Option.some 0), AV.flo Go.FloatKind.f32 (Option.some 0), AV.flo Go.FloatKind.f32 (Option.some 0)]).length))) <|
     r_0 (x0_0) (x1_0) (shut (IntKind.i64.wrap (x2_0 + (1 : Int)))) (x3_0) (x4_0) (x5_0 + 1) (putCells (x6_0 ++ putCells (zrow (ofV (Go.Value.agg #[Go.Value.float Go.FloatKind.f32 0, Go.Value.float Go.FloatKind.f32 0, Go.Value.float Go.FloatKind.f32 0, Go.Value.float Go.FloatKind.f32 0, Go.Value.float Go.FloatKind.f32 0, Go.Value.float Go.FloatKind.f32 0, Go.Value.float Go.FloatKind.f32 0, Go.Value.float Go.FloatKind.f32 0, Go.Value.float Go.FloatKind.f32 0, Go.Value.float Go.FloatKind.f32 0, Go.Value.float Go.FloatKind.f32 0, Go.Value.float Go.FloatKind.f32 0, Go.Value.float Go.FloatKind.f32 0, Go.Value.float Go.FloatKind.f32 0, Go.Value.float Go.FloatKind.f32 0, Go.Value.float Go.FloatKind.f32 0])).cells 16) 0 [AV.flo Go.FloatKind.f32 (Option.some 0), AV.flo Go.FloatKind.f32 (Option.some 0), AV.flo Go.FloatKind.f32 (Option.some 0), AV.flo Go.FloatKind.f32 (Option.some 0), AV.flo Go.FloatKind.f32 (Option.some 0), AV.flo Go.FloatKind.f32 (Option.some 0), AV.flo Go.FloatKind.f32 (Option.some 0), AV.flo Go.FloatKind.f32 (Option.some 0), AV.flo Go.FloatKind.f32 (Option.some 0), AV.flo Go.FloatKind.f32 (Option.some 0), AV.flo Go.FloatKind.f32 (Option.some 0), AV.flo Go.FloatKind.f32 (Option.some 0), AV.flo Go.FloatKind.f32 (Option.some 0), AV.flo Go.FloatKind.f32 (Option.some 0), AV.flo Go.FloatKind.f32 (Option.some 0), AV.flo Go.FloatKind.f32 (Option.some 0)]) ((shut (IntKind.i64.wrap ((↑(x5_0 + 1) : Int) - (1 : Int)))).toNat * 16 + (shut (x2_0.tmod (16 : Int))).toNat * 1) [AV.flo Go.FloatKind.f32 (shut (clean1 v7))]))
     (
     guardO (shut (decide ((16 : Int) ≠ (0 : Int)))) <|
     guardO (shut (decide ((0 : Int) ≤ x2_0 ∧ x2_0 < (↑x0_0 : Int) ∧ 0 < x1_0.length))) <|
     bindO (asFloat Go.FloatKind.f32 (x1_0.getD (x2_0.toNat * 1) AV.top)) fun v6 =>
     guardO (shut (decide ((0 : Int) ≤ shut (IntKind.i64.wrap ((↑x5_0 : Int) - (1 : Int))) ∧ shut (IntKind.i64.wrap ((↑x5_0 : Int) - (1 : Int))) < (↑x5_0 : Int)))) <|
     guardO (shut (decide ((0 : Int) ≤ shut (x2_0.tmod (16 : Int)) ∧ shut (x2_0.tmod (16 : Int)) < (↑16 : Int)))) <|
     guardO (shut !(true && x5_0.beq (0 : Nat))) <|
     guardO (shut (decide ((shut (IntKind.i64.wrap ((↑x5_0 : Int) - (1 : Int)))).toNat * 16 + (shut (x2_0.tmod (16 : Int))).toNat * 1 + 1 ≤ x6_0.length))) <|
     r_0 (x0_0) (x1_0) (shut (IntKind.i64.wrap (x2_0 + (1 : Int)))) (x3_0) (x4_0) (x5_0) (putCells x6_0 ((shut (IntKind.i64.wrap ((↑x5_0 : Int) - (1 : Int)))).toNat * 16 + (shut (x2_0.tmod (16 : Int))).toNat * 1) [AV.flo Go.FloatKind.f32 (shut (clean1 v6))])))
    (
    some [RLeaf.fz x5_0 x6_0]))
   (fun _ _ _ _ _ _ _ => none) (n) (cs) ((0 : Int)) (0) ([]) (0) ([])) := by kernel_rfl


theorem run_62 (N : Nat) (n : Nat) (cs : List AV) (b : Int) : (fsZ tz7 N 6).call (List RLeaf) 62 [.ofB (.list n cs), .ofB (.int .i64 b)] [] (resK [true, false]) = (
 condO (shut (decide ((↑n : Int) > (256 : Int))))
  (
  some [RLeaf.fz 0 [], RLeaf.v (AV.int IntKind.i64 (5 : Int))])
  (
  loopC N (fun r_1 (x0_1 : Nat) (x1_1 : List AV) (x2_1 : Int) (x3_1 : Nat) (x4_1 : List AV) (x5_1 : Int) (x6_1 : Int) (x7_1 : Nat) (x8_1 : List AV) (x9_1 : Nat) (x10_1 : List AV) =>
    condO (shut (decide (x6_1 < x5_1)))
     (
     guardO (shut (decide ((0 : Int) ≤ x6_1 ∧ x6_1 < (↑x3_1 : Int) ∧ 0 < x4_1.length))) <|
     guardO (shut (decide (x6_1.toNat * 16 + 16 ≤ x4_1.length))) <|
     bindO (asFloat Go.FloatKind.f32 (x4_1.getD (x6_1.toNat * 16) AV.top)) fun v5 =>
     bindO (asFloat Go.FloatKind.f32 (x4_1.getD (x6_1.toNat * 16 + 1) AV.top)) fun v6 =>
     bindO (asFloat Go.FloatKind.f32 (x4_1.getD (x6_1.toNat * 16 + 1 + 1) AV.top)) fun v7 =>
     bindO (asFloat Go.FloatKind.f32 (x4_1.getD (x6_1.toNat * 16 + 1 + 1 + 1) AV.top)) fun v8 =>
     bindO (asFloat Go.FloatKind.f32 (x4_1.getD (x6_1.toNat * 16 + 1 + 1 + 1 + 1) AV.top)) fun v9 =>
     bindO (asFloat Go.FloatKind.f32 (x4_1.getD (x6_1.toNat * 16 + 1 + 1 + 1 + 1 + 1) AV.top)) fun v10 =>
     bindO (asFloat Go.FloatKind.f32 (x4_1.getD (x6_1.toNat * 16 + 1 + 1 + 1 + 1 + 1 + 1) AV.top)) fun v11 =>
     bindO (asFloat Go.FloatKind.f32 (x4_1.getD (x6_1.toNat * 16 + 1 + 1 + 1 + 1 + 1 + 1 + 1) AV.top)) fun v12 =>
     bindO (asFloat Go.FloatKind.f32 (x4_1.getD (x6_1.toNat * 16 + 1 + 1 + 1 + 1 + 1 + 1 + 1 + 1) AV.top)) fun v13 =>
     bindO (asFloat Go.FloatKind.f32 (x4_1.getD (x6_1.toNat * 16 + 1 + 1 + 1 + 1 + 1 + 1 + 1 + 1 + 1) AV.top)) fun v14 =>
     bindO (asFloat Go.FloatKind.f32 (x4_1.getD (x6_1.toNat * 16 + 1 + 1 + 1 + 1 + 1 + 1 + 1 + 1 + 1 + 1) AV.top)) fun v15 =>
     bindO (asFloat Go.FloatKind.f32 (x4_1.getD (x6_1.toNat * 16 + 1 + 1 + 1 + 1 + 1 + 1 + 1 + 1 + 1 + 1 + 1) AV.top)) fun v16 =>
     bindO (asFloat Go.FloatKind.f32 (x4_1.getD (x6_1.toNat * 16 + 1 + 1 + 1 + 1 + 1 + 1 + 1 + 1 + 1 + 1 + 1 + 1) AV.top)) fun v17 =>
     bindO (asFloat Go.FloatKind.f32 (x4_1.getD (x6_1.toNat * 16 + 1 + 1 + 1 + 1 + 1 + 1 + 1 + 1 + 1 + 1 + 1 + 1 + 1) AV.top)) fun v18 =>
     bindO (asFloat Go.FloatKind.f32 (x4_1.getD (x6_1.toNat * 16 + 1 + 1 + 1 + 1 + 1 + 1 + 1 + 1 + 1 + 1 + 1 + 1 + 1 + 1) AV.top)) fun v19 =>
     bindO (asFloat Go.FloatKind.f32 (x4_1.getD (x6_1.toNat * 16 + 1 + 1 + 1 + 1 + 1 + 1 + 1 + 1 + 1 + 1 + 1 + 1 + 1 + 1 + 1) AV.top)) fun v20 =>
     condO (shut (shut (ordO Go.FloatKind.f32 v5 (Option.some 0) == Option.some Ordering.eq) && (shut (ordO Go.FloatKind.f32 v6 (Option.some 0) == Option.some Ordering.eq) && (shut (ordO Go.FloatKind.f32 v7 (Option.some 0) == Option.some Ordering.eq) && (shut (ordO Go.FloatKind.f32 v8 (Option.some 0) == Option.some Ordering.eq) && (shut (ordO Go.FloatKind.f32 v9 (Option.some 0) == Option.some Ordering.eq) && (shut (ordO Go.FloatKind.f32 v10 (Option.some 0) == Option.some Ordering.eq) && (shut (ordO Go.FloatKind.f32 v11 (Option.some 0) == Option.some Ordering.eq) && (shut (ordO Go.FloatKind.f32 v12 (Option.some 0) == Option.some Ordering.eq) && (shut (ordO Go.FloatKind.f32 v13 (Option.some 0) == Option.some Ordering.eq) && (shut (ordO Go.FloatKind.f32 v14 (Option.some 0) == Option.some Ordering.eq) && (shut (ordO Go.FloatKind.f32 v15 (Option.some 0) == Option.some Ordering.eq) && (shut (ordO Go.FloatKind.f32 v16 (Option.some 0) == Option.some Ordering.eq) && (shut (ordO Go.FloatKind.f32 v17 (Option.some 0) == Option.some Ordering.eq) && (shut (ordO Go.FloatKind.f32 v18 (Option.some 0) == Option.some Ordering.eq) && (shut (ordO Go.FloatKind.f32 v19 (Option.some 0) == Option.some Ordering.eq) && (shut (ordO Go.FloatKind.f32 v20 (Option.some 0) == Option.some Ordering.eq) && true)))))))))))))))))
      (
      guardO (shut (decide ((0 : Int) ≤ (16 : Int) ∧ (16 : Int) ≤ (1048576 : Int)))) <|
      guardO (shut (decide ((x9_1 + 16) * 5 ≤ 549755813888))) <|
      r_1 (x0_1) (x1_1) (x2_1) (x3_1) (x4_1) (x5_1) (shut (IntKind.i64.wrap (x6_1 + (1 : Int)))) (x7_1) (x8_1) (x9_1 + 16) (x10_1 ++ zrow (ofV (Go.Value.float Go.FloatKind.f32 0)).cells 16))
      (
      guardO (shut (decide (Flos 16 (List.take 16 (List.drop 0 [AV.flo Go.FloatKind.f32 v5, AV.flo Go.FloatKind.f32 v6, AV.flo Go.FloatKind.f32 v7, AV.flo Go.FloatKind.f32 v8, AV.flo Go.FloatKind.f32 v9, AV.flo Go.FloatKind.f32 v10, AV.flo Go.FloatKind.f32 v11, AV.flo Go.FloatKind.f32 v12, AV.flo Go.FloatKind.f32 v13, AV.flo Go.FloatKind.f32 v14, AV.flo Go.FloatKind.f32 v15, AV.flo Go.FloatKind.f32 v16, AV.flo Go.FloatKind.f32 v17, AV.flo Go.FloatKind.f32 v18, AV.flo Go.FloatKind.f32 v19, AV.flo Go.FloatKind.f32 v20]))))) <|
      condO (shut (shut (sampErr 16 (flosOf (List.take 16 (List.drop 0 [AV.flo Go.FloatKind.f32 v5, AV.flo Go.FloatKind.f32 v6, AV.flo Go.FloatKind.f32 v7, AV.flo Go.FloatKind.f32 v8, AV.flo Go.FloatKind.f32 v9, AV.flo Go.FloatKind.f32 v10, AV.flo Go.FloatKind.f32 v11, AV.flo Go.FloatKind.f32 v12, AV.flo Go.FloatKind.f32 v13, AV.flo Go.FloatKind.f32 v14, AV.flo Go.FloatKind.f32 v15, AV.flo Go.FloatKind.f32 v16, AV.flo Go.FloatKind.f32 v17, AV.flo Go.FloatKind.f32 v18, AV.flo Go.FloatKind.f32 v19, AV.flo Go.FloatKind.f32 v20])))) != (0 : Int)))
       (
       some [RLeaf.fz 0 [], RLeaf.v (AV.int IntKind.i64 (1 : Int))])
       (
       guardO (shut (decide (Flos 16 (List.take 16 (List.drop 0 [AV.flo Go.FloatKind.f32 v5, AV.flo Go.FloatKind.f32 v6, AV.flo Go.FloatKind.f32 v7, AV.flo Go.FloatKind.f32 v8, AV.flo Go.FloatKind.f32 v9, AV.flo Go.FloatKind.f32 v10, AV.flo Go.FloatKind.f32 v11, AV.flo Go.FloatKind.f32 v12, AV.flo Go.FloatKind.f32 v13, AV.flo Go.FloatKind.f32 v14, AV.flo Go.FloatKind.f32 v15, AV.flo Go.FloatKind.f32 v16, AV.flo Go.FloatKind.f32 v17, AV.flo Go.FloatKind.f32 v18, AV.flo Go.FloatKind.f32 v19, AV.flo Go.FloatKind.f32 v20])) ∧ 16 ≤ 100000))) <|
       guardO (shut (decide ((shut (flosL (List.map clean1 (flosOf (List.take 16 (List.drop 0 [AV.flo Go.FloatKind.f32 v5, AV.flo Go.FloatKind.f32 v6, AV.flo Go.FloatKind.f32 v7, AV.flo Go.FloatKind.f32 v8, AV.flo Go.FloatKind.f32 v9, AV.flo Go.FloatKind.f32 v10, AV.flo Go.FloatKind.f32 v11, AV.flo Go.FloatKind.f32 v12, AV.flo Go.FloatKind.f32 v13, AV.flo Go.FloatKind.f32 v14, AV.flo Go.FloatKind.f32 v15, AV.flo Go.FloatKind.f32 v16, AV.flo Go.FloatKind.f32 v17, AV.flo Go.FloatKind.f32 v18, AV.flo Go.FloatKind.f32 v19, AV.flo Go.FloatKind.f32 v20])))))).length = shut 16 * 1))) <|
       guardO (shut (decide ((x9_1 + shut 16) * 5 ≤ 549755813888))) <|
       r_1 (x0_1) (x1_1) (x2_1) (x3_1) (x4_1) (x5_1) (shut (IntKind.i64.wrap (x6_1 + (1 : Int)))) (x7_1) (x8_1) (x9_1 + shut 16) (x10_1 ++ shut (flosL (List.map clean1 (flosOf (List.take 16 (List.drop 0 [AV.flo Go.FloatKind.f32 v5, AV.flo Go.FloatKind.f32 v6, AV.flo Go.FloatKind.f32 v7, AV.flo Go.FloatKind.f32 v8, AV.flo Go.FloatKind.f32 v9, AV.flo Go.FloatKind.f32 v10, AV.flo Go.FloatKind.f32 v11, AV.flo Go.FloatKind.f32 v12, AV.flo Go.FloatKind.f32 v13, AV.flo Go.FloatKind.f32 v14, AV.flo Go.FloatKind.f32 v15, AV.flo Go.FloatKind.f32 v16, AV.flo Go.FloatKind.f32 v17, AV.flo Go.FloatKind.f32 v18, AV.flo Go.FloatKind.f32 v19, AV.flo Go.FloatKind.f32 v20])))))))))
     (
     condO (shut (decide (x2_1 < (0 : Int))))
      (
      some [RLeaf.fz 0 [], RLeaf.v (AV.int IntKind.i64 (2 : Int))])
      (
      condO (shut (decide (x2_1 > (↑x9_1 : Int))))
       (
       some [RLeaf.fz 0 [], RLeaf.v (AV.int IntKind.i64 (2 : Int))])
       (
       condO (shut (decide ((↑x0_1 : Int) > (0 : Int))))
        (
        condO (shut (decide (x2_1 ≤ shut (IntKind.i64.wrap ((↑x9_1 : Int) - (16 : Int))))))
         (
         some [RLeaf.fz 0 [], RLeaf.v (AV.int IntKind.i64 (2 : Int))])
         (
         guardO (shut (decide ((0 : Int) ≤ (0 : Int) ∧ (0 : Int) ≤ x2_1 ∧ x2_1 ≤ (↑x9_1 : Int)))) <|
         some [RLeaf.fz (x2_1.toNat - 0) (List.take ((x2_1.toNat - 0) * 1) (List.drop 0 x10_1)), RLeaf.v (AV.int IntKind.i64 (0 : Int))]))
        (
        guardO (shut (decide ((0 : Int) ≤ (0 : Int) ∧ (0 : Int) ≤ x2_1 ∧ x2_1 ≤ (↑x9_1 : Int)))) <|
        some [RLeaf.fz (x2_1.toNat - 0) (List.take ((x2_1.toNat - 0) * 1) (List.drop 0 x10_1)), RLeaf.v (AV.int IntKind.i64 (0 : Int))])))))
    (fun _ _ _ _ _ _ _ _ _ _ _ => none) (n) (cs) (b) (n) (cs) ((↑n : Int)) ((0 : Int)) (0) ([]) (0) ([]))) := by kernel_rfl

theorem run_63 (N : Nat) (n : Nat) (cs : List AV) (b : Int) : (fsZ tz7 N 6).call (List RLeaf) 63 [.ofB (.list n cs), .ofB (.int .i64 b)] [] (resK [true, false]) = (
 condO (shut (decide ((↑n : Int) > (256 : Int))))
  (
  some [RLeaf.fz 0 [], RLeaf.v (AV.int IntKind.i64 (5 : Int))])
  (
  loopC N (fun r_1 (x0_1 : Nat) (x1_1 : List AV) (x2_1 : Int) (x3_1 : Int) (x4_1 : Nat) (x5_1 : List AV) =>
    condO (shut (decide (x3_1 < (↑x0_1 : Int))))
     (
     loopC N (fun r_3 (x0_3 : Nat) (x1_3 : List AV) (x2_3 : Int) (x3_3 : Int) (x4_3 : Int) (x5_3 : Nat) (x6_3 : List AV) =>
       condO (shut (decide (x4_3 < (16 : Int))))
        (
        guardO (shut (decide ((0 : Int) ≤ x3_3 ∧ x3_3 < (↑x0_3 : Int) ∧ 0 < x1_3.length))) <|
        guardO (shut (decide ((0 : Int) ≤ x4_3 ∧ x4_3 < (↑16 : Int)))) <|
        bindO (asFloat Go.FloatKind.f32 (x1_3.getD (x3_3.toNat * 16 + x4_3.toNat * 1) AV.top)) fun v7 =>
        condO (!shut (finB v7))
         (
         some [RLeaf.fz 0 [], RLeaf.v (AV.int IntKind.i64 (1 : Int))])
         (
         r_3 (x0_3) (x1_3) (x2_3) (x3_3) (shut (IntKind.i64.wrap (x4_3 + (1 : Int)))) (x5_3) (x6_3)))
        (
        r_1 (x0_3) (x1_3) (x2_3) (shut (IntKind.i64.wrap (x3_3 + (1 : Int)))) (x5_3) (x6_3)))
       (fun _ _ _ _ _ _ _ => none) (x0_1) (x1_1) (x2_1) (x3_1) ((0 : Int)) (x4_1) (x5_1))
     (
     condO (shut (decide (x2_1 > shut (IntKind.i64.wrap ((16 : Int) * (↑x0_1 : Int))))))
      (
      some [RLeaf.fz 0 [], RLeaf.v (AV.int IntKind.i64 (2 : Int))])
      (
      condO (shut (decide (x2_1 ≤ shut (IntKind.i64.wrap ((16 : Int) * shut (IntKind.i64.wrap ((↑x0_1 : Int) - (1 : Int))))))))
       (
       condO (shut (decide ((↑x0_1 : Int) > (0 : Int))))
        (
        some [RLeaf.fz 0 [], RLeaf.v (AV.int IntKind.i64 (2 : Int))])
        (
        condO (shut (decide (x2_1 < (0 : Int))))
         (
         some [RLeaf.fz 0 [], RLeaf.v (AV.int IntKind.i64 (2 : Int))])
         (
         loopC N (fun r_7 (x0_7 : Nat) (x1_7 : List AV) (x2_7 : Int) (x3_7 : Int) (x4_7 : Nat) (x5_7 : List AV) (x6_7 : Nat) (x7_7 : List AV) =>
           condO (shut (decide (x3_7 < x2_7)))
            (
            guardO (shut (decide ((16 : Int) ≠ (0 : Int)))) <|
            guardO (shut (decide ((16 : Int) ≠ (0 : Int)))) <|
            guardO (shut (decide ((0 : Int) ≤ shut (IntKind.i64.wrap (x3_7.tdiv (16 : Int))) ∧ shut (IntKind.i64.wrap (x3_7.tdiv (16 : Int))) < (↑x0_7 : Int) ∧ 0 < x1_7.length))) <|
            guardO (shut (decide ((0 : Int) ≤ shut (x3_7.tmod (16 : Int)) ∧ shut (x3_7.tmod (16 : Int)) < (↑16 : Int)))) <|
            bindO (asFloat Go.FloatKind.f32 (x1_7.getD ((shut (IntKind.i64.wrap (x3_7.tdiv (16 : Int)))).toNat * 16 + (shut (x3_7.tmod (16 : Int))).toNat * 1) AV.top)) fun v13 =>
            guardO (shut (decide ((x6_7 + 1) * 5 ≤ 549755813888))) <|
            r_7 (x0_7) (x1_7) (x2_7) (shut (IntKind.i64.wrap (x3_7 + (1 : Int)))) (x4_7) (x5_7) (x6_7 + 1) (x7_7 ++ putCells (zrow (ofV (Go.Value.float Go.FloatKind.f32 0)).cells 1) 0 [AV.flo Go.FloatKind.f32 (shut (clean1 v13))]))
            (
            some [RLeaf.fz x6_7 x7_7, RLeaf.v (AV.int IntKind.i64 (0 : Int))]))
           (fun _ _ _ _ _ _ _ _ => none) (x0_1) (x1_1) (x2_1) ((0 : Int)) (x4_1) (x5_1) (0) ([]))))
       (
       condO (shut (decide (x2_1 < (0 : Int))))
        (
        some [RLeaf.fz 0 [], RLeaf.v (AV.int IntKind.i64 (2 : Int))])
        (
        loopC N (fun r_6 (x0_6 : Nat) (x1_6 : List AV) (x2_6 : Int) (x3_6 : Int) (x4_6 : Nat) (x5_6 : List AV) (x6_6 : Nat) (x7_6 : List AV) =>
          condO (shut (decide (x3_6 < x2_6)))
           (
           guardO (shut (decide ((16 : Int) ≠ (0 : Int)))) <|
           guardO (shut (decide ((16 : Int) ≠ (0 : Int)))) <|
           guardO (shut (decide ((0 : Int) ≤ shut (IntKind.i64.wrap (x3_6.tdiv (16 : Int))) ∧ shut (IntKind.i64.wrap (x3_6.tdiv (16 : Int))) < (↑x0_6 : Int) ∧ 0 < x1_6.length))) <|
           guardO (shut (decide ((0 : Int) ≤ shut (x3_6.tmod (16 : Int)) ∧ shut (x3_6.tmod (16 : Int)) < (↑16 : Int)))) <|
           bindO (asFloat Go.FloatKind.f32 (x1_6.getD ((shut (IntKind.i64.wrap (x3_6.tdiv (16 : Int)))).toNat * 16 + (shut (x3_6.tmod (16 : Int))).toNat * 1) AV.top)) fun v12 =>
           guardO (shut (decide ((x6_6 + 1) * 5 ≤ 549755813888))) <|
           r_6 (x0_6) (x1_6) (x2_6) (shut (IntKind.i64.wrap (x3_6 + (1 : Int)))) (x4_6) (x5_6) (x6_6 + 1) (x7_6 ++ putCells (zrow (ofV (Go.Value.float Go.FloatKind.f32 0)).cells 1) 0 [AV.flo Go.FloatKind.f32 (shut (clean1 v12))]))
           (
           some [RLeaf.fz x6_6 x7_6, RLeaf.v (AV.int IntKind.i64 (0 : Int))]))
          (fun _ _ _ _ _ _ _ _ => none) (x0_1) (x1_1) (x2_1) ((0 : Int)) (x4_1) (x5_1) (0) ([]))))))
    (fun _ _ _ _ _ _ => none) (n) (cs) (b) ((0 : Int)) (0) ([]))) := by kernel_rfl


end Go.Abs
end

section
/- Blocks of records. -/
set_option linter.unusedVariables false
set_option linter.unusedSimpArgs false
namespace Go.Abs
open Go.Proofs Classical

/-- A list of blocks of 16 samples. -/
def Blk (n : Nat) (cs : List AV) : Prop := n < 9223372036854775808 ∧ cs = flosL (flosOf cs) ∧ cs.length = n * 16

theorem Blk.len {n : Nat} {cs : List AV} (h : Blk n cs) : (flosOf cs).length = n * 16 := by simp [flosOf, h.2.2]

theorem Blk.get {n : Nat} {cs : List AV} (h : Blk n cs) {i : Nat} (hi : i < n * 16) : asFloat .f32 (cs.getD i .top) = some ((flosOf cs).getD i none) := by
  rw [h.2.1, flosOf_L]
  exact flosL_get (by rw [h.len]; exact hi)

theorem take_range {os : List (Option Nat)} {x k : Nat} (h : x + k ≤ os.length) : (os.drop x).take k = (List.range k).map fun j => os.getD (x + j) none := by
  apply List.ext_getElem
  · simp; omega
  · intro i h1 h2
    simp at h1 h2
    simp [List.getD, show x + i < os.length by omega]

theorem blk16 {os : List (Option Nat)} {x : Nat} (h : x + 16 ≤ os.length) : [AV.flo .f32 (os.getD (x) none), AV.flo .f32 (os.getD (x + 1) none), AV.flo .f32 (os.getD (x + 1 + 1) none), AV.flo .f32 (os.getD (x + 1 + 1 + 1) none), AV.flo .f32 (os.getD (x + 1 + 1 + 1 + 1) none), AV.flo .f32 (os.getD (x + 1 + 1 + 1 + 1 + 1) none), AV.flo .f32 (os.getD (x + 1 + 1 + 1 + 1 + 1 + 1) none), AV.flo .f32 (os.getD (x + 1 + 1 + 1 + 1 + 1 + 1 + 1) none), AV.flo .f32 (os.getD (x + 1 + 1 + 1 + 1 + 1 + 1 + 1 + 1) none), AV.flo .f32 (os.getD (x + 1 + 1 + 1 + 1 + 1 + 1 + 1 + 1 + 1) none), AV.flo .f32 (os.getD (x + 1 + 1 + 1 + 1 + 1 + 1 + 1 + 1 + 1 + 1) none), AV.flo .f32 (os.getD (x + 1 + 1 + 1 + 1 + 1 + 1 + 1 + 1 + 1 + 1 + 1) none), AV.flo .f32 (os.getD (x + 1 + 1 + 1 + 1 + 1 + 1 + 1 + 1 + 1 + 1 + 1 + 1) none), AV.flo .f32 (os.getD (x + 1 + 1 + 1 + 1 + 1 + 1 + 1 + 1 + 1 + 1 + 1 + 1 + 1) none), AV.flo .f32 (os.getD (x + 1 + 1 + 1 + 1 + 1 + 1 + 1 + 1 + 1 + 1 + 1 + 1 + 1 + 1) none), AV.flo .f32 (os.getD (x + 1 + 1 + 1 + 1 + 1 + 1 + 1 + 1 + 1 + 1 + 1 + 1 + 1 + 1 + 1) none)] = flosL ((os.drop x).take 16) := by
  rw [take_range h]; rfl

theorem put16 (a0 a1 a2 a3 a4 a5 a6 a7 a8 a9 a10 a11 a12 a13 a14 a15 : Option Nat) : putCells (zrow (ofV (Go.Value.agg #[Go.Value.float Go.FloatKind.f32 0, Go.Value.float Go.FloatKind.f32 0, Go.Value.float Go.FloatKind.f32 0, Go.Value.float Go.FloatKind.f32 0, Go.Value.float Go.FloatKind.f32 0, Go.Value.float Go.FloatKind.f32 0, Go.Value.float Go.FloatKind.f32 0, Go.Value.float Go.FloatKind.f32 0, Go.Value.float Go.FloatKind.f32 0, Go.Value.float Go.FloatKind.f32 0, Go.Value.float Go.FloatKind.f32 0, Go.Value.float Go.FloatKind.f32 0, Go.Value.float Go.FloatKind.f32 0, Go.Value.float Go.FloatKind.f32 0, Go.Value.float Go.FloatKind.f32 0, Go.Value.float Go.FloatKind.f32 0])).cells 16) 0 [AV.flo Go.FloatKind.f32 a0, AV.flo Go.FloatKind.f32 a1, AV.flo Go.FloatKind.f32 a2, AV.flo Go.FloatKind.f32 a3, AV.flo Go.FloatKind.f32 a4, AV.flo Go.FloatKind.f32 a5, AV.flo Go.FloatKind.f32 a6, AV.flo Go.FloatKind.f32 a7, AV.flo Go.FloatKind.f32 a8, AV.flo Go.FloatKind.f32 a9, AV.flo Go.FloatKind.f32 a10, AV.flo Go.FloatKind.f32 a11, AV.flo Go.FloatKind.f32 a12, AV.flo Go.FloatKind.f32 a13, AV.flo Go.FloatKind.f32 a14, AV.flo Go.FloatKind.f32 a15] = [AV.flo Go.FloatKind.f32 a0, AV.flo Go.FloatKind.f32 a1, AV.flo Go.FloatKind.f32 a2, AV.flo Go.FloatKind.f32 a3, AV.flo Go.FloatKind.f32 a4, AV.flo Go.FloatKind.f32 a5, AV.flo Go.FloatKind.f32 a6, AV.flo Go.FloatKind.f32 a7, AV.flo Go.FloatKind.f32 a8, AV.flo Go.FloatKind.f32 a9, AV.flo Go.FloatKind.f32 a10, AV.flo Go.FloatKind.f32 a11, AV.flo Go.FloatKind.f32 a12, AV.flo Go.FloatKind.f32 a13, AV.flo Go.FloatKind.f32 a14, AV.flo Go.FloatKind.f32 a15] := rfl

theorem zeros16 : zrow (ofV (Go.Value.float Go.FloatKind.f32 0)).cells 16 = flosL (List.replicate 16 (some 0)) := rfl

/-- The samples of blocks, so many blocks, of the first samples of a list. -/
noncomputable def bls (m : Nat) (os : List (Option Nat)) (i : Nat) : List (Option Nat) := (os.take i).map clean1 ++ List.replicate (m * 16 - i) (some 0)

theorem bls_len {m : Nat} {os : List (Option Nat)} {i : Nat} (h : i ≤ os.length) (h2 : i ≤ m * 16) : (bls m os i).length = m * 16 := by
  simp [bls]; omega

theorem flosL_set {xs : List (Option Nat)} {i : Nat} {v : Option Nat} : putCells (flosL xs) i [AV.flo .f32 v] = flosL (xs.set i v) := by
  simp [putCells, flosL, List.map_set]

theorem flosL_take {xs : List (Option Nat)} {i : Nat} : (flosL xs).take i = flosL (xs.take i) := by simp [flosL, List.map_take]

theorem bls_set {m : Nat} {os : List (Option Nat)} {i : Nat} (h : i < os.length) (h2 : i < m * 16) : (bls m os i).set i (clean1 (os.getD i none)) = bls m os (i + 1) := by
  have e1 : m * 16 - i = (m * 16 - (i + 1)) + 1 := by omega
  have l1 : ((os.take i).map clean1).length = i := by simp; omega
  unfold bls
  rw [List.set_append_right _ _ (by omega), l1, Nat.sub_self, e1, List.replicate_succ, List.set_cons_zero]
  have : os.take (i + 1) = os.take i ++ [os.getD i none] := by
    rw [List.take_add_one, List.getD, List.getElem?_eq_getElem h]; rfl
  rw [this]
  simp

theorem bls_more {m : Nat} {os : List (Option Nat)} {i : Nat} (h : i ≤ m * 16) : bls m os i ++ List.replicate 16 (some 0) = bls (m + 1) os i := by
  unfold bls
  rw [List.append_assoc, List.replicate_append_replicate]
  congr 2; omega

theorem bls_all {m : Nat} {os : List (Option Nat)} {i : Nat} (h : os.length ≤ i) : bls m os i = os.map clean1 ++ List.replicate (m * 16 - i) (some 0) := by
  unfold bls; rw [List.take_of_length_le h]


theorem mod16 {i : Nat} : ((i : Int).tmod 16) = ((i % 16 : Nat) : Int) := by
  rw [Int.tmod_eq_emod_of_nonneg (by omega)]; omega

theorem run_65' {n : Nat} {cs : List AV} (h : Flos n cs) (hn : n ≤ 100000) : (fsW tz7b waysB (n + 1) 6).call (List RLeaf) 65 [.ofB (.list n cs)] [] (resK [true]) = some [.fz ((n + 15) / 16) (flosL (bls ((n + 15) / 16) (flosOf cs) n))] := by
  rw [run_65]
  have hl := h.len
  refine loopC_rule (fun k (r : Nat → List AV → Int → Nat → List AV → Nat → List AV → Option (List RLeaf)) => ∀ i : Nat, i + k = n → r n cs (i : Int) 0 [] ((i + 15) / 16) (flosL (bls ((i + 15) / 16) (flosOf cs) i)) = some [.fz ((n + 15) / 16) (flosL (bls ((n + 15) / 16) (flosOf cs) n))]) ?_ (n + 1) n (by omega) 0 (by omega)
  intro k r ih i hi
  by_cases hk : i < n
  · have h2 : 0 < cs.length := by rw [h.2.2]; omega
    have ih' := ih (k - 1) (by omega) (i + 1) (by omega)
    have n16 : ((16 : Int) ≠ 0) := by omega
    have w1 : IntKind.i64.wrap ((((i + 15) / 16 + 1 : Nat) : Int) - 1) = (((i + 15) / 16 : Nat) : Int) := by rw [wrap64] <;> omega
    simp only [shut_eq, condO_dec, condO_beq, guardO_dec, Int.ofNat_lt, hk, h2, n16, if_true, Int.toNat_natCast, Nat.mul_one, h.get hk, bindO_ok, idx64 h.1 hk, and_true, Int.natCast_nonneg, true_and, mod16, put16]
    have c4b : ((i % 16 : Nat) : Int) < 16 := by omega
    have n16b : ((16 : Int) = 0) = False := by simp
    have c4 : ((0 : Int) ≤ ((i % 16 : Nat) : Int) ∧ ((i % 16 : Nat) : Int) < ((16 : Nat) : Int)) := by omega
    have z16 : ([AV.flo Go.FloatKind.f32 (some 0), AV.flo Go.FloatKind.f32 (some 0), AV.flo Go.FloatKind.f32 (some 0), AV.flo Go.FloatKind.f32 (some 0), AV.flo Go.FloatKind.f32 (some 0), AV.flo Go.FloatKind.f32 (some 0), AV.flo Go.FloatKind.f32 (some 0), AV.flo Go.FloatKind.f32 (some 0), AV.flo Go.FloatKind.f32 (some 0), AV.flo Go.FloatKind.f32 (some 0), AV.flo Go.FloatKind.f32 (some 0), AV.flo Go.FloatKind.f32 (some 0), AV.flo Go.FloatKind.f32 (some 0), AV.flo Go.FloatKind.f32 (some 0), AV.flo Go.FloatKind.f32 (some 0), AV.flo Go.FloatKind.f32 (some 0)] : List AV) = flosL (List.replicate 16 (some 0)) := rfl
    by_cases hm : i % 16 = 0
    · have c1 : ((i % 16 : Nat) : Int) = 0 := by omega
      have c2 : ((i + 15) / 16 + 1) * 65 ≤ 549755813888 := by omega
      have c3 : (0 : Int) ≤ (((i + 15) / 16 : Nat) : Int) ∧ (((i + 15) / 16 : Nat) : Int) < (((i + 15) / 16 + 1 : Nat) : Int) := by omega
      have c5 : (((i + 15) / 16 + 1).beq 0) = false := rfl
      have e16 : (i + 1 + 15) / 16 = (i + 15) / 16 + 1 := by omega
      have ix : (i + 15) / 16 * 16 + i % 16 = i := by omega
      have hb : bls ((i + 15) / 16) (flosOf cs) i ++ List.replicate 16 (some 0) = bls ((i + 15) / 16 + 1) (flosOf cs) i := bls_more (by omega)
      have hbl : (bls ((i + 15) / 16 + 1) (flosOf cs) i).length = ((i + 15) / 16 + 1) * 16 := bls_len (by omega) (by omega)
      have hle : i + 1 ≤ ((i + 15) / 16 + 1) * 16 := by omega
      rw [if_pos c1]
      rw [e16] at ih'
      simp only [c2, w1, c3, c4, c4b, c5, ne_eq, n16b, not_false_eq_true, if_true, Bool.true_and, Bool.not_false, guardO, z16, ← flosL_app, hb, Int.toNat_natCast, ix, flosL_len, hbl, hle, flosL_set, and_self]
      rw [bls_set (by omega) (by omega)]
      exact ih'
    · have c1 : ¬ ((i % 16 : Nat) : Int) = 0 := by omega
      have w2 : IntKind.i64.wrap ((((i + 15) / 16 : Nat) : Int) - 1) = (((i + 15) / 16 - 1 : Nat) : Int) := by rw [wrap64] <;> omega
      have c3 : (0 : Int) ≤ (((i + 15) / 16 - 1 : Nat) : Int) ∧ (((i + 15) / 16 - 1 : Nat) : Int) < (((i + 15) / 16 : Nat) : Int) := by omega
      have c5 : ((i + 15) / 16).beq 0 = false := by
        cases hb : ((i + 15) / 16).beq 0 with
        | false => rfl
        | true => have := Nat.eq_of_beq_eq_true hb; omega
      have e16 : (i + 1 + 15) / 16 = (i + 15) / 16 := by omega
      have ix : ((i + 15) / 16 - 1) * 16 + i % 16 = i := by omega
      have hbl : (bls ((i + 15) / 16) (flosOf cs) i).length = ((i + 15) / 16) * 16 := bls_len (by omega) (by omega)
      have hle : i + 1 ≤ ((i + 15) / 16) * 16 := by omega
      rw [if_neg c1]
      rw [e16] at ih'
      simp only [w2, c3, c4, c4b, c5, ne_eq, n16b, not_false_eq_true, if_true, Bool.true_and, Bool.not_false, guardO, Int.toNat_natCast, ix, flosL_len, hbl, hle, flosL_set, and_self]
      rw [bls_set (by omega) (by omega)]
      exact ih'
  · have : i = n := by omega
    subst this
    simp only [shut_eq, condO_dec, Int.ofNat_lt, hk, if_false]

theorem take_snoc {os : List (Option Nat)} {i : Nat} (h : i < os.length) : (os.take (i + 1)).map clean1 = (os.take i).map clean1 ++ [clean1 (os.getD i none)] := by
  have : os.take (i + 1) = os.take i ++ [os.getD i none] := by
    rw [List.take_add_one, List.getD, List.getElem?_eq_getElem h]; rfl
  rw [this, List.map_append]; rfl

noncomputable def blocksP (n : Nat) (os : List (Option Nat)) : List RLeaf :=
  if sampErr n os = 0 then [.fz ((n + 15) / 16) (flosL (bls ((n + 15) / 16) os n)), .v (.int .i64 0)] else [.fz 0 [], .v (.int .i64 (sampErr n os))]

theorem sampErr_le {n : Nat} {os : List (Option Nat)} (h : sampErr n os = 0) : n ≤ 4096 := by
  unfold sampErr at h
  split at h
  · cases h
  · omega

set_option maxHeartbeats 1600000 in
theorem run_61' {n : Nat} {cs : List AV} (h : Flos n cs) : (fsW tz7b waysB (n + 17) 6).call (List RLeaf) 61 [.ofB (.list n cs)] [] (resK [true, false]) = some (blocksP n (flosOf cs)) := by
  rw [run_61]
  simp only [shut_eq, guardO_dec, h, if_true, condO_bne, blocksP]
  by_cases he : sampErr n (flosOf cs) = 0
  case neg => rw [if_neg he, if_neg he]
  rw [if_pos he, if_pos he]
  have hn := sampErr_le he
  have hl := h.len
  refine loopC_rule (fun k (r : Nat → List AV → Int → Int → Nat → List AV → Nat → List AV → Nat → List AV → Option (List RLeaf)) => ∀ (i : Nat) (acc : List (Option Nat)), i + k = n → acc = ((flosOf cs).take i).map clean1 → r n cs (n : Int) (i : Int) 0 [] 0 [] i (flosL acc) = some [.fz ((n + 15) / 16) (flosL (bls ((n + 15) / 16) (flosOf cs) n)), .v (.int .i64 0)]) ?_ (n + 17) n (by omega) 0 [] (by omega) rfl
  intro k r ih i acc hi hacc
  by_cases hk : i < n
  · have h2 : 0 < cs.length := by rw [h.2.2]; omega
    have hr : (i + 1) * 5 ≤ 549755813888 := by omega
    have ih' := ih (k - 1) (by omega) (i + 1) (acc ++ [clean1 ((flosOf cs).getD i none)]) (by omega) (by rw [hacc, take_snoc (by omega)])
    have e1 : ∀ o, [AV.flo Go.FloatKind.f32 o] = flosL [o] := fun _ => rfl
    simp only [shut_eq, condO_dec, guardO_dec, Int.ofNat_lt, hk, h2, hr, if_true, Int.toNat_natCast, Nat.mul_one, h.get hk, bindO_ok, idx64 h.1 hk, and_true, Int.natCast_nonneg, true_and, putF]
    rw [e1, ← flosL_app]
    exact ih'
  have hin : i = n := by omega
  subst hin
  rw [List.take_of_length_le (by omega)] at hacc
  simp only [shut_eq, condO_dec, Int.ofNat_lt, hk, if_false]
  clear ih r hi k hk
  subst hacc
  generalize hos : flosOf cs = os at *
  have hm0 : i ≤ (i + 15) / 16 * 16 := by omega
  rw [show flosL (os.map clean1) = flosL (os.map clean1 ++ List.replicate 0 (some 0)) by simp]
  refine loopC_rule (fun k (r : Nat → List AV → Nat → List AV → Nat → List AV → Option (List RLeaf)) => ∀ (j : Nat), i + j + k = (i + 15) / 16 * 16 → r 0 [] 0 [] (i + j) (flosL (os.map clean1 ++ List.replicate j (some 0))) = some [.fz ((i + 15) / 16) (flosL (bls ((i + 15) / 16) os i)), .v (.int .i64 0)]) ?_ (i + 17) ((i + 15) / 16 * 16 - i) (by omega) 0 (by omega)
  intro k r ih j hj
  have n16b : ((16 : Int) = 0) = False := by simp
  simp only [condO_bne, guardO_dec, ne_eq, n16b, not_false_eq_true, if_true, mod16]
  by_cases hk : k = 0
  case neg =>
    have c1 : ¬ (((i + j) % 16 : Nat) : Int) = 0 := by omega
    have hr : (i + j + 1) * 5 ≤ 549755813888 := by omega
    have ih' := ih (k - 1) (by omega) (j + 1) (by omega)
    have e1 : [AV.flo Go.FloatKind.f32 (some 0)] = flosL [some 0] := rfl
    rw [if_neg c1, if_pos hr, putF, e1, ← flosL_app, List.append_assoc, show ([some 0] : List (Option Nat)) = List.replicate 1 (some 0) from rfl, List.replicate_append_replicate]
    exact ih'
  have c1 : (((i + j) % 16 : Nat) : Int) = 0 := by omega
  rw [if_pos c1]
  clear ih r
  have hij : i + j = (i + 15) / 16 * 16 := by omega
  have hL : bls ((i + 15) / 16) os i = os.map clean1 ++ List.replicate j (some 0) := by
    rw [bls_all (by omega)]; congr 2; omega
  rw [← hL, hij]
  have hlen : (bls ((i + 15) / 16) os i).length = (i + 15) / 16 * 16 := bls_len (by omega) (by omega)
  generalize bls ((i + 15) / 16) os i = L at hlen
  generalize hmm : (i + 15) / 16 = m at *
  clear hL hij
  have hm2 : m ≤ 257 := by omega
  refine (loopC_rule (fun k (r : (Nat → List AV → Nat → List AV → Nat → List AV → Nat → List AV → Option (List RLeaf)) × (Nat → Nat → Nat → List AV → Nat → List AV → Nat → List AV → Nat → List AV → Option (List RLeaf)) × PUnit.{1}) =>
    (k = m → r.1 0 [] 0 [] (m * 16) (flosL L) 0 [] = some [.fz m (flosL L), .v (.int .i64 0)]) ∧
    (∀ q : Nat, q + k = m → r.2.1 (16 * q) (16 * m - 16 * q) 0 [] 0 [] (m * 16) (flosL L) q (flosL (L.take (16 * q))) = some [.fz m (flosL L), .v (.int .i64 0)])) ?_ (i + 17) m (by omega)).1 rfl
  intro k r ih
  refine ⟨fun hkm => ?_, fun q hq => ?_⟩
  · subst hkm
    by_cases h0 : k = 0
    · subst h0
      have : L = [] := by cases L <;> simp_all
      subst this
      simp [condO, flosL]
    have ih' := (ih (k - 1) (by omega)).2 1 (by omega)
    have hpos : ((k * 16 : Nat) : Int) > 0 := by omega
    have c2 : (0 : Int) ≤ 0 ∧ (0 : Int) ≤ 16 ∧ (16 : Int) ≤ ((k * 16 : Nat) : Int) := by omega
    have c3 : (16 : Nat) ≤ 16 := by omega
    have c4 : (k * 16).beq 0 = false := by
      cases hb : (k * 16).beq 0 with
      | false => rfl
      | true => have := Nat.eq_of_beq_eq_true hb; omega
    have c5 : 16 ≤ (flosL L).length := by rw [flosL_len]; omega
    have c6 : (0 + 1) * 65 ≤ 549755813888 := by omega
    have c7 : (0 : Int) ≤ 16 ∧ (16 : Int) ≤ ((k * 16 : Nat) : Int) ∧ ((k * 16 : Nat) : Int) ≤ ((k * 16 : Nat) : Int) := by omega
    have g0 : asFloat Go.FloatKind.f32 ((flosL L).getD 0 AV.top) = some (L.getD 0 none) := flosL_get (by omega)
    have g1 : asFloat Go.FloatKind.f32 ((flosL L).getD 1 AV.top) = some (L.getD 1 none) := flosL_get (by omega)
    have g2 : asFloat Go.FloatKind.f32 ((flosL L).getD 2 AV.top) = some (L.getD 2 none) := flosL_get (by omega)
    have g3 : asFloat Go.FloatKind.f32 ((flosL L).getD 3 AV.top) = some (L.getD 3 none) := flosL_get (by omega)
    have g4 : asFloat Go.FloatKind.f32 ((flosL L).getD 4 AV.top) = some (L.getD 4 none) := flosL_get (by omega)
    have g5 : asFloat Go.FloatKind.f32 ((flosL L).getD 5 AV.top) = some (L.getD 5 none) := flosL_get (by omega)
    have g6 : asFloat Go.FloatKind.f32 ((flosL L).getD 6 AV.top) = some (L.getD 6 none) := flosL_get (by omega)
    have g7 : asFloat Go.FloatKind.f32 ((flosL L).getD 7 AV.top) = some (L.getD 7 none) := flosL_get (by omega)
    have g8 : asFloat Go.FloatKind.f32 ((flosL L).getD 8 AV.top) = some (L.getD 8 none) := flosL_get (by omega)
    have g9 : asFloat Go.FloatKind.f32 ((flosL L).getD 9 AV.top) = some (L.getD 9 none) := flosL_get (by omega)
    have g10 : asFloat Go.FloatKind.f32 ((flosL L).getD 10 AV.top) = some (L.getD 10 none) := flosL_get (by omega)
    have g11 : asFloat Go.FloatKind.f32 ((flosL L).getD 11 AV.top) = some (L.getD 11 none) := flosL_get (by omega)
    have g12 : asFloat Go.FloatKind.f32 ((flosL L).getD 12 AV.top) = some (L.getD 12 none) := flosL_get (by omega)
    have g13 : asFloat Go.FloatKind.f32 ((flosL L).getD 13 AV.top) = some (L.getD 13 none) := flosL_get (by omega)
    have g14 : asFloat Go.FloatKind.f32 ((flosL L).getD 14 AV.top) = some (L.getD 14 none) := flosL_get (by omega)
    have g15 : asFloat Go.FloatKind.f32 ((flosL L).getD 15 AV.top) = some (L.getD 15 none) := flosL_get (by omega)
    have hb := blk16 (os := L) (x := 0) (by omega)
    simp only [shut_eq, condO_dec, guardO_dec, hpos, c2, c3, c4, c5, c6, c7, if_true, Bool.and_false, Bool.false_and, Bool.true_and, Bool.not_false, guardO, g0, g1, g2, g3, g4, g5, g6, g7, g8, g9, g10, g11, g12, g13, g14, g15, bindO_ok, put16, Int.toNat_natCast]
    have e : 16 * k - 16 * 1 = k * 16 - 16 := by omega
    rw [e] at ih'
    refine Eq.trans ?_ ih'
    show r.2.1 16 (k * 16 - 16) 0 [] 0 [] (k * 16) (flosL L) 1 _ = _
    exact congrArg (r.2.1 16 (k * 16 - 16) 0 [] 0 [] (k * 16) (flosL L) 1) hb
  · by_cases h0 : k = 0
    · have hqm : q = m := by omega
      subst hqm
      have c1 : ¬ (((16 * q - 16 * q : Nat) : Int) > 0) := by omega
      simp only [shut_eq, condO_dec, c1, if_false]
      rw [List.take_of_length_le (by omega)]
    have ih' := (ih (k - 1) (by omega)).2 (q + 1) (by omega)
    have hpos : ((16 * m - 16 * q : Nat) : Int) > 0 := by omega
    have c2 : (0 : Int) ≤ 0 ∧ (0 : Int) ≤ 16 ∧ (16 : Int) ≤ ((16 * m - 16 * q : Nat) : Int) := by omega
    have c3 : (16 : Nat) ≤ 16 := by omega
    have c4 : (m * 16).beq 0 = false := by
      cases hb : (m * 16).beq 0 with
      | false => rfl
      | true => have := Nat.eq_of_beq_eq_true hb; omega
    have c5 : (16 * q + 0) * 1 + 16 ≤ (flosL L).length := by rw [flosL_len]; omega
    have c6 : (q + 1) * 65 ≤ 549755813888 := by omega
    have c7 : (0 : Int) ≤ 16 ∧ (16 : Int) ≤ ((16 * m - 16 * q : Nat) : Int) ∧ ((16 * m - 16 * q : Nat) : Int) ≤ ((16 * m - 16 * q : Nat) : Int) := by omega
    have g0 : asFloat Go.FloatKind.f32 ((flosL L).getD (((16 * q + 0) * 1)) AV.top) = some (L.getD (((16 * q + 0) * 1)) none) := flosL_get (by omega)
    have g1 : asFloat Go.FloatKind.f32 ((flosL L).getD (((16 * q + 0) * 1) + 1) AV.top) = some (L.getD (((16 * q + 0) * 1) + 1) none) := flosL_get (by omega)
    have g2 : asFloat Go.FloatKind.f32 ((flosL L).getD (((16 * q + 0) * 1) + 1 + 1) AV.top) = some (L.getD (((16 * q + 0) * 1) + 1 + 1) none) := flosL_get (by omega)
    have g3 : asFloat Go.FloatKind.f32 ((flosL L).getD (((16 * q + 0) * 1) + 1 + 1 + 1) AV.top) = some (L.getD (((16 * q + 0) * 1) + 1 + 1 + 1) none) := flosL_get (by omega)
    have g4 : asFloat Go.FloatKind.f32 ((flosL L).getD (((16 * q + 0) * 1) + 1 + 1 + 1 + 1) AV.top) = some (L.getD (((16 * q + 0) * 1) + 1 + 1 + 1 + 1) none) := flosL_get (by omega)
    have g5 : asFloat Go.FloatKind.f32 ((flosL L).getD (((16 * q + 0) * 1) + 1 + 1 + 1 + 1 + 1) AV.top) = some (L.getD (((16 * q + 0) * 1) + 1 + 1 + 1 + 1 + 1) none) := flosL_get (by omega)
    have g6 : asFloat Go.FloatKind.f32 ((flosL L).getD (((16 * q + 0) * 1) + 1 + 1 + 1 + 1 + 1 + 1) AV.top) = some (L.getD (((16 * q + 0) * 1) + 1 + 1 + 1 + 1 + 1 + 1) none) := flosL_get (by omega)
    have g7 : asFloat Go.FloatKind.f32 ((flosL L).getD (((16 * q + 0) * 1) + 1 + 1 + 1 + 1 + 1 + 1 + 1) AV.top) = some (L.getD (((16 * q + 0) * 1) + 1 + 1 + 1 + 1 + 1 + 1 + 1) none) := flosL_get (by omega)
    have g8 : asFloat Go.FloatKind.f32 ((flosL L).getD (((16 * q + 0) * 1) + 1 + 1 + 1 + 1 + 1 + 1 + 1 + 1) AV.top) = some (L.getD (((16 * q + 0) * 1) + 1 + 1 + 1 + 1 + 1 + 1 + 1 + 1) none) := flosL_get (by omega)
    have g9 : asFloat Go.FloatKind.f32 ((flosL L).getD (((16 * q + 0) * 1) + 1 + 1 + 1 + 1 + 1 + 1 + 1 + 1 + 1) AV.top) = some (L.getD (((16 * q + 0) * 1) + 1 + 1 + 1 + 1 + 1 + 1 + 1 + 1 + 1) none) := flosL_get (by omega)
    have g10 : asFloat Go.FloatKind.f32 ((flosL L).getD (((16 * q + 0) * 1) + 1 + 1 + 1 + 1 + 1 + 1 + 1 + 1 + 1 + 1) AV.top) = some (L.getD (((16 * q + 0) * 1) + 1 + 1 + 1 + 1 + 1 + 1 + 1 + 1 + 1 + 1) none) := flosL_get (by omega)
    have g11 : asFloat Go.FloatKind.f32 ((flosL L).getD (((16 * q + 0) * 1) + 1 + 1 + 1 + 1 + 1 + 1 + 1 + 1 + 1 + 1 + 1) AV.top) = some (L.getD (((16 * q + 0) * 1) + 1 + 1 + 1 + 1 + 1 + 1 + 1 + 1 + 1 + 1 + 1) none) := flosL_get (by omega)
    have g12 : asFloat Go.FloatKind.f32 ((flosL L).getD (((16 * q + 0) * 1) + 1 + 1 + 1 + 1 + 1 + 1 + 1 + 1 + 1 + 1 + 1 + 1) AV.top) = some (L.getD (((16 * q + 0) * 1) + 1 + 1 + 1 + 1 + 1 + 1 + 1 + 1 + 1 + 1 + 1 + 1) none) := flosL_get (by omega)
    have g13 : asFloat Go.FloatKind.f32 ((flosL L).getD (((16 * q + 0) * 1) + 1 + 1 + 1 + 1 + 1 + 1 + 1 + 1 + 1 + 1 + 1 + 1 + 1) AV.top) = some (L.getD (((16 * q + 0) * 1) + 1 + 1 + 1 + 1 + 1 + 1 + 1 + 1 + 1 + 1 + 1 + 1 + 1) none) := flosL_get (by omega)
    have g14 : asFloat Go.FloatKind.f32 ((flosL L).getD (((16 * q + 0) * 1) + 1 + 1 + 1 + 1 + 1 + 1 + 1 + 1 + 1 + 1 + 1 + 1 + 1 + 1) AV.top) = some (L.getD (((16 * q + 0) * 1) + 1 + 1 + 1 + 1 + 1 + 1 + 1 + 1 + 1 + 1 + 1 + 1 + 1 + 1) none) := flosL_get (by omega)
    have g15 : asFloat Go.FloatKind.f32 ((flosL L).getD (((16 * q + 0) * 1) + 1 + 1 + 1 + 1 + 1 + 1 + 1 + 1 + 1 + 1 + 1 + 1 + 1 + 1 + 1) AV.top) = some (L.getD (((16 * q + 0) * 1) + 1 + 1 + 1 + 1 + 1 + 1 + 1 + 1 + 1 + 1 + 1 + 1 + 1 + 1 + 1) none) := flosL_get (by omega)
    have hb := blk16 (os := L) (x := (16 * q + 0) * 1) (by omega)
    simp only [shut_eq, condO_dec, guardO_dec, hpos, c2, c3, c4, c5, c6, c7, if_true, Bool.and_false, Bool.false_and, Bool.true_and, Bool.not_false, guardO, g0, g1, g2, g3, g4, g5, g6, g7, g8, g9, g10, g11, g12, g13, g14, g15, bindO_ok, put16, Int.toNat_natCast]
    rw [hb, ← flosL_app, show (16 * q + 0) * 1 = 16 * q by omega, ← List.take_add]
    rw [show 16 * m - 16 * (q + 1) = 16 * m - 16 * q - 16 by omega, show 16 * (q + 1) = 16 * q + 16 by omega] at ih'
    exact ih'

end Go.Abs
end

section
/- Records joined of blocks. -/
set_option linter.unusedVariables false
set_option linter.unusedSimpArgs false
namespace Go.Abs
open Go.Proofs Classical

theorem sub_self_num {b : Nat} {s : Bool} {m : Nat} {i : Int} (h : Go.FloatKind.f32.format.read b = .number s m i) : arithO .sub .f32 (some b) (some b) = some 0 := by
  simp only [arithO, arithF, Ieee.Format.sub, h, Ieee.Datum.opposite, Ieee.Datum.sum, Option.map_some]
  have e : Ieee.signed s m (i - min i i).toNat + Ieee.signed (!s) m (i - min i i).toNat = 0 := by
    cases s <;> simp [Ieee.signed] <;> omega
  rw [e]
  simp only [if_true, Int.natAbs_zero, Ieee.Format.write, Ieee.Format.nearest]
  cases s <;> rfl

theorem fin_number {b : Nat} {s : Bool} {m : Nat} {i : Int} (h : Go.FloatKind.f32.format.read b = .number s m i) : finB (some b) = true := by
  unfold finB
  rw [sub_self_num h]
  decide +kernel

theorem fin_of {o : Option Nat} (h : finB o = true) : ∃ b s m i, o = some b ∧ Go.FloatKind.f32.format.read b = .number s m i := by
  cases o with
  | none => exact absurd h (by decide)
  | some b =>
    cases hd : Go.FloatKind.f32.format.read b with
    | number s m i => exact ⟨b, s, m, i, rfl, hd⟩
    | infinity s =>
      exfalso
      have : arithO .sub .f32 (some b) (some b) = none := by
        simp only [arithO, arithF, Ieee.Format.sub, hd, Ieee.Datum.opposite, Ieee.Datum.sum]
        cases s <;> rfl
      unfold finB at h
      rw [this] at h
      exact absurd h (by decide)
    | nan s t =>
      exfalso
      have : arithO .sub .f32 (some b) (some b) = none := by
        simp only [arithO, arithF, Ieee.Format.sub, hd, Ieee.Datum.opposite, Ieee.Datum.sum, Option.map_none]
      unfold finB at h
      rw [this] at h
      exact absurd h (by decide)

theorem cmp_self (z : Int) : compare z z = .eq := by simp

theorem ord_refl {o : Option Nat} (h : finB o = true) : ordO .f32 o o = some .eq := by
  obtain ⟨b, s, m, i, rfl, hd⟩ := fin_of h
  simp only [ordO, Ieee.Format.order, hd, Ieee.Datum.order, cmp_self]

/-- A sample that is equal to 0 is finite. -/
theorem finB_of_zero {o : Option Nat} (h : ordO .f32 o (some 0) = some .eq) : finB o = true := by
  cases o with
  | none => cases h
  | some b =>
    cases hd : Go.FloatKind.f32.format.read b with
    | number s m i => exact fin_number hd
    | infinity s =>
      simp only [ordO, Ieee.Format.order, hd] at h
      have : Go.FloatKind.f32.format.read 0 = .number false 0 Go.FloatKind.f32.format.leastPlace := by decide +kernel
      rw [this] at h
      cases s <;> simp [Ieee.Datum.order] at h
    | nan s t => simp only [ordO, Ieee.Format.order, hd, Ieee.Datum.order] at h; cases h

theorem zero_ord : ordO .f32 (some 0) (some 0) = some .eq := by decide +kernel

theorem ord_clean {o : Option Nat} (h : finB o = true) : ordO .f32 (clean1 o) (clean1 o) = some .eq := by
  unfold clean1
  split
  · exact zero_ord
  · exact ord_refl h

theorem fin_clean {o : Option Nat} (h : finB o = true) : finB (clean1 o) = true := by
  unfold clean1
  split
  · exact finB_of_zero zero_ord
  · exact h

theorem negz_clean (o : Option Nat) : negz (clean1 o) = false := by
  unfold clean1
  split
  · decide +kernel
  · rename_i hz
    unfold negz
    rw [beq_eq_false_iff_ne.mpr hz]; rfl

theorem clean_of_zero {o : Option Nat} (h : ordO .f32 o (some 0) = some .eq) : clean1 o = some 0 := if_pos h

theorem blkO {os : List (Option Nat)} {x : Nat} (h : x + 16 ≤ os.length) : [os.getD (x) none, os.getD (x + 1) none, os.getD (x + 1 + 1) none, os.getD (x + 1 + 1 + 1) none, os.getD (x + 1 + 1 + 1 + 1) none, os.getD (x + 1 + 1 + 1 + 1 + 1) none, os.getD (x + 1 + 1 + 1 + 1 + 1 + 1) none, os.getD (x + 1 + 1 + 1 + 1 + 1 + 1 + 1) none, os.getD (x + 1 + 1 + 1 + 1 + 1 + 1 + 1 + 1) none, os.getD (x + 1 + 1 + 1 + 1 + 1 + 1 + 1 + 1 + 1) none, os.getD (x + 1 + 1 + 1 + 1 + 1 + 1 + 1 + 1 + 1 + 1) none, os.getD (x + 1 + 1 + 1 + 1 + 1 + 1 + 1 + 1 + 1 + 1 + 1) none, os.getD (x + 1 + 1 + 1 + 1 + 1 + 1 + 1 + 1 + 1 + 1 + 1 + 1) none, os.getD (x + 1 + 1 + 1 + 1 + 1 + 1 + 1 + 1 + 1 + 1 + 1 + 1 + 1) none, os.getD (x + 1 + 1 + 1 + 1 + 1 + 1 + 1 + 1 + 1 + 1 + 1 + 1 + 1 + 1) none, os.getD (x + 1 + 1 + 1 + 1 + 1 + 1 + 1 + 1 + 1 + 1 + 1 + 1 + 1 + 1 + 1) none] = (os.drop x).take 16 := by
  rw [take_range h]; rfl

theorem take_blk {os : List (Option Nat)} {x : Nat} : List.take 16 (List.drop 0 (flosL ((os.drop x).take 16))) = flosL ((os.drop x).take 16) := by
  simp [flosL_take, List.take_take]

noncomputable def joinE (n : Nat) (os : List (Option Nat)) (b : Int) : Int :=
  if n > 256 then 5 else if os.all finB = true then (if b < 0 ∨ b > 16 * n ∨ (n > 0 ∧ b ≤ 16 * n - 16) then 2 else 0) else 1

noncomputable def joinL (n : Nat) (os : List (Option Nat)) (b : Int) : List (Option Nat) := if joinE n os b = 0 then (os.map clean1).take b.toNat else []

noncomputable def joinP (n : Nat) (os : List (Option Nat)) (b : Int) : List RLeaf := [.fz (joinL n os b).length (flosL (joinL n os b)), .v (.int .i64 (joinE n os b))]

theorem joinP_err {n : Nat} {os : List (Option Nat)} {b e : Int} (h : joinE n os b = e) (h0 : e ≠ 0) : joinP n os b = [.fz 0 [], .v (.int .i64 e)] := by
  unfold joinP joinL
  rw [h, if_neg h0]; rfl

theorem joinP_ok {n : Nat} {os : List (Option Nat)} {b : Int} (h : joinE n os b = 0) (hl : os.length = n * 16) (hb : b ≤ 16 * n) : joinP n os b = [.fz b.toNat (flosL ((os.map clean1).take b.toNat)), .v (.int .i64 0)] := by
  have : joinL n os b = (os.map clean1).take b.toNat := by unfold joinL; rw [if_pos h]
  unfold joinP
  rw [h, this]
  congr 2
  simp; omega

theorem all_take_step {os : List (Option Nat)} {i k : Nat} {p : Option Nat → Bool} (h : (os.take i).all p = true) (h2 : ((os.drop i).take k).all p = true) : (os.take (i + k)).all p = true := by
  rw [List.take_add, List.all_append, h, h2]; rfl

set_option maxHeartbeats 1600000 in
theorem run_62' {n : Nat} {cs : List AV} {b : Int} (h : Blk n cs) : (fsZ tz7 (n + 1) 6).call (List RLeaf) 62 [.ofB (.list n cs), .ofB (.int .i64 b)] [] (resK [true, false]) = some (joinP n (flosOf cs) b) := by
  rw [run_62]
  have hl := h.len
  simp only [shut_eq, guardO_dec, condO_dec]
  by_cases h5 : (n : Int) > 256
  · rw [if_pos h5, joinP_err (e := 5) (by unfold joinE; rw [if_pos (by omega)]) (by omega)]
  rw [if_neg h5]
  generalize hos : flosOf cs = os at *
  refine loopC_rule (fun k (r : Nat → List AV → Int → Nat → List AV → Int → Int → Nat → List AV → Nat → List AV → Option (List RLeaf)) => ∀ i : Nat, i + k = n → (os.take (i * 16)).all finB = true → r n cs b n cs (n : Int) (i : Int) 0 [] (i * 16) (flosL ((os.take (i * 16)).map clean1)) = some (joinP n os b)) ?_ (n + 1) n (by omega) 0 (by omega) rfl
  intro k r ih i hi hfin
  by_cases hk : i < n
  · have h2 : 0 < cs.length := by rw [h.2.2]; omega
    have h3 : i * 16 + 16 ≤ cs.length := by rw [h.2.2]; omega
    have g0 : asFloat Go.FloatKind.f32 (cs.getD (i * 16) AV.top) = some (os.getD (i * 16) none) := by rw [← hos]; exact h.get (by omega)
    have g1 : asFloat Go.FloatKind.f32 (cs.getD (i * 16 + 1) AV.top) = some (os.getD (i * 16 + 1) none) := by rw [← hos]; exact h.get (by omega)
    have g2 : asFloat Go.FloatKind.f32 (cs.getD (i * 16 + 1 + 1) AV.top) = some (os.getD (i * 16 + 1 + 1) none) := by rw [← hos]; exact h.get (by omega)
    have g3 : asFloat Go.FloatKind.f32 (cs.getD (i * 16 + 1 + 1 + 1) AV.top) = some (os.getD (i * 16 + 1 + 1 + 1) none) := by rw [← hos]; exact h.get (by omega)
    have g4 : asFloat Go.FloatKind.f32 (cs.getD (i * 16 + 1 + 1 + 1 + 1) AV.top) = some (os.getD (i * 16 + 1 + 1 + 1 + 1) none) := by rw [← hos]; exact h.get (by omega)
    have g5 : asFloat Go.FloatKind.f32 (cs.getD (i * 16 + 1 + 1 + 1 + 1 + 1) AV.top) = some (os.getD (i * 16 + 1 + 1 + 1 + 1 + 1) none) := by rw [← hos]; exact h.get (by omega)
    have g6 : asFloat Go.FloatKind.f32 (cs.getD (i * 16 + 1 + 1 + 1 + 1 + 1 + 1) AV.top) = some (os.getD (i * 16 + 1 + 1 + 1 + 1 + 1 + 1) none) := by rw [← hos]; exact h.get (by omega)
    have g7 : asFloat Go.FloatKind.f32 (cs.getD (i * 16 + 1 + 1 + 1 + 1 + 1 + 1 + 1) AV.top) = some (os.getD (i * 16 + 1 + 1 + 1 + 1 + 1 + 1 + 1) none) := by rw [← hos]; exact h.get (by omega)
    have g8 : asFloat Go.FloatKind.f32 (cs.getD (i * 16 + 1 + 1 + 1 + 1 + 1 + 1 + 1 + 1) AV.top) = some (os.getD (i * 16 + 1 + 1 + 1 + 1 + 1 + 1 + 1 + 1) none) := by rw [← hos]; exact h.get (by omega)
    have g9 : asFloat Go.FloatKind.f32 (cs.getD (i * 16 + 1 + 1 + 1 + 1 + 1 + 1 + 1 + 1 + 1) AV.top) = some (os.getD (i * 16 + 1 + 1 + 1 + 1 + 1 + 1 + 1 + 1 + 1) none) := by rw [← hos]; exact h.get (by omega)
    have g10 : asFloat Go.FloatKind.f32 (cs.getD (i * 16 + 1 + 1 + 1 + 1 + 1 + 1 + 1 + 1 + 1 + 1) AV.top) = some (os.getD (i * 16 + 1 + 1 + 1 + 1 + 1 + 1 + 1 + 1 + 1 + 1) none) := by rw [← hos]; exact h.get (by omega)
    have g11 : asFloat Go.FloatKind.f32 (cs.getD (i * 16 + 1 + 1 + 1 + 1 + 1 + 1 + 1 + 1 + 1 + 1 + 1) AV.top) = some (os.getD (i * 16 + 1 + 1 + 1 + 1 + 1 + 1 + 1 + 1 + 1 + 1 + 1) none) := by rw [← hos]; exact h.get (by omega)
    have g12 : asFloat Go.FloatKind.f32 (cs.getD (i * 16 + 1 + 1 + 1 + 1 + 1 + 1 + 1 + 1 + 1 + 1 + 1 + 1) AV.top) = some (os.getD (i * 16 + 1 + 1 + 1 + 1 + 1 + 1 + 1 + 1 + 1 + 1 + 1 + 1) none) := by rw [← hos]; exact h.get (by omega)
    have g13 : asFloat Go.FloatKind.f32 (cs.getD (i * 16 + 1 + 1 + 1 + 1 + 1 + 1 + 1 + 1 + 1 + 1 + 1 + 1 + 1) AV.top) = some (os.getD (i * 16 + 1 + 1 + 1 + 1 + 1 + 1 + 1 + 1 + 1 + 1 + 1 + 1 + 1) none) := by rw [← hos]; exact h.get (by omega)
    have g14 : asFloat Go.FloatKind.f32 (cs.getD (i * 16 + 1 + 1 + 1 + 1 + 1 + 1 + 1 + 1 + 1 + 1 + 1 + 1 + 1 + 1) AV.top) = some (os.getD (i * 16 + 1 + 1 + 1 + 1 + 1 + 1 + 1 + 1 + 1 + 1 + 1 + 1 + 1 + 1) none) := by rw [← hos]; exact h.get (by omega)
    have g15 : asFloat Go.FloatKind.f32 (cs.getD (i * 16 + 1 + 1 + 1 + 1 + 1 + 1 + 1 + 1 + 1 + 1 + 1 + 1 + 1 + 1 + 1) AV.top) = some (os.getD (i * 16 + 1 + 1 + 1 + 1 + 1 + 1 + 1 + 1 + 1 + 1 + 1 + 1 + 1 + 1 + 1) none) := by rw [← hos]; exact h.get (by omega)
    have hx : i * 16 + 16 ≤ os.length := by omega
    have ih' := ih (k - 1) (by omega) (i + 1) (by omega)
    have c1 : (0 : Int) ≤ 16 ∧ (16 : Int) ≤ 1048576 := by omega
    have c2 : (i * 16 + 16) * 5 ≤ 549755813888 := by omega
    simp only [Int.ofNat_lt, hk, h2, h3, if_true, Int.toNat_natCast, bindO_ok, idx64 (show n < 9223372036854775808 by omega) hk, and_true, Int.natCast_nonneg, true_and, g0, g1, g2, g3, g4, g5, g6, g7, g8, g9, g10, g11, g12, g13, g14, g15, c1, c2, zeros16, blk16 hx, take_blk]
    show condO (List.all [os.getD (i * 16) none, os.getD (i * 16 + 1) none, os.getD (i * 16 + 1 + 1) none, os.getD (i * 16 + 1 + 1 + 1) none, os.getD (i * 16 + 1 + 1 + 1 + 1) none, os.getD (i * 16 + 1 + 1 + 1 + 1 + 1) none, os.getD (i * 16 + 1 + 1 + 1 + 1 + 1 + 1) none, os.getD (i * 16 + 1 + 1 + 1 + 1 + 1 + 1 + 1) none, os.getD (i * 16 + 1 + 1 + 1 + 1 + 1 + 1 + 1 + 1) none, os.getD (i * 16 + 1 + 1 + 1 + 1 + 1 + 1 + 1 + 1 + 1) none, os.getD (i * 16 + 1 + 1 + 1 + 1 + 1 + 1 + 1 + 1 + 1 + 1) none, os.getD (i * 16 + 1 + 1 + 1 + 1 + 1 + 1 + 1 + 1 + 1 + 1 + 1) none, os.getD (i * 16 + 1 + 1 + 1 + 1 + 1 + 1 + 1 + 1 + 1 + 1 + 1 + 1) none, os.getD (i * 16 + 1 + 1 + 1 + 1 + 1 + 1 + 1 + 1 + 1 + 1 + 1 + 1 + 1) none, os.getD (i * 16 + 1 + 1 + 1 + 1 + 1 + 1 + 1 + 1 + 1 + 1 + 1 + 1 + 1 + 1) none, os.getD (i * 16 + 1 + 1 + 1 + 1 + 1 + 1 + 1 + 1 + 1 + 1 + 1 + 1 + 1 + 1 + 1) none] fun o => ordO .f32 o (some 0) == some .eq) _ _ = _
    rw [blkO hx]
    generalize hc : (os.drop (i * 16)).take 16 = c at *
    have hcl : c.length = 16 := by rw [← hc]; simp; omega
    have hstep : os.take ((i + 1) * 16) = os.take (i * 16) ++ c := by rw [Nat.add_mul, Nat.one_mul, List.take_add, hc]
    rw [hstep] at ih'
    rw [List.all_append, hfin, Bool.true_and, List.map_append, flosL_app] at ih'
    have e16 : (i + 1) * 16 = i * 16 + 16 := by omega
    rw [e16] at ih'
    have hF : Flos 16 (flosL c) := by rw [← hcl]; exact Flos_L (by omega)
    cases hz : c.all fun o => ordO .f32 o (some 0) == some .eq with
    | true =>
      rw [List.all_eq_true] at hz
      have hz' : ∀ o ∈ c, ordO .f32 o (some 0) = some .eq := fun o ho => by simpa using hz o ho
      have hfc : c.all finB = true := List.all_eq_true.2 fun o ho => finB_of_zero (hz' o ho)
      have hmc : c.map clean1 = List.replicate 16 (some 0) := List.eq_replicate_iff.2 ⟨by simp [hcl], fun b hb => by
        obtain ⟨o, ho, rfl⟩ := List.mem_map.1 hb
        exact clean_of_zero (hz' o ho)⟩
      rw [hmc] at ih'
      exact ih' hfc
    | false =>
      simp only [condO, hF, flosOf_L, if_true, sampErr, condO_bne, flosL_len, List.length_map, hcl, Nat.mul_one]
      cases hfc : c.all finB with
      | false =>
        have hall : os.all finB = false := by
          cases ha : os.all finB with
          | false => rfl
          | true =>
            rw [List.all_eq_true] at ha
            have : c.all finB = true := List.all_eq_true.2 fun o ho => ha o (by rw [← hc] at ho; exact List.mem_of_mem_drop (List.mem_of_mem_take ho))
            rw [this] at hfc; cases hfc
        rw [joinP_err (e := 1) (by unfold joinE; rw [if_neg (by omega), hall]; rfl) (by omega)]
        rfl
      | true =>
        have := ih' hfc
        simp only [if_true]
        have e : ((if (16 : Nat) > 4096 then (5 : Int) else 0) != 0) = false := by rw [if_neg (by omega)]; rfl
        rw [e]
        show (if True ∧ 16 ≤ 100000 then _ else none) = _
        rw [if_pos ⟨trivial, by omega⟩]
        exact this
  · have hin : i = n := by omega
    subst hin
    have ht : os.take (i * 16) = os := List.take_of_length_le (by omega)
    rw [ht] at hfin ⊢
    simp only [Int.ofNat_lt, hk, if_false]
    have hE : joinE i os b = if b < 0 ∨ b > 16 * i ∨ (i > 0 ∧ b ≤ 16 * i - 16) then 2 else 0 := by
      unfold joinE; rw [if_neg (by omega), if_pos hfin]
    have bad : (b < 0 ∨ b > 16 * i ∨ (i > 0 ∧ b ≤ 16 * i - 16)) → some [RLeaf.fz 0 [], RLeaf.v (.int .i64 2)] = some (joinP i os b) := fun hb => by
      rw [joinP_err (e := 2) (by rw [hE, if_pos hb]) (by omega)]
    have good : ¬ (b < 0 ∨ b > 16 * i ∨ (i > 0 ∧ b ≤ 16 * i - 16)) → some [RLeaf.fz (b.toNat - 0) (List.take ((b.toNat - 0) * 1) (List.drop 0 (flosL (os.map clean1)))), RLeaf.v (.int .i64 0)] = some (joinP i os b) := fun hb => by
      rw [joinP_ok (by rw [hE, if_neg hb]) hl (by omega)]
      simp [flosL_take]
    have w1 : IntKind.i64.wrap (((i * 16 : Nat) : Int) - 16) = ((i * 16 : Nat) : Int) - 16 := by rw [wrap64] <;> omega
    simp only [w1]
    by_cases h1 : b < 0
    · rw [if_pos h1]; exact bad (.inl h1)
    rw [if_neg h1]
    by_cases h2 : b > ((i * 16 : Nat) : Int)
    · rw [if_pos h2]; exact bad (by omega)
    rw [if_neg h2]
    have g : (0 : Int) ≤ 0 ∧ 0 ≤ b ∧ b ≤ ((i * 16 : Nat) : Int) := by omega
    by_cases h3 : (i : Int) > 0
    · rw [if_pos h3]
      by_cases h4 : b ≤ ((i * 16 : Nat) : Int) - 16
      · rw [if_pos h4]; exact bad (by omega)
      · rw [if_neg h4, if_pos g]; exact good (by omega)
    · rw [if_neg h3, if_pos g]; exact good (by omega)

end Go.Abs
end

section
/- Records joined of blocks: the reference's. -/
set_option linter.unusedVariables false
set_option linter.unusedSimpArgs false
namespace Go.Abs
open Go.Proofs Classical

theorem div16 {i : Nat} : ((i : Int).tdiv 16) = ((i / 16 : Nat) : Int) := by
  rw [Int.tdiv_eq_ediv_of_nonneg (by omega)]; omega

set_option maxHeartbeats 1600000 in
theorem join_tail {n : Nat} {cs : List AV} {b : Int} (h : Blk n cs) (hn : n ≤ 256) (h0 : 0 ≤ b) (h1 : b ≤ 16 * n) :
    loopC (16 * n + 17) (fun r_6 (x0_6 : Nat) (x1_6 : List AV) (x2_6 : Int) (x3_6 : Int) (x4_6 : Nat) (x5_6 : List AV) (x6_6 : Nat) (x7_6 : List AV) =>
          condO (shut (decide (x3_6 < x2_6)))
           (
           guardO (shut (decide ((16 : Int) ≠ (0 : Int)))) <|
           guardO (shut (decide ((16 : Int) ≠ (0 : Int)))) <|
           guardO (shut (decide ((0 : Int) ≤ shut (IntKind.i64.wrap (x3_6.tdiv (16 : Int))) ∧ shut (IntKind.i64.wrap (x3_6.tdiv (16 : Int))) < (↑x0_6 : Int) ∧ 0 < x1_6.length))) <|
           guardO (shut (decide ((0 : Int) ≤ shut (x3_6.tmod (16 : Int)) ∧ shut (x3_6.tmod (16 : Int)) < (↑16 : Int)))) <|
           bindO (asFloat Go.FloatKind.f32 (x1_6.getD ((shut (IntKind.i64.wrap (x3_6.tdiv (16 : Int)))).toNat * 16 + (shut (x3_6.tmod (16 : Int))).toNat * 1) AV.top)) fun v12 =>
           guardO (shut (decide ((x6_6 + 1) * 5 ≤ 549755813888))) <|
           r_6 (x0_6) (x1_6) (x2_6) (shut (IntKind.i64.wrap (x3_6 + (1 : Int)))) (x4_6) (x5_6) (x6_6 + 1) (x7_6 ++ putCells (zrow (ofV (Go.Value.float Go.FloatKind.f32 0)).cells 1) 0 [AV.flo Go.FloatKind.f32 (shut (clean1 v12))]))
           (
           some [RLeaf.fz x6_6 x7_6, RLeaf.v (AV.int IntKind.i64 (0 : Int))]))
          (fun _ _ _ _ _ _ _ _ => none) (n) (cs) (b) ((0 : Int)) (0) ([]) (0) ([]) = some [.fz b.toNat (flosL (((flosOf cs).map clean1).take b.toNat)), .v (.int .i64 0)] := by
  have hl := h.len
  obtain ⟨c, rfl⟩ : ∃ c : Nat, b = (c : Int) := ⟨b.toNat, by omega⟩
  simp only [Int.toNat_natCast]
  refine loopC_rule (fun k (r : Nat → List AV → Int → Int → Nat → List AV → Nat → List AV → Option (List RLeaf)) => ∀ i : Nat, i + k = c → r n cs (c : Int) (i : Int) 0 [] i (flosL (((flosOf cs).take i).map clean1)) = some [.fz c (flosL (((flosOf cs).map clean1).take c)), .v (.int .i64 0)]) ?_ (16 * n + 17) c (by omega) 0 (by omega)
  intro k r ih i hi
  by_cases hk : i < c
  · have h2 : 0 < cs.length := by rw [h.2.2]; omega
    have ih' := ih (k - 1) (by omega) (i + 1) (by omega)
    have w1 : IntKind.i64.wrap ((i / 16 : Nat) : Int) = ((i / 16 : Nat) : Int) := by rw [wrap64] <;> omega
    have c1 : ((i / 16 : Nat) : Int) < (n : Int) := by omega
    have c2 : ((i % 16 : Nat) : Int) < ((16 : Nat) : Int) := by omega
    have c2b : ((i % 16 : Nat) : Int) < 16 := by omega
    have ix : i / 16 * 16 + i % 16 = i := by omega
    have hr : (i + 1) * 5 ≤ 549755813888 := by omega
    have n16b : ((16 : Int) = 0) = False := by simp
    simp only [shut_eq, condO_dec, guardO_dec, Int.ofNat_lt, hk, h2, if_true, ne_eq, n16b, not_false_eq_true, div16, mod16, w1, c1, c2, c2b, Int.natCast_nonneg, true_and, and_true, Int.toNat_natCast, Nat.mul_one, ix, h.get (show i < n * 16 by omega), bindO_ok, hr, idx64 (show c < 9223372036854775808 by omega) hk, putF]
    rw [take_snoc (by omega), flosL_app] at ih'
    exact ih'
  · have : i = c := by omega
    subst this
    simp only [shut_eq, condO_dec, Int.ofNat_lt, hk, if_false, List.map_take]

set_option maxHeartbeats 1600000 in
theorem run_63' {n : Nat} {cs : List AV} {b : Int} (h : Blk n cs) : (fsZ tz7 (16 * n + 17) 6).call (List RLeaf) 63 [.ofB (.list n cs), .ofB (.int .i64 b)] [] (resK [true, false]) = some (joinP n (flosOf cs) b) := by
  rw [run_63]
  have hl := h.len
  simp only [shut_eq, guardO_dec, condO_dec, condO_not]
  by_cases h5 : (n : Int) > 256
  · rw [if_pos h5, joinP_err (e := 5) (by unfold joinE; rw [if_pos (by omega)]) (by omega)]
  rw [if_neg h5]
  have hn : n ≤ 256 := by omega
  have key := fun h0 h1 => join_tail (b := b) h hn h0 h1
  simp only [shut_eq, guardO_dec, condO_dec, condO_not] at key
  generalize hos : flosOf cs = os at *
  have hget : ∀ i, i < n * 16 → asFloat .f32 (cs.getD i .top) = some (os.getD i none) := fun i hi => by rw [← hos]; exact h.get hi
  refine loopC_rule (fun k (r : Nat → List AV → Int → Int → Nat → List AV → Option (List RLeaf)) => ∀ i : Nat, i + k = n → (os.take (i * 16)).all finB = true → r n cs b (i : Int) 0 [] = some (joinP n os b)) ?_ (16 * n + 17) n (by omega) 0 (by omega) rfl
  intro k r ih i hi hfin
  by_cases hk : i < n
  · simp only [Int.ofNat_lt, hk, if_true]
    refine loopC_rule (fun k' (r' : Nat → List AV → Int → Int → Int → Nat → List AV → Option (List RLeaf)) => ∀ j : Nat, j + k' = 16 → (os.take (i * 16 + j)).all finB = true → r' n cs b (i : Int) (j : Int) 0 [] = some (joinP n os b)) ?_ (16 * n + 17) 16 (by omega) 0 (by omega) hfin
    intro k' r' ih' j hj hfj
    have h2 : 0 < cs.length := by rw [h.2.2]; omega
    by_cases hk' : j < 16
    · have c1 : ((j : Nat) : Int) < 16 := by omega
      have c2 : ((j : Nat) : Int) < ((16 : Nat) : Int) := by omega
      simp only [c1, c2, hk, h2, if_true, Int.ofNat_lt, Int.natCast_nonneg, true_and, and_true, Int.toNat_natCast, Nat.mul_one, hget (i * 16 + j) (by omega), bindO_ok, idx64 (show 16 < 9223372036854775808 by omega) hk']
      cases hf : finB (os.getD (i * 16 + j) none) with
      | false =>
        have hall : os.all finB = false := by
          cases ha : os.all finB with
          | false => rfl
          | true =>
            rw [List.all_eq_true] at ha
            have : finB (os.getD (i * 16 + j) none) = true := ha _ (by rw [List.getD_eq_getElem?_getD, List.getElem?_eq_getElem (by omega)]; exact List.getElem_mem _)
            rw [this] at hf; cases hf
        rw [joinP_err (e := 1) (by unfold joinE; rw [if_neg (by omega), hall]; rfl) (by omega)]
        rfl
      | true =>
        simp only [if_true]
        refine ih' (k' - 1) (by omega) (j + 1) (by omega) ?_
        rw [← Nat.add_assoc, List.take_add_one, List.all_append, hfj, List.getElem?_eq_getElem (by omega)]
        rw [List.getD_eq_getElem?_getD, List.getElem?_eq_getElem (by omega)] at hf
        simpa using hf
    · have : j = 16 := by omega
      subst this
      have c1 : ¬ (((16 : Nat) : Int) < 16) := by omega
      simp only [c1, if_false, idx64 (show n < 9223372036854775808 by omega) hk]
      refine ih (k - 1) (by omega) (i + 1) (by omega) ?_
      rw [Nat.add_mul, Nat.one_mul]; exact hfj
  · have hin : i = n := by omega
    subst hin
    have ht : os.take (i * 16) = os := List.take_of_length_le (by omega)
    rw [ht] at hfin
    simp only [Int.ofNat_lt, hk, if_false]
    have hE : joinE i os b = if b < 0 ∨ b > 16 * i ∨ (i > 0 ∧ b ≤ 16 * i - 16) then 2 else 0 := by
      unfold joinE; rw [if_neg (by omega), if_pos hfin]
    have bad : (b < 0 ∨ b > 16 * i ∨ (i > 0 ∧ b ≤ 16 * i - 16)) → some [RLeaf.fz 0 [], RLeaf.v (.int .i64 2)] = some (joinP i os b) := fun hb => by
      rw [joinP_err (e := 2) (by rw [hE, if_pos hb]) (by omega)]
    have good : ¬ (b < 0 ∨ b > 16 * i ∨ (i > 0 ∧ b ≤ 16 * i - 16)) → some [RLeaf.fz b.toNat (flosL ((os.map clean1).take b.toNat)), RLeaf.v (.int .i64 0)] = some (joinP i os b) := fun hb => by
      rw [joinP_ok (by rw [hE, if_neg hb]) hl (by omega)]
    have w1 : IntKind.i64.wrap (16 * (i : Int)) = 16 * (i : Int) := by rw [wrap64] <;> omega
    have w2 : IntKind.i64.wrap ((i : Int) - 1) = (i : Int) - 1 := by rw [wrap64] <;> omega
    have w3 : IntKind.i64.wrap (16 * ((i : Int) - 1)) = 16 * ((i : Int) - 1) := by rw [wrap64] <;> omega
    simp only [w1, w2, w3]
    by_cases h2 : b > 16 * (i : Int)
    · rw [if_pos h2]; exact bad (by omega)
    rw [if_neg h2]
    by_cases h3 : b ≤ 16 * ((i : Int) - 1)
    · rw [if_pos h3]
      by_cases h4 : (i : Int) > 0
      · rw [if_pos h4]; exact bad (by omega)
      · rw [if_neg h4]
        by_cases h1 : b < 0
        · rw [if_pos h1]; exact bad (.inl h1)
        · rw [if_neg h1]; exact (key (by omega) (by omega)).trans (good (by omega))
    · rw [if_neg h3]
      by_cases h1 : b < 0
      · rw [if_pos h1]; exact bad (.inl h1)
      · rw [if_neg h1]; exact (key (by omega) (by omega)).trans (good (by omega))

end Go.Abs
end

section
/- Entries: blocks (printed by mkent.py). -/
set_option linter.unusedVariables false
set_option linter.unusedSimpArgs false
namespace Go.Abs
open Go.Proofs Classical

theorem con_ofW {l : List (FuncId × Ent)} (hl : TabLOk Tryz.prog l) {W : Ways} {N k : Nat} {g : FuncId} {args' : List AV} {ms : List Bool} {d : List RLeaf}
    (h : (fsW l W N k).call (List RLeaf) g (args'.map symA) [] (resK ms) = some d) (ha : ∀ x ∈ args', ArgOk x) (hp : FzPlain d) : Contract Tryz.prog g args' d :=
  contract_of tryz_orders tryz_noNum (tabL_ok hl) h ha hp

noncomputable def blkN (n : Nat) (os : List (Option Nat)) : Nat := if sampErr n os = 0 then (n + 15) / 16 else 0
noncomputable def blkL (n : Nat) (os : List (Option Nat)) : List (Option Nat) := if sampErr n os = 0 then bls ((n + 15) / 16) os n else []

theorem run_61'' {n : Nat} {cs : List AV} (h : Flos n cs) : (fsW tz7b waysB (n + 17) 6).call (List RLeaf) 61 [.ofB (.list n cs)] [] (resK [true, false]) = some [.fz (blkN n (flosOf cs)) (flosL (blkL n (flosOf cs))), .v (.int .i64 (sampErr n (flosOf cs)))] := by
  rw [run_61' h]
  unfold blocksP blkN blkL
  by_cases he : sampErr n (flosOf cs) = 0
  · rw [if_pos he, if_pos he, if_pos he, he]
  · rw [if_neg he, if_neg he, if_neg he]; rfl

noncomputable def eBlkP : Ent := fun args' R K => match args' with
  | [.list n cs] => guardO (shut (decide (Flos n cs))) (K [.fz (shut (blkN n (flosOf cs))) (shut (flosL (blkL n (flosOf cs)))), .v (.int .i64 (shut (sampErr n (flosOf cs))))])
  | _ => none

theorem eBlkP_61 : EntOk Tryz.prog 61 eBlkP := by
  intro args' R K r ha h
  unfold eBlkP at h
  split at h
  · rename_i n cs
    obtain ⟨h1, h2⟩ := guardO_some h
    rw [shut_eq] at h1
    have h1' := of_decide_eq_true h1
    refine ⟨[.fz (blkN n (flosOf cs)) (flosL (blkL n (flosOf cs))), .v (.int .i64 (sampErr n (flosOf cs)))], fun _ _ => by simp only [eBlkP, shut_eq, h1', decide_true, guardO, and_self], ?_, con_ofW tz7b_ok (W := waysB) (N := n + 17) (k := 6) (ms := [true, false]) ?_ ha ⟨flosL_plain, trivial⟩⟩
    · intro l hl; rcases List.mem_cons.1 hl with rfl | hl
      · exact (leaf_fz (flosL_plain))
      rcases List.mem_cons.1 hl with rfl | hl
      · exact leaf_int
      cases hl
    · exact run_61'' h1'
  · cases h

noncomputable def eBlkR : Ent := fun args' R K => match args' with
  | [.list n cs] => guardO (shut (decide (Flos n cs ∧ n ≤ 4096))) (K [.fz (shut ((n + 15) / 16)) (shut (flosL (bls ((n + 15) / 16) (flosOf cs) n)))])
  | _ => none

theorem eBlkR_65 : EntOk Tryz.prog 65 eBlkR := by
  intro args' R K r ha h
  unfold eBlkR at h
  split at h
  · rename_i n cs
    obtain ⟨h1, h2⟩ := guardO_some h
    rw [shut_eq] at h1
    have h1' := of_decide_eq_true h1
    refine ⟨[.fz ((n + 15) / 16) (flosL (bls ((n + 15) / 16) (flosOf cs) n))], fun _ _ => by simp only [eBlkR, shut_eq, h1', decide_true, guardO, and_self], ?_, con_ofW tz7b_ok (W := waysB) (N := n + 1) (k := 6) (ms := [true]) ?_ ha ⟨flosL_plain, trivial⟩⟩
    · intro l hl; rcases List.mem_cons.1 hl with rfl | hl
      · exact (leaf_fz (flosL_plain))
      cases hl
    · exact run_65' h1'.1 (by omega)
  · cases h

noncomputable def eJoin : Ent := fun args' R K => match args' with
  | [.list n cs, .int .i64 b] => guardO (shut (decide (Blk n cs))) (K [.fz (shut ((joinL n (flosOf cs) b).length)) (shut (flosL (joinL n (flosOf cs) b))), .v (.int .i64 (shut (joinE n (flosOf cs) b)))])
  | _ => none

theorem eJoin_62 : EntOk Tryz.prog 62 eJoin := by
  intro args' R K r ha h
  unfold eJoin at h
  split at h
  · rename_i n cs b
    obtain ⟨h1, h2⟩ := guardO_some h
    rw [shut_eq] at h1
    have h1' := of_decide_eq_true h1
    refine ⟨[.fz ((joinL n (flosOf cs) b).length) (flosL (joinL n (flosOf cs) b)), .v (.int .i64 (joinE n (flosOf cs) b))], fun _ _ => by simp only [eJoin, shut_eq, h1', decide_true, guardO, and_self], ?_, con_of tz7_ok (N := n + 1) (k := 6) (ms := [true, false]) ?_ ha ⟨flosL_plain, trivial⟩⟩
    · intro l hl; rcases List.mem_cons.1 hl with rfl | hl
      · exact (leaf_fz (flosL_plain))
      rcases List.mem_cons.1 hl with rfl | hl
      · exact leaf_int
      cases hl
    · exact run_62' h1'
  · cases h

theorem eJoin_63 : EntOk Tryz.prog 63 eJoin := by
  intro args' R K r ha h
  unfold eJoin at h
  split at h
  · rename_i n cs b
    obtain ⟨h1, h2⟩ := guardO_some h
    rw [shut_eq] at h1
    have h1' := of_decide_eq_true h1
    refine ⟨[.fz ((joinL n (flosOf cs) b).length) (flosL (joinL n (flosOf cs) b)), .v (.int .i64 (joinE n (flosOf cs) b))], fun _ _ => by simp only [eJoin, shut_eq, h1', decide_true, guardO, and_self], ?_, con_of tz7_ok (N := 16 * n + 17) (k := 6) (ms := [true, false]) ?_ ha ⟨flosL_plain, trivial⟩⟩
    · intro l hl; rcases List.mem_cons.1 hl with rfl | hl
      · exact (leaf_fz (flosL_plain))
      rcases List.mem_cons.1 hl with rfl | hl
      · exact leaf_int
      cases hl
    · exact run_63' h1'
  · cases h


noncomputable def tz10 : List (FuncId × Ent) := (61, eBlkP) :: (65, eBlkR) :: (62, eJoin) :: (63, eJoin) :: (15, eAwake) :: tz7

theorem tz10_ok : TabLOk Tryz.prog tz10 := ⟨eBlkP_61, eBlkR_65, eJoin_62, eJoin_63, eAwake_15, tz7_ok⟩

end Go.Abs
end

section
/- The law AcquireBlocks, lifted (printed by the tool gen.py). -/
set_option maxRecDepth 100000
set_option linter.unusedVariables false
namespace Go.Abs
open Go.Proofs Classical

theorem run_11 (N : Nat) (n : Nat) (cs : List AV) (m : Nat) (ds : List AV) (b : Int) : (fsZ tz10 N 8).call (List RLeaf) 11 [.ofB (.list n cs), .ofB (.list m ds), .ofB (.int .i64 b)] [] (resK [false]) = (
 condO (!shut (shortN n (60 : Int)))
  (
  some [RLeaf.v (AV.bool true)])
  (
  condO (shut (decide ((↑m : Int) > (5 : Int))))
   (
   condO (shut (decide ((↑m : Int) ≤ (256 : Int))))
    (
    some [RLeaf.v (AV.bool true)])
    (
    condO (shut (decide ((↑m : Int) > (258 : Int))))
     (
     some [RLeaf.v (AV.bool true)])
     (
     guardO (shut (decide (Flos n cs))) <|
     guardO (shut (decide (Blk m ds))) <|
     guardO (shut (decide (Flos n cs))) <|
     guardO (shut (decide (Blk m ds))) <|
     condO (shut (shut (sampErr n (flosOf cs)) != (0 : Int)))
      (
      condO (shut ((↑(shut (blkN n (flosOf cs))) : Int) != (0 : Int)))
       (
       some [RLeaf.v (AV.bool false)])
       (
       condO (shut (shut (sampErr n (flosOf cs)) != shut (sampErr n (flosOf cs))))
        (
        some [RLeaf.v (AV.bool false)])
        (
        guardO (shut (decide (Flos (shut (joinL m (flosOf ds) b).length) (shut (flosL (joinL m (flosOf ds) b))) ∧ Flos (shut (joinL m (flosOf ds) b).length) (shut (flosL (joinL m (flosOf ds) b)))))) <|
        condO (!shut (sameF (flosOf (shut (flosL (joinL m (flosOf ds) b)))) (flosOf (shut (flosL (joinL m (flosOf ds) b))))))
         (
         some [RLeaf.v (AV.bool false)])
         (
         condO (shut (shut (joinE m (flosOf ds) b) != shut (joinE m (flosOf ds) b)))
          (
          some [RLeaf.v (AV.bool false)])
          (
          guardO (shut (decide (Flos (shut (joinL m (flosOf ds) b).length) (shut (flosL (joinL m (flosOf ds) b)))))) <|
          condO (!shut ((flosOf (shut (flosL (joinL m (flosOf ds) b)))).all fun o => !negz o))
           (
           some [RLeaf.v (AV.bool false)])
           (
           condO (shut (shut (sampErr n (flosOf cs)) != (0 : Int)))
            (
            some [RLeaf.v (AV.bool true)])
            (
            guardO (shut (decide (Flos n cs ∧ n ≤ 4096))) <|
            condO (shut (shut (sampErr n (flosOf cs)) != (0 : Int)))
             (
             some [RLeaf.v (AV.bool false)])
             (
             condO (shut ((↑(shut (blkN n (flosOf cs))) : Int) != (↑(shut ((n + 15) / 16)) : Int)))
              (
              some [RLeaf.v (AV.bool false)])
              (
              loopC N (fun r_20 (x0_20 : Nat) (x1_20 : List AV) (x2_20 : Nat) (x3_20 : List AV) (x4_20 : Int) =>
                condO (shut (decide (x4_20 < (↑x0_20 : Int))))
                 (
                 guardO (shut (decide ((0 : Int) ≤ x4_20 ∧ x4_20 < (↑x0_20 : Int) ∧ 0 < x1_20.length))) <|
                 guardO (shut (decide (x4_20.toNat * 16 + 16 ≤ x1_20.length))) <|
                 bindO (asFloat Go.FloatKind.f32 (x1_20.getD (x4_20.toNat * 16) AV.top)) fun v24 =>
                 bindO (asFloat Go.FloatKind.f32 (x1_20.getD (x4_20.toNat * 16 + 1) AV.top)) fun v25 =>
                 bindO (asFloat Go.FloatKind.f32 (x1_20.getD (x4_20.toNat * 16 + 1 + 1) AV.top)) fun v26 =>
                 bindO (asFloat Go.FloatKind.f32 (x1_20.getD (x4_20.toNat * 16 + 1 + 1 + 1) AV.top)) fun v27 =>
                 bindO (asFloat Go.FloatKind.f32 (x1_20.getD (x4_20.toNat * 16 + 1 + 1 + 1 + 1) AV.top)) fun v28 =>
                 bindO (asFloat Go.FloatKind.f32 (x1_20.getD (x4_20.toNat * 16 + 1 + 1 + 1 + 1 + 1) AV.top)) fun v29 =>
                 bindO (asFloat Go.FloatKind.f32 (x1_20.getD (x4_20.toNat * 16 + 1 + 1 + 1 + 1 + 1 + 1) AV.top)) fun v30 =>
                 bindO (asFloat Go.FloatKind.f32 (x1_20.getD (x4_20.toNat * 16 + 1 + 1 + 1 + 1 + 1 + 1 + 1) AV.top)) fun v31 =>
                 bindO (asFloat Go.FloatKind.f32 (x1_20.getD (x4_20.toNat * 16 + 1 + 1 + 1 + 1 + 1 + 1 + 1 + 1) AV.top)) fun v32 =>
                 bindO (asFloat Go.FloatKind.f32 (x1_20.getD (x4_20.toNat * 16 + 1 + 1 + 1 + 1 + 1 + 1 + 1 + 1 + 1) AV.top)) fun v33 =>
                 bindO (asFloat Go.FloatKind.f32 (x1_20.getD (x4_20.toNat * 16 + 1 + 1 + 1 + 1 + 1 + 1 + 1 + 1 + 1 + 1) AV.top)) fun v34 =>
                 bindO (asFloat Go.FloatKind.f32 (x1_20.getD (x4_20.toNat * 16 + 1 + 1 + 1 + 1 + 1 + 1 + 1 + 1 + 1 + 1 + 1) AV.top)) fun v35 =>
                 bindO (asFloat Go.FloatKind.f32 (x1_20.getD (x4_20.toNat * 16 + 1 + 1 + 1 + 1 + 1 + 1 + 1 + 1 + 1 + 1 + 1 + 1) AV.top)) fun v36 =>
                 bindO (asFloat Go.FloatKind.f32 (x1_20.getD (x4_20.toNat * 16 + 1 + 1 + 1 + 1 + 1 + 1 + 1 + 1 + 1 + 1 + 1 + 1 + 1) AV.top)) fun v37 =>
                 bindO (asFloat Go.FloatKind.f32 (x1_20.getD (x4_20.toNat * 16 + 1 + 1 + 1 + 1 + 1 + 1 + 1 + 1 + 1 + 1 + 1 + 1 + 1 + 1) AV.top)) fun v38 =>
                 bindO (asFloat Go.FloatKind.f32 (x1_20.getD (x4_20.toNat * 16 + 1 + 1 + 1 + 1 + 1 + 1 + 1 + 1 + 1 + 1 + 1 + 1 + 1 + 1 + 1) AV.top)) fun v39 =>
                 guardO (shut (decide ((0 : Int) ≤ x4_20 ∧ x4_20 < (↑x2_20 : Int) ∧ 0 < x3_20.length))) <|
                 guardO (shut (decide (x4_20.toNat * 16 + 16 ≤ x3_20.length))) <|
                 bindO (asFloat Go.FloatKind.f32 (x3_20.getD (x4_20.toNat * 16) AV.top)) fun v42 =>
                 bindO (asFloat Go.FloatKind.f32 (x3_20.getD (x4_20.toNat * 16 + 1) AV.top)) fun v43 =>
                 bindO (asFloat Go.FloatKind.f32 (x3_20.getD (x4_20.toNat * 16 + 1 + 1) AV.top)) fun v44 =>
                 bindO (asFloat Go.FloatKind.f32 (x3_20.getD (x4_20.toNat * 16 + 1 + 1 + 1) AV.top)) fun v45 =>
                 bindO (asFloat Go.FloatKind.f32 (x3_20.getD (x4_20.toNat * 16 + 1 + 1 + 1 + 1) AV.top)) fun v46 =>
                 bindO (asFloat Go.FloatKind.f32 (x3_20.getD (x4_20.toNat * 16 + 1 + 1 + 1 + 1 + 1) AV.top)) fun v47 =>
                 bindO (asFloat Go.FloatKind.f32 (x3_20.getD (x4_20.toNat * 16 + 1 + 1 + 1 + 1 + 1 + 1) AV.top)) fun v48 =>
                 bindO (asFloat Go.FloatKind.f32 (x3_20.getD (x4_20.toNat * 16 + 1 + 1 + 1 + 1 + 1 + 1 + 1) AV.top)) fun v49 =>
                 bindO (asFloat Go.FloatKind.f32 (x3_20.getD (x4_20.toNat * 16 + 1 + 1 + 1 + 1 + 1 + 1 + 1 + 1) AV.top)) fun v50 =>
                 bindO (asFloat Go.FloatKind.f32 (x3_20.getD (x4_20.toNat * 16 + 1 + 1 + 1 + 1 + 1 + 1 + 1 + 1 + 1) AV.top)) fun v51 =>
                 bindO (asFloat Go.FloatKind.f32 (x3_20.getD (x4_20.toNat * 16 + 1 + 1 + 1 + 1 + 1 + 1 + 1 + 1 + 1 + 1) AV.top)) fun v52 =>
                 bindO (asFloat Go.FloatKind.f32 (x3_20.getD (x4_20.toNat * 16 + 1 + 1 + 1 + 1 + 1 + 1 + 1 + 1 + 1 + 1 + 1) AV.top)) fun v53 =>
                 bindO (asFloat Go.FloatKind.f32 (x3_20.getD (x4_20.toNat * 16 + 1 + 1 + 1 + 1 + 1 + 1 + 1 + 1 + 1 + 1 + 1 + 1) AV.top)) fun v54 =>
                 bindO (asFloat Go.FloatKind.f32 (x3_20.getD (x4_20.toNat * 16 + 1 + 1 + 1 + 1 + 1 + 1 + 1 + 1 + 1 + 1 + 1 + 1 + 1) AV.top)) fun v55 =>
                 bindO (asFloat Go.FloatKind.f32 (x3_20.getD (x4_20.toNat * 16 + 1 + 1 + 1 + 1 + 1 + 1 + 1 + 1 + 1 + 1 + 1 + 1 + 1 + 1) AV.top)) fun v56 =>
                 bindO (asFloat Go.FloatKind.f32 (x3_20.getD (x4_20.toNat * 16 + 1 + 1 + 1 + 1 + 1 + 1 + 1 + 1 + 1 + 1 + 1 + 1 + 1 + 1 + 1) AV.top)) fun v57 =>
                 condO (shut !(shut (ordO Go.FloatKind.f32 v24 v42 == Option.some Ordering.eq) && (shut (ordO Go.FloatKind.f32 v25 v43 == Option.some Ordering.eq) && (shut (ordO Go.FloatKind.f32 v26 v44 == Option.some Ordering.eq) && (shut (ordO Go.FloatKind.f32 v27 v45 == Option.some Ordering.eq) && (shut (ordO Go.FloatKind.f32 v28 v46 == Option.some Ordering.eq) && (shut (ordO Go.FloatKind.f32 v29 v47 == Option.some Ordering.eq) && (shut (ordO Go.FloatKind.f32 v30 v48 == Option.some Ordering.eq) && (shut (ordO Go.FloatKind.f32 v31 v49 == Option.some Ordering.eq) && (shut (ordO Go.FloatKind.f32 v32 v50 == Option.some Ordering.eq) && (shut (ordO Go.FloatKind.f32 v33 v51 == Option.some Ordering.eq) && (shut (ordO Go.FloatKind.f32 v34 v52 == Option.some Ordering.eq) && (shut (ordO Go.FloatKind.f32 v35 v53 == Option.some Ordering.eq) && (shut (ordO Go.FloatKind.f32 v36 v54 == Option.some Ordering.eq) && (shut (ordO Go.FloatKind.f32 v37 v55 == Option.some Ordering.eq) && (shut (ordO Go.FloatKind.f32 v38 v56 == Option.some Ordering.eq) && (shut (ordO Go.FloatKind.f32 v39 v57 == Option.some Ordering.eq) && true)))))))))))))))))
                  (
                  some [RLeaf.v (AV.bool false)])
                  (
                  guardO (shut (decide ((0 : Int) ≤ x4_20 ∧ x4_20 < (↑x0_20 : Int) ∧ 0 < x1_20.length))) <|
                  guardO (shut (decide ((0 : Int) ≤ (0 : Int) ∧ (0 : Int) ≤ (↑16 : Int) ∧ (↑16 : Int) ≤ (↑16 : Int)))) <|
                  guardO (shut (decide (x4_20.toNat * 16 + 16 ≤ x1_20.length))) <|
                  guardO (shut (decide (Flos 16 (List.take 16 (List.drop (x4_20.toNat * 16 + 0) x1_20))))) <|
                  condO (!shut ((flosOf (List.take 16 (List.drop (x4_20.toNat * 16 + 0) x1_20))).all fun o => !negz o))
                   (
                   some [RLeaf.v (AV.bool false)])
                   (
                   r_20 (x0_20) (x1_20) (x2_20) (x3_20) (shut (IntKind.i64.wrap (x4_20 + (1 : Int)))))))
                 (
                 some [RLeaf.v (AV.bool true)]))
                (fun _ _ _ _ _ => none) (shut (blkN n (flosOf cs))) (shut (flosL (blkL n (flosOf cs)))) (shut ((n + 15) / 16)) (shut (flosL (bls ((n + 15) / 16) (flosOf cs) n))) ((0 : Int)))))))))))
      (
      guardO (shut (decide (Flos (shut (joinL m (flosOf ds) b).length) (shut (flosL (joinL m (flosOf ds) b))) ∧ Flos (shut (joinL m (flosOf ds) b).length) (shut (flosL (joinL m (flosOf ds) b)))))) <|
      condO (!shut (sameF (flosOf (shut (flosL (joinL m (flosOf ds) b)))) (flosOf (shut (flosL (joinL m (flosOf ds) b))))))
       (
       some [RLeaf.v (AV.bool false)])
       (
       condO (shut (shut (joinE m (flosOf ds) b) != shut (joinE m (flosOf ds) b)))
        (
        some [RLeaf.v (AV.bool false)])
        (
        guardO (shut (decide (Flos (shut (joinL m (flosOf ds) b).length) (shut (flosL (joinL m (flosOf ds) b)))))) <|
        condO (!shut ((flosOf (shut (flosL (joinL m (flosOf ds) b)))).all fun o => !negz o))
         (
         some [RLeaf.v (AV.bool false)])
         (
         condO (shut (shut (sampErr n (flosOf cs)) != (0 : Int)))
          (
          some [RLeaf.v (AV.bool true)])
          (
          guardO (shut (decide (Flos n cs ∧ n ≤ 4096))) <|
          condO (shut (shut (sampErr n (flosOf cs)) != (0 : Int)))
           (
           some [RLeaf.v (AV.bool false)])
           (
           condO (shut ((↑(shut (blkN n (flosOf cs))) : Int) != (↑(shut ((n + 15) / 16)) : Int)))
            (
            some [RLeaf.v (AV.bool false)])
            (
            loopC N (fun r_18 (x0_18 : Nat) (x1_18 : List AV) (x2_18 : Nat) (x3_18 : List AV) (x4_18 : Int) =>
              condO (shut (decide (x4_18 < (↑x0_18 : Int))))
               (
               guardO (shut (decide ((0 : Int) ≤ x4_18 ∧ x4_18 < (↑x0_18 : Int) ∧ 0 < x1_18.length))) <|
               guardO (shut (decide (x4_18.toNat * 16 + 16 ≤ x1_18.length))) <|
               bindO (asFloat Go.FloatKind.f32 (x1_18.getD (x4_18.toNat * 16) AV.top)) fun v22 =>
               bindO (asFloat Go.FloatKind.f32 (x1_18.getD (x4_18.toNat * 16 + 1) AV.top)) fun v23 =>
               bindO (asFloat Go.FloatKind.f32 (x1_18.getD (x4_18.toNat * 16 + 1 + 1) AV.top)) fun v24 =>
               bindO (asFloat Go.FloatKind.f32 (x1_18.getD (x4_18.toNat * 16 + 1 + 1 + 1) AV.top)) fun v25 =>
               bindO (asFloat Go.FloatKind.f32 (x1_18.getD (x4_18.toNat * 16 + 1 + 1 + 1 + 1) AV.top)) fun v26 =>
               bindO (asFloat Go.FloatKind.f32 (x1_18.getD (x4_18.toNat * 16 + 1 + 1 + 1 + 1 + 1) AV.top)) fun v27 =>
               bindO (asFloat Go.FloatKind.f32 (x1_18.getD (x4_18.toNat * 16 + 1 + 1 + 1 + 1 + 1 + 1) AV.top)) fun v28 =>
               bindO (asFloat Go.FloatKind.f32 (x1_18.getD (x4_18.toNat * 16 + 1 + 1 + 1 + 1 + 1 + 1 + 1) AV.top)) fun v29 =>
               bindO (asFloat Go.FloatKind.f32 (x1_18.getD (x4_18.toNat * 16 + 1 + 1 + 1 + 1 + 1 + 1 + 1 + 1) AV.top)) fun v30 =>
               bindO (asFloat Go.FloatKind.f32 (x1_18.getD (x4_18.toNat * 16 + 1 + 1 + 1 + 1 + 1 + 1 + 1 + 1 + 1) AV.top)) fun v31 =>
               bindO (asFloat Go.FloatKind.f32 (x1_18.getD (x4_18.toNat * 16 + 1 + 1 + 1 + 1 + 1 + 1 + 1 + 1 + 1 + 1) AV.top)) fun v32 =>
               bindO (asFloat Go.FloatKind.f32 (x1_18.getD (x4_18.toNat * 16 + 1 + 1 + 1 + 1 + 1 + 1 + 1 + 1 + 1 + 1 + 1) AV.top)) fun v33 =>
               bindO (asFloat Go.FloatKind.f32 (x1_18.getD (x4_18.toNat * 16 + 1 + 1 + 1 + 1 + 1 + 1 + 1 + 1 + 1 + 1 + 1 + 1) AV.top)) fun v34 =>
               bindO (asFloat Go.FloatKind.f32 (x1_18.getD (x4_18.toNat * 16 + 1 + 1 + 1 + 1 + 1 + 1 + 1 + 1 + 1 + 1 + 1 + 1 + 1) AV.top)) fun v35 =>
               bindO (asFloat Go.FloatKind.f32 (x1_18.getD (x4_18.toNat * 16 + 1 + 1 + 1 + 1 + 1 + 1 + 1 + 1 + 1 + 1 + 1 + 1 + 1 + 1) AV.top)) fun v36 =>
               bindO (asFloat Go.FloatKind.f32 (x1_18.getD (x4_18.toNat * 16 + 1 + 1 + 1 + 1 + 1 + 1 + 1 + 1 + 1 + 1 + 1 + 1 + 1 + 1 + 1) AV.top)) fun v37 =>
               guardO (shut (decide ((0 : Int) ≤ x4_18 ∧ x4_18 < (↑x2_18 : Int) ∧ 0 < x3_18.length))) <|
               guardO (shut (decide (x4_18.toNat * 16 + 16 ≤ x3_18.length))) <|
               bindO (asFloat Go.FloatKind.f32 (x3_18.getD (x4_18.toNat * 16) AV.top)) fun v40 =>
               bindO (asFloat Go.FloatKind.f32 (x3_18.getD (x4_18.toNat * 16 + 1) AV.top)) fun v41 =>
               bindO (asFloat Go.FloatKind.f32 (x3_18.getD (x4_18.toNat * 16 + 1 + 1) AV.top)) fun v42 =>
               bindO (asFloat Go.FloatKind.f32 (x3_18.getD (x4_18.toNat * 16 + 1 + 1 + 1) AV.top)) fun v43 =>
               bindO (asFloat Go.FloatKind.f32 (x3_18.getD (x4_18.toNat * 16 + 1 + 1 + 1 + 1) AV.top)) fun v44 =>
               bindO (asFloat Go.FloatKind.f32 (x3_18.getD (x4_18.toNat * 16 + 1 + 1 + 1 + 1 + 1) AV.top)) fun v45 =>
               bindO (asFloat Go.FloatKind.f32 (x3_18.getD (x4_18.toNat * 16 + 1 + 1 + 1 + 1 + 1 + 1) AV.top)) fun v46 =>
               bindO (asFloat Go.FloatKind.f32 (x3_18.getD (x4_18.toNat * 16 + 1 + 1 + 1 + 1 + 1 + 1 + 1) AV.top)) fun v47 =>
               bindO (asFloat Go.FloatKind.f32 (x3_18.getD (x4_18.toNat * 16 + 1 + 1 + 1 + 1 + 1 + 1 + 1 + 1) AV.top)) fun v48 =>
               bindO (asFloat Go.FloatKind.f32 (x3_18.getD (x4_18.toNat * 16 + 1 + 1 + 1 + 1 + 1 + 1 + 1 + 1 + 1) AV.top)) fun v49 =>
               bindO (asFloat Go.FloatKind.f32 (x3_18.getD (x4_18.toNat * 16 + 1 + 1 + 1 + 1 + 1 + 1 + 1 + 1 + 1 + 1) AV.top)) fun v50 =>
               bindO (asFloat Go.FloatKind.f32 (x3_18.getD (x4_18.toNat * 16 + 1 + 1 + 1 + 1 + 1 + 1 + 1 + 1 + 1 + 1 + 1) AV.top)) fun v51 =>
               bindO (asFloat Go.FloatKind.f32 (x3_18.getD (x4_18.toNat * 16 + 1 + 1 + 1 + 1 + 1 + 1 + 1 + 1 + 1 + 1 + 1 + 1) AV.top)) fun v52 =>
               bindO (asFloat Go.FloatKind.f32 (x3_18.getD (x4_18.toNat * 16 + 1 + 1 + 1 + 1 + 1 + 1 + 1 + 1 + 1 + 1 + 1 + 1 + 1) AV.top)) fun v53 =>
               bindO (asFloat Go.FloatKind.f32 (x3_18.getD (x4_18.toNat * 16 + 1 + 1 + 1 + 1 + 1 + 1 + 1 + 1 + 1 + 1 + 1 + 1 + 1 + 1) AV.top)) fun v54 =>
               bindO (asFloat Go.FloatKind.f32 (x3_18.getD (x4_18.toNat * 16 + 1 + 1 + 1 + 1 + 1 + 1 + 1 + 1 + 1 + 1 + 1 + 1 + 1 + 1 + 1) AV.top)) fun v55 =>
               condO (shut !(shut (ordO Go.FloatKind.f32 v22 v40 == Option.some Ordering.eq) && (shut (ordO Go.FloatKind.f32 v23 v41 == Option.some Ordering.eq) && (shut (ordO Go.FloatKind.f32 v24 v42 == Option.some Ordering.eq) && (shut (ordO Go.FloatKind.f32 v25 v43 == Option.some Ordering.eq) && (shut (ordO Go.FloatKind.f32 v26 v44 == Option.some Ordering.eq) && (shut (ordO Go.FloatKind.f32 v27 v45 == Option.some Ordering.eq) && (shut (ordO Go.FloatKind.f32 v28 v46 == Option.some Ordering.eq) && (shut (ordO Go.FloatKind.f32 v29 v47 == Option.some Ordering.eq) && (shut (ordO Go.FloatKind.f32 v30 v48 == Option.some Ordering.eq) && (shut (ordO Go.FloatKind.f32 v31 v49 == Option.some Ordering.eq) && (shut (ordO Go.FloatKind.f32 v32 v50 == Option.some Ordering.eq) && (shut (ordO Go.FloatKind.f32 v33 v51 == Option.some Ordering.eq) && (shut (ordO Go.FloatKind.f32 v34 v52 == Option.some Ordering.eq) && (shut (ordO Go.FloatKind.f32 v35 v53 == Option.some Ordering.eq) && (shut (ordO Go.FloatKind.f32 v36 v54 == Option.some Ordering.eq) && (shut (ordO Go.FloatKind.f32 v37 v55 == Option.some Ordering.eq) && true)))))))))))))))))
                (
                some [RLeaf.v (AV.bool false)])
                (
                guardO (shut (decide ((0 : Int) ≤ x4_18 ∧ x4_18 < (↑x0_18 : Int) ∧ 0 < x1_18.length))) <|
                guardO (shut (decide ((0 : Int) ≤ (0 : Int) ∧ (0 : Int) ≤ (↑16 : Int) ∧ (↑16 : Int) ≤ (↑16 : Int)))) <|
                guardO (shut (decide (x4_18.toNat * 16 + 16 ≤ x1_18.length))) <|
                guardO (shut (decide (Flos 16 (List.take 16 (List.drop (x4_18.toNat * 16 + 0) x1_18))))) <|
                condO (!shut ((flosOf (List.take 16 (List.drop (x4_18.toNat * 16 + 0) x1_18))).all fun o => !negz o))
                 (
                 some [RLeaf.v (AV.bool false)])
                 (
                 r_18 (x0_18) (x1_18) (x2_18) (x3_18) (shut (IntKind.i64.wrap (x4_18 + (1 : Int)))))))
               (
               some [RLeaf.v (AV.bool true)]))
              (fun _ _ _ _ _ => none) (shut (blkN n (flosOf cs))) (shut (flosL (blkL n (flosOf cs)))) (shut ((n + 15) / 16)) (shut (flosL (bls ((n + 15) / 16) (flosOf cs) n))) ((0 : Int))))))))))))
   (
   condO (shut (decide ((↑m : Int) > (258 : Int))))
    (
    some [RLeaf.v (AV.bool true)])
    (
    guardO (shut (decide (Flos n cs))) <|
    guardO (shut (decide (Blk m ds))) <|
    guardO (shut (decide (Flos n cs))) <|
    guardO (shut (decide (Blk m ds))) <|
    condO (shut (shut (sampErr n (flosOf cs)) != (0 : Int)))
     (
     condO (shut ((↑(shut (blkN n (flosOf cs))) : Int) != (0 : Int)))
      (
      some [RLeaf.v (AV.bool false)])
      (
      condO (shut (shut (sampErr n (flosOf cs)) != shut (sampErr n (flosOf cs))))
       (
       some [RLeaf.v (AV.bool false)])
       (
       guardO (shut (decide (Flos (shut (joinL m (flosOf ds) b).length) (shut (flosL (joinL m (flosOf ds) b))) ∧ Flos (shut (joinL m (flosOf ds) b).length) (shut (flosL (joinL m (flosOf ds) b)))))) <|
       condO (!shut (sameF (flosOf (shut (flosL (joinL m (flosOf ds) b)))) (flosOf (shut (flosL (joinL m (flosOf ds) b))))))
        (
        some [RLeaf.v (AV.bool false)])
        (
        condO (shut (shut (joinE m (flosOf ds) b) != shut (joinE m (flosOf ds) b)))
         (
         some [RLeaf.v (AV.bool false)])
         (
         guardO (shut (decide (Flos (shut (joinL m (flosOf ds) b).length) (shut (flosL (joinL m (flosOf ds) b)))))) <|
         condO (!shut ((flosOf (shut (flosL (joinL m (flosOf ds) b)))).all fun o => !negz o))
          (
          some [RLeaf.v (AV.bool false)])
          (
          condO (shut (shut (sampErr n (flosOf cs)) != (0 : Int)))
           (
           some [RLeaf.v (AV.bool true)])
           (
           guardO (shut (decide (Flos n cs ∧ n ≤ 4096))) <|
           condO (shut (shut (sampErr n (flosOf cs)) != (0 : Int)))
            (
            some [RLeaf.v (AV.bool false)])
            (
            condO (shut ((↑(shut (blkN n (flosOf cs))) : Int) != (↑(shut ((n + 15) / 16)) : Int)))
             (
             some [RLeaf.v (AV.bool false)])
             (
             loopC N (fun r_19 (x0_19 : Nat) (x1_19 : List AV) (x2_19 : Nat) (x3_19 : List AV) (x4_19 : Int) =>
               condO (shut (decide (x4_19 < (↑x0_19 : Int))))
                (
                guardO (shut (decide ((0 : Int) ≤ x4_19 ∧ x4_19 < (↑x0_19 : Int) ∧ 0 < x1_19.length))) <|
                guardO (shut (decide (x4_19.toNat * 16 + 16 ≤ x1_19.length))) <|
                bindO (asFloat Go.FloatKind.f32 (x1_19.getD (x4_19.toNat * 16) AV.top)) fun v23 =>
                bindO (asFloat Go.FloatKind.f32 (x1_19.getD (x4_19.toNat * 16 + 1) AV.top)) fun v24 =>
                bindO (asFloat Go.FloatKind.f32 (x1_19.getD (x4_19.toNat * 16 + 1 + 1) AV.top)) fun v25 =>
                bindO (asFloat Go.FloatKind.f32 (x1_19.getD (x4_19.toNat * 16 + 1 + 1 + 1) AV.top)) fun v26 =>
                bindO (asFloat Go.FloatKind.f32 (x1_19.getD (x4_19.toNat * 16 + 1 + 1 + 1 + 1) AV.top)) fun v27 =>
                bindO (asFloat Go.FloatKind.f32 (x1_19.getD (x4_19.toNat * 16 + 1 + 1 + 1 + 1 + 1) AV.top)) fun v28 =>
                bindO (asFloat Go.FloatKind.f32 (x1_19.getD (x4_19.toNat * 16 + 1 + 1 + 1 + 1 + 1 + 1) AV.top)) fun v29 =>
                bindO (asFloat Go.FloatKind.f32 (x1_19.getD (x4_19.toNat * 16 + 1 + 1 + 1 + 1 + 1 + 1 + 1) AV.top)) fun v30 =>
                bindO (asFloat Go.FloatKind.f32 (x1_19.getD (x4_19.toNat * 16 + 1 + 1 + 1 + 1 + 1 + 1 + 1 + 1) AV.top)) fun v31 =>
                bindO (asFloat Go.FloatKind.f32 (x1_19.getD (x4_19.toNat * 16 + 1 + 1 + 1 + 1 + 1 + 1 + 1 + 1 + 1) AV.top)) fun v32 =>
                bindO (asFloat Go.FloatKind.f32 (x1_19.getD (x4_19.toNat * 16 + 1 + 1 + 1 + 1 + 1 + 1 + 1 + 1 + 1 + 1) AV.top)) fun v33 =>
                bindO (asFloat Go.FloatKind.f32 (x1_19.getD (x4_19.toNat * 16 + 1 + 1 + 1 + 1 + 1 + 1 + 1 + 1 + 1 + 1 + 1) AV.top)) fun v34 =>
                bindO (asFloat Go.FloatKind.f32 (x1_19.getD (x4_19.toNat * 16 + 1 + 1 + 1 + 1 + 1 + 1 + 1 + 1 + 1 + 1 + 1 + 1) AV.top)) fun v35 =>
                bindO (asFloat Go.FloatKind.f32 (x1_19.getD (x4_19.toNat * 16 + 1 + 1 + 1 + 1 + 1 + 1 + 1 + 1 + 1 + 1 + 1 + 1 + 1) AV.top)) fun v36 =>
                bindO (asFloat Go.FloatKind.f32 (x1_19.getD (x4_19.toNat * 16 + 1 + 1 + 1 + 1 + 1 + 1 + 1 + 1 + 1 + 1 + 1 + 1 + 1 + 1) AV.top)) fun v37 =>
                bindO (asFloat Go.FloatKind.f32 (x1_19.getD (x4_19.toNat * 16 + 1 + 1 + 1 + 1 + 1 + 1 + 1 + 1 + 1 + 1 + 1 + 1 + 1 + 1 + 1) AV.top)) fun v38 =>
                guardO (shut (decide ((0 : Int) ≤ x4_19 ∧ x4_19 < (↑x2_19 : Int) ∧ 0 < x3_19.length))) <|
                guardO (shut (decide (x4_19.toNat * 16 + 16 ≤ x3_19.length))) <|
                bindO (asFloat Go.FloatKind.f32 (x3_19.getD (x4_19.toNat * 16) AV.top)) fun v41 =>
                bindO (asFloat Go.FloatKind.f32 (x3_19.getD (x4_19.toNat * 16 + 1) AV.top)) fun v42 =>
                bindO (asFloat Go.FloatKind.f32 (x3_19.getD (x4_19.toNat * 16 + 1 + 1) AV.top)) fun v43 =>
                bindO (asFloat Go.FloatKind.f32 (x3_19.getD (x4_19.toNat * 16 + 1 + 1 + 1) AV.top)) fun v44 =>
                bindO (asFloat Go.FloatKind.f32 (x3_19.getD (x4_19.toNat * 16 + 1 + 1 + 1 + 1) AV.top)) fun v45 =>
                bindO (asFloat Go.FloatKind.f32 (x3_19.getD (x4_19.toNat * 16 + 1 + 1 + 1 + 1 + 1) AV.top)) fun v46 =>
                bindO (asFloat Go.FloatKind.f32 (x3_19.getD (x4_19.toNat * 16 + 1 + 1 + 1 + 1 + 1 + 1) AV.top)) fun v47 =>
                bindO (asFloat Go.FloatKind.f32 (x3_19.getD (x4_19.toNat * 16 + 1 + 1 + 1 + 1 + 1 + 1 + 1) AV.top)) fun v48 =>
                bindO (asFloat Go.FloatKind.f32 (x3_19.getD (x4_19.toNat * 16 + 1 + 1 + 1 + 1 + 1 + 1 + 1 + 1) AV.top)) fun v49 =>
                bindO (asFloat Go.FloatKind.f32 (x3_19.getD (x4_19.toNat * 16 + 1 + 1 + 1 + 1 + 1 + 1 + 1 + 1 + 1) AV.top)) fun v50 =>
                bindO (asFloat Go.FloatKind.f32 (x3_19.getD (x4_19.toNat * 16 + 1 + 1 + 1 + 1 + 1 + 1 + 1 + 1 + 1 + 1) AV.top)) fun v51 =>
                bindO (asFloat Go.FloatKind.f32 (x3_19.getD (x4_19.toNat * 16 + 1 + 1 + 1 + 1 + 1 + 1 + 1 + 1 + 1 + 1 + 1) AV.top)) fun v52 =>
                bindO (asFloat Go.FloatKind.f32 (x3_19.getD (x4_19.toNat * 16 + 1 + 1 + 1 + 1 + 1 + 1 + 1 + 1 + 1 + 1 + 1 + 1) AV.top)) fun v53 =>
                bindO (asFloat Go.FloatKind.f32 (x3_19.getD (x4_19.toNat * 16 + 1 + 1 + 1 + 1 + 1 + 1 + 1 + 1 + 1 + 1 + 1 + 1 + 1) AV.top)) fun v54 =>
                bindO (asFloat Go.FloatKind.f32 (x3_19.getD (x4_19.toNat * 16 + 1 + 1 + 1 + 1 + 1 + 1 + 1 + 1 + 1 + 1 + 1 + 1 + 1 + 1) AV.top)) fun v55 =>
                bindO (asFloat Go.FloatKind.f32 (x3_19.getD (x4_19.toNat * 16 + 1 + 1 + 1 + 1 + 1 + 1 + 1 + 1 + 1 + 1 + 1 + 1 + 1 + 1 + 1) AV.top)) fun v56 =>
                condO (shut !(shut (ordO Go.FloatKind.f32 v23 v41 == Option.some Ordering.eq) && (shut (ordO Go.FloatKind.f32 v24 v42 == Option.some Ordering.eq) && (shut (ordO Go.FloatKind.f32 v25 v43 == Option.some Ordering.eq) && (shut (ordO Go.FloatKind.f32 v26 v44 == Option.some Ordering.eq) && (shut (ordO Go.FloatKind.f32 v27 v45 == Option.some Ordering.eq) && (shut (ordO Go.FloatKind.f32 v28 v46 == Option.some Ordering.eq) && (shut (ordO Go.FloatKind.f32 v29 v47 == Option.some Ordering.eq) && (shut (ordO Go.FloatKind.f32 v30 v48 == Option.some Ordering.eq) && (shut (ordO Go.FloatKind.f32 v31 v49 == Option.some Ordering.eq) && (shut (ordO Go.FloatKind.f32 v32 v50 == Option.some Ordering.eq) && (shut (ordO Go.FloatKind.f32 v33 v51 == Option.some Ordering.eq) && (shut (ordO Go.FloatKind.f32 v34 v52 == Option.some Ordering.eq) && (shut (ordO Go.FloatKind.f32 v35 v53 == Option.some Ordering.eq) && (shut (ordO Go.FloatKind.f32 v36 v54 == Option.some Ordering.eq) && (shut (ordO Go.FloatKind.f32 v37 v55 == Option.some Ordering.eq) && (shut (ordO Go.FloatKind.f32 v38 v56 == Option.some Ordering.eq) && true)))))))))))))))))
                 (
                 some [RLeaf.v (AV.bool false)])
                 (
                 guardO (shut (decide ((0 : Int) ≤ x4_19 ∧ x4_19 < (↑x0_19 : Int) ∧ 0 < x1_19.length))) <|
                 guardO (shut (decide ((0 : Int) ≤ (0 : Int) ∧ (0 : Int) ≤ (↑16 : Int) ∧ (↑16 : Int) ≤ (↑16 : Int)))) <|
                 guardO (shut (decide (x4_19.toNat * 16 + 16 ≤ x1_19.length))) <|
                 guardO (shut (decide (Flos 16 (List.take 16 (List.drop (x4_19.toNat * 16 + 0) x1_19))))) <|
                 condO (!shut ((flosOf (List.take 16 (List.drop (x4_19.toNat * 16 + 0) x1_19))).all fun o => !negz o))
                  (
                  some [RLeaf.v (AV.bool false)])
                  (
                  r_19 (x0_19) (x1_19) (x2_19) (x3_19) (shut (IntKind.i64.wrap (x4_19 + (1 : Int)))))))
                (
                some [RLeaf.v (AV.bool true)]))
               (fun _ _ _ _ _ => none) (shut (blkN n (flosOf cs))) (shut (flosL (blkL n (flosOf cs)))) (shut ((n + 15) / 16)) (shut (flosL (bls ((n + 15) / 16) (flosOf cs) n))) ((0 : Int)))))))))))
     (
     guardO (shut (decide (Flos (shut (joinL m (flosOf ds) b).length) (shut (flosL (joinL m (flosOf ds) b))) ∧ Flos (shut (joinL m (flosOf ds) b).length) (shut (flosL (joinL m (flosOf ds) b)))))) <|
     condO (!shut (sameF (flosOf (shut (flosL (joinL m (flosOf ds) b)))) (flosOf (shut (flosL (joinL m (flosOf ds) b))))))
      (
      some [RLeaf.v (AV.bool false)])
      (
      condO (shut (shut (joinE m (flosOf ds) b) != shut (joinE m (flosOf ds) b)))
       (
       some [RLeaf.v (AV.bool false)])
       (
       guardO (shut (decide (Flos (shut (joinL m (flosOf ds) b).length) (shut (flosL (joinL m (flosOf ds) b)))))) <|
       condO (!shut ((flosOf (shut (flosL (joinL m (flosOf ds) b)))).all fun o => !negz o))
        (
        some [RLeaf.v (AV.bool false)])
        (
        condO (shut (shut (sampErr n (flosOf cs)) != (0 : Int)))
         (
         some [RLeaf.v (AV.bool true)])
         (
         guardO (shut (decide (Flos n cs ∧ n ≤ 4096))) <|
         condO (shut (shut (sampErr n (flosOf cs)) != (0 : Int)))
          (
          some [RLeaf.v (AV.bool false)])
          (
          condO (shut ((↑(shut (blkN n (flosOf cs))) : Int) != (↑(shut ((n + 15) / 16)) : Int)))
           (
           some [RLeaf.v (AV.bool false)])
           (
           loopC N (fun r_17 (x0_17 : Nat) (x1_17 : List AV) (x2_17 : Nat) (x3_17 : List AV) (x4_17 : Int) =>
             condO (shut (decide (x4_17 < (↑x0_17 : Int))))
              (
              guardO (shut (decide ((0 : Int) ≤ x4_17 ∧ x4_17 < (↑x0_17 : Int) ∧ 0 < x1_17.length))) <|
              guardO (shut (decide (x4_17.toNat * 16 + 16 ≤ x1_17.length))) <|
              bindO (asFloat Go.FloatKind.f32 (x1_17.getD (x4_17.toNat * 16) AV.top)) fun v21 =>
              bindO (asFloat Go.FloatKind.f32 (x1_17.getD (x4_17.toNat * 16 + 1) AV.top)) fun v22 =>
              bindO (asFloat Go.FloatKind.f32 (x1_17.getD (x4_17.toNat * 16 + 1 + 1) AV.top)) fun v23 =>
              bindO (asFloat Go.FloatKind.f32 (x1_17.getD (x4_17.toNat * 16 + 1 + 1 + 1) AV.top)) fun v24 =>
              bindO (asFloat Go.FloatKind.f32 (x1_17.getD (x4_17.toNat * 16 + 1 + 1 + 1 + 1) AV.top)) fun v25 =>
              bindO (asFloat Go.FloatKind.f32 (x1_17.getD (x4_17.toNat * 16 + 1 + 1 + 1 + 1 + 1) AV.top)) fun v26 =>
              bindO (asFloat Go.FloatKind.f32 (x1_17.getD (x4_17.toNat * 16 + 1 + 1 + 1 + 1 + 1 + 1) AV.top)) fun v27 =>
              bindO (asFloat Go.FloatKind.f32 (x1_17.getD (x4_17.toNat * 16 + 1 + 1 + 1 + 1 + 1 + 1 + 1) AV.top)) fun v28 =>
              bindO (asFloat Go.FloatKind.f32 (x1_17.getD (x4_17.toNat * 16 + 1 + 1 + 1 + 1 + 1 + 1 + 1 + 1) AV.top)) fun v29 =>
              bindO (asFloat Go.FloatKind.f32 (x1_17.getD (x4_17.toNat * 16 + 1 + 1 + 1 + 1 + 1 + 1 + 1 + 1 + 1) AV.top)) fun v30 =>
              bindO (asFloat Go.FloatKind.f32 (x1_17.getD (x4_17.toNat * 16 + 1 + 1 + 1 + 1 + 1 + 1 + 1 + 1 + 1 + 1) AV.top)) fun v31 =>
              bindO (asFloat Go.FloatKind.f32 (x1_17.getD (x4_17.toNat * 16 + 1 + 1 + 1 + 1 + 1 + 1 + 1 + 1 + 1 + 1 + 1) AV.top)) fun v32 =>
              bindO (asFloat Go.FloatKind.f32 (x1_17.getD (x4_17.toNat * 16 + 1 + 1 + 1 + 1 + 1 + 1 + 1 + 1 + 1 + 1 + 1 + 1) AV.top)) fun v33 =>
              bindO (asFloat Go.FloatKind.f32 (x1_17.getD (x4_17.toNat * 16 + 1 + 1 + 1 + 1 + 1 + 1 + 1 + 1 + 1 + 1 + 1 + 1 + 1) AV.top)) fun v34 =>
              bindO (asFloat Go.FloatKind.f32 (x1_17.getD (x4_17.toNat * 16 + 1 + 1 + 1 + 1 + 1 + 1 + 1 + 1 + 1 + 1 + 1 + 1 + 1 + 1) AV.top)) fun v35 =>
              bindO (asFloat Go.FloatKind.f32 (x1_17.getD (x4_17.toNat * 16 + 1 + 1 + 1 + 1 + 1 + 1 + 1 + 1 + 1 + 1 + 1 + 1 + 1 + 1 + 1) AV.top)) fun v36 =>
              guardO (shut (decide ((0 : Int) ≤ x4_17 ∧ x4_17 < (↑x2_17 : Int) ∧ 0 < x3_17.length))) <|
              guardO (shut (decide (x4_17.toNat * 16 + 16 ≤ x3_17.length))) <|
              bindO (asFloat Go.FloatKind.f32 (x3_17.getD (x4_17.toNat * 16) AV.top)) fun v39 =>
              bindO (asFloat Go.FloatKind.f32 (x3_17.getD (x4_17.toNat * 16 + 1) AV.top)) fun v40 =>
              bindO (asFloat Go.FloatKind.f32 (x3_17.getD (x4_17.toNat * 16 + 1 + 1) AV.top)) fun v41 =>
              bindO (asFloat Go.FloatKind.f32 (x3_17.getD (x4_17.toNat * 16 + 1 + 1 + 1) AV.top)) fun v42 =>
              bindO (asFloat Go.FloatKind.f32 (x3_17.getD (x4_17.toNat * 16 + 1 + 1 + 1 + 1) AV.top)) fun v43 =>
              bindO (asFloat Go.FloatKind.f32 (x3_17.getD (x4_17.toNat * 16 + 1 + 1 + 1 + 1 + 1) AV.top)) fun v44 =>
              bindO (asFloat Go.FloatKind.f32 (x3_17.getD (x4_17.toNat * 16 + 1 + 1 + 1 + 1 + 1 + 1) AV.top)) fun v45 =>
              bindO (asFloat Go.FloatKind.f32 (x3_17.getD (x4_17.toNat * 16 + 1 + 1 + 1 + 1 + 1 + 1 + 1) AV.top)) fun v46 =>
              bindO (asFloat Go.FloatKind.f32 (x3_17.getD (x4_17.toNat * 16 + 1 + 1 + 1 + 1 + 1 + 1 + 1 + 1) AV.top)) fun v47 =>
              bindO (asFloat Go.FloatKind.f32 (x3_17.getD (x4_17.toNat * 16 + 1 + 1 + 1 + 1 + 1 + 1 + 1 + 1 + 1) AV.top)) fun v48 =>
              bindO (asFloat Go.FloatKind.f32 (x3_17.getD (x4_17.toNat * 16 + 1 + 1 + 1 + 1 + 1 + 1 + 1 + 1 + 1 + 1) AV.top)) fun v49 =>
              bindO (asFloat Go.FloatKind.f32 (x3_17.getD (x4_17.toNat * 16 + 1 + 1 + 1 + 1 + 1 + 1 + 1 + 1 + 1 + 1 + 1) AV.top)) fun v50 =>
              bindO (asFloat Go.FloatKind.f32 (x3_17.getD (x4_17.toNat * 16 + 1 + 1 + 1 + 1 + 1 + 1 + 1 + 1 + 1 + 1 + 1 + 1) AV.top)) fun v51 =>
              bindO (asFloat Go.FloatKind.f32 (x3_17.getD (x4_17.toNat * 16 + 1 + 1 + 1 + 1 + 1 + 1 + 1 + 1 + 1 + 1 + 1 + 1 + 1) AV.top)) fun v52 =>
              bindO (asFloat Go.FloatKind.f32 (x3_17.getD (x4_17.toNat * 16 + 1 + 1 + 1 + 1 + 1 + 1 + 1 + 1 + 1 + 1 + 1 + 1 + 1 + 1) AV.top)) fun v53 =>
              bindO (asFloat Go.FloatKind.f32 (x3_17.getD (x4_17.toNat * 16 + 1 + 1 + 1 + 1 + 1 + 1 + 1 + 1 + 1 + 1 + 1 + 1 + 1 + 1 + 1) AV.top)) fun v54 =>
              condO (shut !(shut (ordO Go.FloatKind.f32 v21 v39 == Option.some Ordering.eq) && (shut (ordO Go.FloatKind.f32 v22 v40 == Option.some Ordering.eq) && (shut (ordO Go.FloatKind.f32 v23 v41 == Option.some Ordering.eq) && (shut (ordO Go.FloatKind.f32 v24 v42 == Option.some Ordering.eq) && (shut (ordO Go.FloatKind.f32 v25 v43 == Option.some Ordering.eq) && (shut (ordO Go.FloatKind.f32 v26 v44 == Option.some Ordering.eq) && (shut (ordO Go.FloatKind.f32 v27 v45 == Option.some Ordering.eq) && (shut (ordO Go.FloatKind.f32 v28 v46 == Option.some Ordering.eq) && (shut (ordO Go.FloatKind.f32 v29 v47 == Option.some Ordering.eq) && (shut (ordO Go.FloatKind.f32 v30 v48 == Option.some Ordering.eq) && (shut (ordO Go.FloatKind.f32 v31 v49 == Option.some Ordering.eq) && (shut (ordO Go.FloatKind.f32 v32 v50 == Option.some Ordering.eq) && (shut (ordO Go.FloatKind.f32 v33 v51 == Option.some Ordering.eq) && (shut (ordO Go.FloatKind.f32 v34 v52 == Option.some Ordering.eq) && (shut (ordO Go.FloatKind.f32 v35 v53 == Option.some Ordering.eq) && (shut (ordO Go.FloatKind.f32 v36 v54 == Option.some Ordering.eq) && true)))))))))))))))))
               (
               some [RLeaf.v (AV.bool false)])
               (
               guardO (shut (decide ((0 : Int) ≤ x4_17 ∧ x4_17 < (↑x0_17 : Int) ∧ 0 < x1_17.length))) <|
               guardO (shut (decide ((0 : Int) ≤ (0 : Int) ∧ (0 : Int) ≤ (↑16 : Int) ∧ (↑16 : Int) ≤ (↑16 : Int)))) <|
               guardO (shut (decide (x4_17.toNat * 16 + 16 ≤ x1_17.length))) <|
               guardO (shut (decide (Flos 16 (List.take 16 (List.drop (x4_17.toNat * 16 + 0) x1_17))))) <|
               condO (!shut ((flosOf (List.take 16 (List.drop (x4_17.toNat * 16 + 0) x1_17))).all fun o => !negz o))
                (
                some [RLeaf.v (AV.bool false)])
                (
                r_17 (x0_17) (x1_17) (x2_17) (x3_17) (shut (IntKind.i64.wrap (x4_17 + (1 : Int)))))))
              (
              some [RLeaf.v (AV.bool true)]))
             (fun _ _ _ _ _ => none) (shut (blkN n (flosOf cs))) (shut (flosL (blkL n (flosOf cs)))) (shut ((n + 15) / 16)) (shut (flosL (bls ((n + 15) / 16) (flosOf cs) n))) ((0 : Int))))))))))))) := by kernel_rfl


end Go.Abs
end

section
/- The law AcquireBlocks. -/
set_option linter.unusedVariables false
set_option linter.unusedSimpArgs false
namespace Go.Abs
open Go.Proofs Classical

theorem sameF_self {xs : List (Option Nat)} (h : ∀ o ∈ xs, ordO .f32 o o = some .eq) : sameF xs xs = true := by
  unfold sameF
  simp only [beq_self_eq_true, Bool.true_and, List.all_eq_true, List.mem_range, beq_iff_eq]
  intro i hi
  refine h _ ?_
  rw [List.getD_eq_getElem?_getD, List.getElem?_eq_getElem hi]; exact List.getElem_mem _

theorem joinL_mem {n : Nat} {os : List (Option Nat)} {b : Int} {o : Option Nat} (h : o ∈ joinL n os b) : ordO .f32 o o = some .eq ∧ negz o = false := by
  unfold joinL at h
  split at h
  · rename_i he
    have hall : os.all finB = true := by
      unfold joinE at he
      split at he
      · cases he
      · split at he
        · assumption
        · cases he
    obtain ⟨x, hx, rfl⟩ := List.mem_map.1 (List.mem_of_mem_take h)
    exact ⟨ord_clean (List.all_eq_true.1 hall x hx), negz_clean x⟩
  · cases h

theorem joinL_len {n : Nat} {os : List (Option Nat)} {b : Int} : (joinL n os b).length ≤ os.length := by
  unfold joinL
  split
  · simp; omega
  · simp

theorem sampErr_fin {n : Nat} {os : List (Option Nat)} (h : sampErr n os = 0) : os.all finB = true := by
  unfold sampErr at h
  split at h
  · cases h
  · split at h
    · assumption
    · cases h

theorem bls_mem {m i : Nat} {os : List (Option Nat)} {o : Option Nat} (hf : os.all finB = true) (h : o ∈ bls m os i) : ordO .f32 o o = some .eq ∧ negz o = false := by
  unfold bls at h
  rcases List.mem_append.1 h with h | h
  · obtain ⟨x, hx, rfl⟩ := List.mem_map.1 h
    exact ⟨ord_clean (List.all_eq_true.1 hf x (List.mem_of_mem_take hx)), negz_clean x⟩
  · rw [List.mem_replicate] at h
    rw [h.2]
    exact ⟨zero_ord, by decide +kernel⟩

set_option maxHeartbeats 3200000 in
theorem run_11' {n m : Nat} {cs ds : List AV} {b : Int} (h : Flos n cs) (h' : Blk m ds) : (fsZ tz10 (n + 2) 8).call (List RLeaf) 11 [.ofB (.list n cs), .ofB (.list m ds), .ofB (.int .i64 b)] [] (resK [false]) = some [.v (.bool true)] := by
  rw [run_11]
  have fin : ∀ {x : Option (List RLeaf)}, (m ≤ 258 → x = some [.v (.bool true)]) → condO (!shut (shortN n 60)) (some [RLeaf.v (AV.bool true)]) (condO (shut (decide ((m : Int) > 5))) (condO (shut (decide ((m : Int) ≤ 256))) (some [RLeaf.v (AV.bool true)]) (condO (shut (decide ((m : Int) > 258))) (some [RLeaf.v (AV.bool true)]) x)) (condO (shut (decide ((m : Int) > 258))) (some [RLeaf.v (AV.bool true)]) x)) = some [.v (.bool true)] := by
    intro x hx
    simp only [shut_eq, condO_dec, condO_not]
    split
    · by_cases h1 : (m : Int) > 5
      · rw [if_pos h1]
        by_cases h2 : (m : Int) ≤ 256
        · rw [if_pos h2]
        · rw [if_neg h2]
          by_cases h3 : (m : Int) > 258
          · rw [if_pos h3]
          · rw [if_neg h3]; exact hx (by omega)
      · rw [if_neg h1, if_neg (by omega)]; exact hx (by omega)
    · rfl
  refine fin fun hm => ?_
  clear fin
  have hl := h.len
  have hl' := h'.len
  have hJ : Flos (joinL m (flosOf ds) b).length (flosL (joinL m (flosOf ds) b)) := Flos_L (by have := joinL_len (n := m) (os := flosOf ds) (b := b); omega)
  have hS : sameF (joinL m (flosOf ds) b) (joinL m (flosOf ds) b) = true := sameF_self fun o ho => (joinL_mem ho).1
  have hZ : ((joinL m (flosOf ds) b).all fun o => !negz o) = true := List.all_eq_true.2 fun o ho => by rw [(joinL_mem ho).2]; rfl
  by_cases he : sampErr n (flosOf cs) = 0
  case neg =>
    have hb : blkN n (flosOf cs) = 0 := if_neg he
    simp only [shut_eq, guardO_dec, condO_dec, condO_not, condO_bne, h, h', if_true, he, if_false, hb, flosOf_L, hJ, hS, hZ, and_self]
    rfl
  have hn := sampErr_le he
  have hb : blkN n (flosOf cs) = (n + 15) / 16 := if_pos he
  have hbL : blkL n (flosOf cs) = bls ((n + 15) / 16) (flosOf cs) n := if_pos he
  simp only [shut_eq, guardO_dec, condO_dec, condO_not, condO_bne, h, h', if_true, he, hb, hbL, flosOf_L, hJ, hS, hZ, hn, and_self]
  have hfin := sampErr_fin he
  have hLm : ∀ o ∈ bls ((n + 15) / 16) (flosOf cs) n, ordO .f32 o o = some .eq ∧ negz o = false := fun o ho => bls_mem hfin ho
  have hLl : (bls ((n + 15) / 16) (flosOf cs) n).length = (n + 15) / 16 * 16 := bls_len (by omega) (by omega)
  generalize hmm : (n + 15) / 16 = q at *
  generalize bls q (flosOf cs) n = L at hLm hLl
  refine loopC_rule (fun k (r : Nat → List AV → Nat → List AV → Int → Option (List RLeaf)) => ∀ i : Nat, i + k = q → r q (flosL L) q (flosL L) (i : Int) = some [RLeaf.v (.bool true)]) ?_ (n + 2) q (by omega) 0 (by omega)
  intro k r ih i hi
  by_cases hk : i < q
  · have h2 : 0 < (flosL L).length := by rw [flosL_len]; omega
    have h3 : i * 16 + 16 ≤ (flosL L).length := by rw [flosL_len]; omega
    have hx : i * 16 + 16 ≤ L.length := by omega
    have c1 : (0 : Int) ≤ 0 ∧ (0 : Int) ≤ ((16 : Nat) : Int) ∧ ((16 : Nat) : Int) ≤ ((16 : Nat) : Int) := by omega
    have g0 : asFloat Go.FloatKind.f32 ((flosL L).getD (i * 16) AV.top) = some (L.getD (i * 16) none) := flosL_get (by omega)
    have g1 : asFloat Go.FloatKind.f32 ((flosL L).getD (i * 16 + 1) AV.top) = some (L.getD (i * 16 + 1) none) := flosL_get (by omega)
    have g2 : asFloat Go.FloatKind.f32 ((flosL L).getD (i * 16 + 1 + 1) AV.top) = some (L.getD (i * 16 + 1 + 1) none) := flosL_get (by omega)
    have g3 : asFloat Go.FloatKind.f32 ((flosL L).getD (i * 16 + 1 + 1 + 1) AV.top) = some (L.getD (i * 16 + 1 + 1 + 1) none) := flosL_get (by omega)
    have g4 : asFloat Go.FloatKind.f32 ((flosL L).getD (i * 16 + 1 + 1 + 1 + 1) AV.top) = some (L.getD (i * 16 + 1 + 1 + 1 + 1) none) := flosL_get (by omega)
    have g5 : asFloat Go.FloatKind.f32 ((flosL L).getD (i * 16 + 1 + 1 + 1 + 1 + 1) AV.top) = some (L.getD (i * 16 + 1 + 1 + 1 + 1 + 1) none) := flosL_get (by omega)
    have g6 : asFloat Go.FloatKind.f32 ((flosL L).getD (i * 16 + 1 + 1 + 1 + 1 + 1 + 1) AV.top) = some (L.getD (i * 16 + 1 + 1 + 1 + 1 + 1 + 1) none) := flosL_get (by omega)
    have g7 : asFloat Go.FloatKind.f32 ((flosL L).getD (i * 16 + 1 + 1 + 1 + 1 + 1 + 1 + 1) AV.top) = some (L.getD (i * 16 + 1 + 1 + 1 + 1 + 1 + 1 + 1) none) := flosL_get (by omega)
    have g8 : asFloat Go.FloatKind.f32 ((flosL L).getD (i * 16 + 1 + 1 + 1 + 1 + 1 + 1 + 1 + 1) AV.top) = some (L.getD (i * 16 + 1 + 1 + 1 + 1 + 1 + 1 + 1 + 1) none) := flosL_get (by omega)
    have g9 : asFloat Go.FloatKind.f32 ((flosL L).getD (i * 16 + 1 + 1 + 1 + 1 + 1 + 1 + 1 + 1 + 1) AV.top) = some (L.getD (i * 16 + 1 + 1 + 1 + 1 + 1 + 1 + 1 + 1 + 1) none) := flosL_get (by omega)
    have g10 : asFloat Go.FloatKind.f32 ((flosL L).getD (i * 16 + 1 + 1 + 1 + 1 + 1 + 1 + 1 + 1 + 1 + 1) AV.top) = some (L.getD (i * 16 + 1 + 1 + 1 + 1 + 1 + 1 + 1 + 1 + 1 + 1) none) := flosL_get (by omega)
    have g11 : asFloat Go.FloatKind.f32 ((flosL L).getD (i * 16 + 1 + 1 + 1 + 1 + 1 + 1 + 1 + 1 + 1 + 1 + 1) AV.top) = some (L.getD (i * 16 + 1 + 1 + 1 + 1 + 1 + 1 + 1 + 1 + 1 + 1 + 1) none) := flosL_get (by omega)
    have g12 : asFloat Go.FloatKind.f32 ((flosL L).getD (i * 16 + 1 + 1 + 1 + 1 + 1 + 1 + 1 + 1 + 1 + 1 + 1 + 1) AV.top) = some (L.getD (i * 16 + 1 + 1 + 1 + 1 + 1 + 1 + 1 + 1 + 1 + 1 + 1 + 1) none) := flosL_get (by omega)
    have g13 : asFloat Go.FloatKind.f32 ((flosL L).getD (i * 16 + 1 + 1 + 1 + 1 + 1 + 1 + 1 + 1 + 1 + 1 + 1 + 1 + 1) AV.top) = some (L.getD (i * 16 + 1 + 1 + 1 + 1 + 1 + 1 + 1 + 1 + 1 + 1 + 1 + 1 + 1) none) := flosL_get (by omega)
    have g14 : asFloat Go.FloatKind.f32 ((flosL L).getD (i * 16 + 1 + 1 + 1 + 1 + 1 + 1 + 1 + 1 + 1 + 1 + 1 + 1 + 1 + 1) AV.top) = some (L.getD (i * 16 + 1 + 1 + 1 + 1 + 1 + 1 + 1 + 1 + 1 + 1 + 1 + 1 + 1 + 1) none) := flosL_get (by omega)
    have g15 : asFloat Go.FloatKind.f32 ((flosL L).getD (i * 16 + 1 + 1 + 1 + 1 + 1 + 1 + 1 + 1 + 1 + 1 + 1 + 1 + 1 + 1 + 1) AV.top) = some (L.getD (i * 16 + 1 + 1 + 1 + 1 + 1 + 1 + 1 + 1 + 1 + 1 + 1 + 1 + 1 + 1 + 1) none) := flosL_get (by omega)
    have hc : List.take 16 (List.drop (i * 16 + 0) (flosL L)) = flosL ((L.drop (i * 16)).take 16) := by simp [flosL, List.map_take, List.map_drop]
    have hcF : Flos 16 (flosL ((L.drop (i * 16)).take 16)) := by
      have e : ((L.drop (i * 16)).take 16).length = 16 := by simp; omega
      have := Flos_L (xs := (L.drop (i * 16)).take 16) (by omega)
      rwa [e] at this
    have hmem : ∀ o ∈ (L.drop (i * 16)).take 16, o ∈ L := fun o ho => List.mem_of_mem_drop (List.mem_of_mem_take ho)
    have hZ2 : (((L.drop (i * 16)).take 16).all fun o => !negz o) = true := List.all_eq_true.2 fun o ho => by rw [(hLm o (hmem o ho)).2]; rfl
    have hA : (List.all [L.getD (i * 16) none, L.getD (i * 16 + 1) none, L.getD (i * 16 + 1 + 1) none, L.getD (i * 16 + 1 + 1 + 1) none, L.getD (i * 16 + 1 + 1 + 1 + 1) none, L.getD (i * 16 + 1 + 1 + 1 + 1 + 1) none, L.getD (i * 16 + 1 + 1 + 1 + 1 + 1 + 1) none, L.getD (i * 16 + 1 + 1 + 1 + 1 + 1 + 1 + 1) none, L.getD (i * 16 + 1 + 1 + 1 + 1 + 1 + 1 + 1 + 1) none, L.getD (i * 16 + 1 + 1 + 1 + 1 + 1 + 1 + 1 + 1 + 1) none, L.getD (i * 16 + 1 + 1 + 1 + 1 + 1 + 1 + 1 + 1 + 1 + 1) none, L.getD (i * 16 + 1 + 1 + 1 + 1 + 1 + 1 + 1 + 1 + 1 + 1 + 1) none, L.getD (i * 16 + 1 + 1 + 1 + 1 + 1 + 1 + 1 + 1 + 1 + 1 + 1 + 1) none, L.getD (i * 16 + 1 + 1 + 1 + 1 + 1 + 1 + 1 + 1 + 1 + 1 + 1 + 1 + 1) none, L.getD (i * 16 + 1 + 1 + 1 + 1 + 1 + 1 + 1 + 1 + 1 + 1 + 1 + 1 + 1 + 1) none, L.getD (i * 16 + 1 + 1 + 1 + 1 + 1 + 1 + 1 + 1 + 1 + 1 + 1 + 1 + 1 + 1 + 1) none] fun o => ordO .f32 o o == some .eq) = true := by
      rw [blkO hx]
      exact List.all_eq_true.2 fun o ho => by rw [(hLm o (hmem o ho)).1]; rfl
    simp only [Int.ofNat_lt, hk, h2, h3, if_true, Int.toNat_natCast, bindO_ok, idx64 (show q < 9223372036854775808 by omega) hk, and_true, Int.natCast_nonneg, true_and, g0, g1, g2, g3, g4, g5, g6, g7, g8, g9, g10, g11, g12, g13, g14, g15, hc, hcF, flosOf_L, hZ2, ih (k - 1) (by omega) (i + 1) (by omega)]
    exact (if_pos hA).trans (if_pos (by omega))
  · simp only [Int.ofNat_lt, hk, if_false]

end Go.Abs
end

