/- Part 7 of the library that the proof of the statement uses: an abstract run of the program, proved right, and what its functions give. -/
import Derived.Test.YtaejnfdlolfpkaaGreatDoorStr6
set_option linter.unusedVariables false
set_option linter.unusedSimpArgs false

section
/- From a law's symbolic run to the call, where arguments may be structs of cells. -/
set_option linter.unusedVariables false
set_option linter.unusedSimpArgs false
namespace Go.Abs
open Go.Proofs Classical Go.RowKit
inductive ArgR : AV → Prop
 | cell {s : Sh} {x : AV} (h : ShR s x) : ArgR x
 | agg {ss : List Sh} {xs : List AV} (h : ShRs ss xs) : ArgR (.agg xs)
theorem normCell_self {H : Heap} {s : Sh} {x : AV} (h : ShR s x) : normCell H x = some (x, false) := by
 have hc := h.cell
 have hp := hc.pure
 cases hc <;> simp only [normCell] <;> rw [if_pos ⟨hp, fun cs e => by cases e⟩]
theorem normCells_self {H : Heap} : ∀ (ss : List Sh) (xs : List AV), ShRs ss xs → normCells H xs = some (xs, false) ∧ ∀ x ∈ xs, ArgOk1 x
 | ss, [], _ => ⟨rfl, fun x h => by cases h⟩
 | [], x :: xs, hx => by have := hx.1; simp at this
 | s :: ss, x :: xs, hx => by
  have h0 := hx.2 0 s x rfl rfl
  obtain ⟨i1, i2⟩ := normCells_self (H := H) ss xs ⟨by have := hx.1; simpa using this, fun j s x a b => hx.2 (j + 1) s x (by simpa using a) (by simpa using b)⟩
  refine ⟨by simp only [normCells, normCell_self h0, i1, Bool.or_self], fun y hy => ?_⟩
  rcases List.mem_cons.1 hy with rfl | hy
  ·have := h0.cell
   cases this <;> first | trivial | (rename_i h; exact h)
  ·exact i2 y hy
theorem ArgR.norm {H : Heap} {x : AV} (h : ArgR x) : normArg H x = some (x, false) ∧ ArgOk x := by
 cases h with
 | cell h => exact ⟨normArg_self h, h.arg⟩
 | agg h =>
  obtain ⟨a, b⟩ := normCells_self (H := H) _ _ h
  exact ⟨by simp only [normArg, a], b⟩
theorem law_ofA {l : List (FuncId × Ent)} (hl : TabLOk Tryz.prog l) {W : Ways} {N k : Nat} {g : FuncId} {xs : List AV} (hx : ∀ x ∈ xs, ArgR x)
  (h : (fsW l W N k).call (List RLeaf) g (xs.map symA) [] (resK [false]) = some [.v (.bool true)]) {w : World} {args : Array Value} (ha : VRels ⟨Old w, w.heap, id, 0⟩ xs args.toList) :
  Calls Tryz.prog g args w fun e w' => e = .returned (.bool true) ∧ Below w.heap.size w w' := by
 have hs : ∀ (xs : List AV), (∀ x ∈ xs, ArgR x) → normArgs Heap.empty xs = some (xs, false) ∧ ∀ x ∈ xs, ArgOk x := by
  intro xs
  induction xs with
  | nil => intro _; exact ⟨rfl, fun x h => by cases h⟩
  | cons x xs ih =>
   intro hx
   obtain ⟨i1, i2⟩ := ih fun y hy => hx y (List.mem_cons_of_mem _ hy)
   obtain ⟨j1, j2⟩ := (hx x List.mem_cons_self).norm (H := Heap.empty)
   refine ⟨by simp only [normArgs, j1, i1, Bool.or_self], fun y hy => ?_⟩
   rcases List.mem_cons.1 hy with rfl | hy
   ·exact j2
   ·exact i2 y hy
 obtain ⟨h1, h2⟩ := hs xs hx
 have hc := con_ofW hl h h2 trivial
 exact (hc Heap.empty xs false h1 (fun e => by cases e)).law ha
section
variable {H : Type} {enc : TypeId × Value → H} {P : Program} {w : World} {base : Nat} {spare : Nat → Bool} {held : Bool}
theorem open_argS {d : Nat} {t : TypeId} {ss : List Sh} {cs : Array Value} {y : DataW H} {ps : List MemPlace} (hs : shOf P d t = some ss) (h : DataW.Trod enc P w base spare held t (.agg cs) y ps) :
  ∃ xs : List AV, ShRs ss xs ∧ VRel ⟨Old w, w.heap, id, 0⟩ (.agg xs) (.agg cs) := by
 obtain ⟨fuel, hf⟩ := h
 have hv : (Value.agg cs).cells.toList = cs.toList := rfl
 rw [hv] at hf
 obtain ⟨xs, h1, h2⟩ := open_cells d fuel t ss _ _ hs hf
 refine ⟨xs, h1, .agg xs cs ?_ fun j x v a b => h2.2 j x v a (by simpa using b)⟩
 have := h2.1; simpa using this
end
end Go.Abs
end

section
/- Functions of the Acquire seat, lifted (printed by the tool gen.py). -/
set_option maxRecDepth 100000
set_option linter.unusedVariables false
namespace Go.Abs
open Go.Proofs Classical
theorem run_26 (N : Nat) (n : Nat) (cs : List AV) (b : Int) : (fsZ tzB N 6).call (List RLeaf) 26 [.ofB (.list n cs), .ofB (.int .i64 b)] [] (resK [false]) = (
 condO (shut (decide ((↑n : Int) ≤ b)))
 (
 some [RLeaf.v (AV.bool true)])
 (
 condO (shut (decide ((↑n : Int) > (4096 : Int))))
  (
  some [RLeaf.v (AV.bool (shut (decide ((↑n : Int) ≤ (4098 : Int)))))])
  (
  some [RLeaf.v (AV.bool false)]))) := by kernel_rfl
theorem run_64 (N : Nat) (n : Nat) (cs : List AV) : (fsZ tzB N 6).call (List RLeaf) 64 [.ofB (.list n cs)] [] (resK [false]) = (
 loopC N (fun r_0 (x0_0 : Nat) (x1_0 : List AV) (x2_0 : Int) =>
  condO (shut (decide (x2_0 < (↑x0_0 : Int))))
  (
  guardO (shut (decide ((0 : Int) ≤ x2_0 ∧ x2_0 < (↑x0_0 : Int) ∧ 0 < x1_0.length))) <|
  bindO (asFloat Go.FloatKind.f32 (x1_0.getD (x2_0.toNat * 1) AV.top)) fun v3 =>
  condO (shut (ordO Go.FloatKind.f32 v3 (Option.some 0) == Option.some Ordering.eq))
   (
   guardO (shut (decide ((0 : Int) ≤ x2_0 ∧ x2_0 < (↑x0_0 : Int) ∧ 0 < x1_0.length))) <|
   bindO (asFloat Go.FloatKind.f32 (x1_0.getD (x2_0.toNat * 1) AV.top)) fun v6 =>
   condO (shut (ordO Go.FloatKind.f32 (shut (arithO Go.BinOp.quo Go.FloatKind.f32 (Option.some 1065353216) v6)) (Option.some 0) == Option.some Ordering.lt))
   (
   some [RLeaf.v (AV.bool false)])
   (
   r_0 (x0_0) (x1_0) (shut (IntKind.i64.wrap (x2_0 + (1 : Int))))))
   (
   r_0 (x0_0) (x1_0) (shut (IntKind.i64.wrap (x2_0 + (1 : Int))))))
  (
  some [RLeaf.v (AV.bool true)]))
  (fun _ _ _ => none) (n) (cs) ((0 : Int))) := by kernel_rfl
theorem run_59 (N : Nat) (n : Nat) (cs : List AV) (m : Nat) (ds : List AV) : (fsZ tzB N 6).call (List RLeaf) 59 [.ofB (.list n cs), .ofB (.list m ds)] [] (resK [false]) = (
 condO (shut ((↑n : Int) != (↑m : Int)))
 (
 some [RLeaf.v (AV.bool false)])
 (
 loopC N (fun r_1 (x0_1 : Nat) (x1_1 : List AV) (x2_1 : Nat) (x3_1 : List AV) (x4_1 : Int) =>
  condO (shut (decide (x4_1 < (↑x0_1 : Int))))
   (
   guardO (shut (decide ((0 : Int) ≤ x4_1 ∧ x4_1 < (↑x0_1 : Int) ∧ 0 < x1_1.length))) <|
   bindO (asFloat Go.FloatKind.f32 (x1_1.getD (x4_1.toNat * 1) AV.top)) fun v4 =>
   guardO (shut (decide ((0 : Int) ≤ x4_1 ∧ x4_1 < (↑x2_1 : Int) ∧ 0 < x3_1.length))) <|
   bindO (asFloat Go.FloatKind.f32 (x3_1.getD (x4_1.toNat * 1) AV.top)) fun v6 =>
   condO (shut (ordO Go.FloatKind.f32 v4 v6 != Option.some Ordering.eq))
   (
   some [RLeaf.v (AV.bool false)])
   (
   r_1 (x0_1) (x1_1) (x2_1) (x3_1) (shut (IntKind.i64.wrap (x4_1 + (1 : Int))))))
   (
   some [RLeaf.v (AV.bool true)]))
  (fun _ _ _ _ _ => none) (n) (cs) (m) (ds) ((0 : Int)))) := by kernel_rfl
theorem run_97 (N : Nat) (o : Option Nat) : (fsZ tzB N 6).call (List RLeaf) 97 [.ofB (.flo .f32 o)] [] (resK [false]) = (
 condO (shut (ordO Go.FloatKind.f32 o (Option.some 0) == Option.some Ordering.eq))
 (
 some [RLeaf.v (AV.flo Go.FloatKind.f32 (Option.some 0))])
 (
 some [RLeaf.v (AV.flo Go.FloatKind.f32 o)])) := by kernel_rfl
theorem run_124 (N : Nat) (o : Option Nat) : (fsZ tzB N 6).call (List RLeaf) 124 [.ofB (.flo .f32 o)] [] (resK [false]) = (
 condO (shut (ordO Go.FloatKind.f32 o (Option.some 0) == Option.some Ordering.eq))
 (
 some [RLeaf.v (AV.flo Go.FloatKind.f32 (Option.some 0))])
 (
 some [RLeaf.v (AV.flo Go.FloatKind.f32 o)])) := by kernel_rfl
end Go.Abs
end

section
/- Samples without the sign of 0; lists of samples. -/
set_option linter.unusedVariables false
set_option linter.unusedSimpArgs false
namespace Go.Abs
open Go.Proofs Classical
theorem leaf_flo {k : FloatKind} {o : Option Nat} : LeafOk (.v (.flo k o)) := ⟨(Cell.flo k o).pure, (fun _ _ h => by cases h), (fun _ h => by cases h)⟩
noncomputable def clean1 (o : Option Nat) : Option Nat := if ordO .f32 o (some 0) = some .eq then some 0 else o
noncomputable def negz (o : Option Nat) : Bool := (ordO .f32 o (some 0) == some .eq) && (ordO .f32 (arithO .quo .f32 (some 1065353216) o) (some 0) == some .lt)
def flosL (xs : List (Option Nat)) : List AV := xs.map (AV.flo .f32)
def sameF (xs ys : List (Option Nat)) : Bool := (xs.length == ys.length) && (List.range xs.length).all fun i => ordO .f32 (xs.getD i none) (ys.getD i none) == some .eq
def shortN (n : Nat) (b : Int) : Bool := decide ((n : Int) ≤ b ∨ ((n : Int) > 4096 ∧ (n : Int) ≤ 4098))
theorem flosOf_L {xs : List (Option Nat)} : flosOf (flosL xs) = xs := by
 simp [flosOf, flosL, List.map_map, Function.comp_def, toF]
theorem flosL_len {xs : List (Option Nat)} : (flosL xs).length = xs.length := by simp [flosL]
theorem flosL_app {xs ys : List (Option Nat)} : flosL (xs ++ ys) = flosL xs ++ flosL ys := by simp [flosL]
theorem Flos_L {xs : List (Option Nat)} (h : xs.length < 9223372036854775808) : Flos xs.length (flosL xs) := ⟨h, by rw [flosOf_L]; rfl, flosL_len⟩
theorem flosL_plain {xs : List (Option Nat)} : ∀ c ∈ flosL xs, PlainC c := by
 intro c hc
 obtain ⟨z, _, rfl⟩ := List.mem_map.1 hc
 exact .flo _ _
theorem putF (o : Option Nat) : putCells (zrow (ofV (Go.Value.float Go.FloatKind.f32 0)).cells 1) 0 [AV.flo Go.FloatKind.f32 o] = [AV.flo .f32 o] := rfl
theorem condO_ord {R : Type} {a b : Option Nat} {c : Ordering} {x y : Option R} : condO (ordO .f32 a b == some c) x y = if ordO .f32 a b = some c then x else y := by
 by_cases h : ordO .f32 a b = some c
 ·rw [if_pos h, h, beq_self_eq_true]; rfl
 ·rw [if_neg h, beq_eq_false_iff_ne.mpr h]; rfl
theorem condO_ordne {R : Type} {a b : Option Nat} {c : Ordering} {x y : Option R} : condO (ordO .f32 a b != some c) x y = if ordO .f32 a b = some c then y else x := by
 have e : (ordO .f32 a b != some c) = !(ordO .f32 a b == some c) := rfl
 by_cases h : ordO .f32 a b = some c
 ·rw [if_pos h, e, h, beq_self_eq_true]; rfl
 ·rw [if_neg h, e, beq_eq_false_iff_ne.mpr h]; rfl
theorem run_26' {n : Nat} {cs : List AV} {b : Int} : (fsZ tzB 0 6).call (List RLeaf) 26 [.ofB (.list n cs), .ofB (.int .i64 b)] [] (resK [false]) = some [.v (.bool (shortN n b))] := by
 rw [run_26]
 simp only [shut_eq, condO_dec, shortN]
 by_cases h1 : (n : Int) ≤ b
 ·simp [h1]
 ·by_cases h2 : (n : Int) > 4096 <;> by_cases h3 : (n : Int) ≤ 4098 <;> simp [h1, h2, h3]
theorem run_64' {n : Nat} {cs : List AV} (h : Flos n cs) : (fsZ tzB (n + 1) 6).call (List RLeaf) 64 [.ofB (.list n cs)] [] (resK [false]) = some [.v (.bool ((flosOf cs).all fun o => !negz o))] := by
 rw [run_64]
 refine loopC_rule (fun k (r : Nat → List AV → Int → Option (List RLeaf)) => ∀ i : Nat, i + k = n → r n cs (i : Int) = some [RLeaf.v (.bool (((flosOf cs).drop i).all fun o => !negz o))]) ?_ (n + 1) n (by omega) 0 (by omega)
 intro k r ih i hi
 by_cases hk : i < n
 ·have h2 : 0 < cs.length := by rw [h.2.2]; omega
  rw [drop_cons (d := none) (show i < (flosOf cs).length by rw [h.len]; exact hk)]
  simp only [shut_eq, condO_dec, condO_ord, guardO_dec, Int.ofNat_lt, hk, h2, if_true, Int.toNat_natCast, Nat.mul_one, h.get hk, bindO_ok, idx64 h.1 hk, ih (k - 1) (by omega) (i + 1) (by omega), and_true, Int.natCast_nonneg, true_and, List.all_cons]
  generalize (flosOf cs).getD i none = v
  have e : negz v = ((ordO .f32 v (some 0) == some .eq) && (ordO .f32 (arithO .quo .f32 (some 1065353216) v) (some 0) == some .lt)) := rfl
  rw [e]
  by_cases hz : ordO .f32 v (some 0) = some .eq
  ·by_cases hz2 : ordO .f32 (arithO .quo .f32 (some 1065353216) v) (some 0) = some .lt <;> simp only [hz, hz2, if_true, if_false, beq_self_eq_true, Bool.true_and, Bool.not_true, Bool.false_and, beq_eq_false_iff_ne.mpr, ne_eq, not_false_eq_true, Bool.not_false]
  ·rw [if_neg hz, beq_eq_false_iff_ne.mpr hz]; rfl
 ·have h2 : (flosOf cs).drop i = [] := by rw [List.drop_eq_nil_iff, h.len]; omega
  simp only [shut_eq, condO_dec, Int.ofNat_lt, hk, h2, if_false, List.all_nil]
theorem range_all_drop {n i : Nat} {p : Nat → Bool} (h : i < n) : ((List.range n).drop i).all p = (p i && ((List.range n).drop (i + 1)).all p) := by
 rw [List.drop_eq_getElem_cons (by simpa using h)]; simp
theorem run_59' {n m : Nat} {cs ds : List AV} (h : Flos n cs) (h' : Flos m ds) : (fsZ tzB (n + 1) 6).call (List RLeaf) 59 [.ofB (.list n cs), .ofB (.list m ds)] [] (resK [false]) = some [.v (.bool (sameF (flosOf cs) (flosOf ds)))] := by
 rw [run_59]
 simp only [shut_eq, condO_bne, Int.ofNat_inj, sameF, h.len, h'.len]
 by_cases hnm : n = m
 ·subst hnm
  rw [if_pos rfl]
  refine loopC_rule (fun k (r : Nat → List AV → Nat → List AV → Int → Option (List RLeaf)) => ∀ i : Nat, i + k = n → r n cs n ds (i : Int) = some [RLeaf.v (.bool (((List.range n).drop i).all fun i => ordO .f32 ((flosOf cs).getD i none) ((flosOf ds).getD i none) == some .eq))]) ?_ (n + 1) n (by omega) 0 (by omega) |>.trans (by simp)
  intro k r ih i hi
  by_cases hk : i < n
  ·have h2 : 0 < cs.length := by rw [h.2.2]; omega
   have h3 : 0 < ds.length := by rw [h'.2.2]; omega
   rw [range_all_drop hk]
   simp only [shut_eq, condO_dec, condO_ordne, guardO_dec, Int.ofNat_lt, hk, h2, h3, if_true, Int.toNat_natCast, Nat.mul_one, h.get hk, h'.get hk, bindO_ok, idx64 h.1 hk, ih (k - 1) (by omega) (i + 1) (by omega), and_true, Int.natCast_nonneg, true_and]
   generalize (flosOf cs).getD i none = v
   generalize (flosOf ds).getD i none = u
   by_cases hz : ordO .f32 v u = some .eq
   ·rw [if_pos hz, hz]; simp
   ·rw [if_neg hz, beq_eq_false_iff_ne.mpr hz]; rfl
  ·have h2 : (List.range n).drop i = [] := by rw [List.drop_eq_nil_iff]; simp; omega
   simp only [shut_eq, condO_dec, Int.ofNat_lt, hk, h2, if_false, List.all_nil]
 ·rw [if_neg hnm]
  simp [hnm]
theorem run_97' {o : Option Nat} : (fsZ tzB 0 6).call (List RLeaf) 97 [.ofB (.flo .f32 o)] [] (resK [false]) = some [.v (.flo .f32 (clean1 o))] := by
 rw [run_97]
 simp only [shut_eq, condO_ord, clean1]
 split <;> rfl
theorem run_124' {o : Option Nat} : (fsZ tzB 0 6).call (List RLeaf) 124 [.ofB (.flo .f32 o)] [] (resK [false]) = some [.v (.flo .f32 (clean1 o))] := by
 rw [run_124]
 simp only [shut_eq, condO_ord, clean1]
 split <;> rfl
end Go.Abs
end

section
/- Entries: lists of samples (printed by mkent.py). -/
set_option linter.unusedVariables false
set_option linter.unusedSimpArgs false
namespace Go.Abs
open Go.Proofs Classical
noncomputable def eShortN : Ent := fun args' R K => match args' with
 | [.list n cs, .int .i64 b] => K [.v (.bool (shut (shortN n b)))]
 | _ => none
theorem eShortN_26 : EntOk Tryz.prog 26 eShortN := by
 intro args' R K r ha h
 unfold eShortN at h
 split at h
 ·rename_i n cs b
  refine ⟨[.v (.bool (shortN n b))], fun _ _ => by simp only [eShortN, shut_eq], ?_, con_of tzB_ok (N := 0) (k := 6) (ms := [false]) ?_ ha trivial⟩
  ·intro l hl; rcases List.mem_cons.1 hl with rfl | hl
   ·exact leaf_bool
   cases hl
  ·exact run_26'
 ·cases h
noncomputable def eCleanB : Ent := fun args' R K => match args' with
 | [.list n cs] => guardO (shut (decide (Flos n cs))) (K [.v (.bool (shut ((flosOf cs).all fun o => !negz o)))])
 | _ => none
theorem eCleanB_64 : EntOk Tryz.prog 64 eCleanB := by
 intro args' R K r ha h
 unfold eCleanB at h
 split at h
 ·rename_i n cs
  obtain ⟨h1, h2⟩ := guardO_some h
  rw [shut_eq] at h1
  have h1' := of_decide_eq_true h1
  refine ⟨[.v (.bool ((flosOf cs).all fun o => !negz o))], fun _ _ => by simp only [eCleanB, shut_eq, h1', decide_true, guardO, and_self], ?_, con_of tzB_ok (N := n + 1) (k := 6) (ms := [false]) ?_ ha trivial⟩
  ·intro l hl; rcases List.mem_cons.1 hl with rfl | hl
   ·exact leaf_bool
   cases hl
  ·exact run_64' h1'
 ·cases h
noncomputable def eSameF : Ent := fun args' R K => match args' with
 | [.list n cs, .list m ds] => guardO (shut (decide (Flos n cs ∧ Flos m ds))) (K [.v (.bool (shut (sameF (flosOf cs) (flosOf ds))))])
 | _ => none
theorem eSameF_59 : EntOk Tryz.prog 59 eSameF := by
 intro args' R K r ha h
 unfold eSameF at h
 split at h
 ·rename_i n cs m ds
  obtain ⟨h1, h2⟩ := guardO_some h
  rw [shut_eq] at h1
  have h1' := of_decide_eq_true h1
  refine ⟨[.v (.bool (sameF (flosOf cs) (flosOf ds)))], fun _ _ => by simp only [eSameF, shut_eq, h1', decide_true, guardO, and_self], ?_, con_of tzB_ok (N := n + 1) (k := 6) (ms := [false]) ?_ ha trivial⟩
  ·intro l hl; rcases List.mem_cons.1 hl with rfl | hl
   ·exact leaf_bool
   cases hl
  ·exact run_59' h1'.1 h1'.2
 ·cases h
noncomputable def eClean1 : Ent := fun args' R K => match args' with
 | [.flo .f32 o] => K [.v (.flo .f32 (shut (clean1 o)))]
 | _ => none
theorem eClean1_97 : EntOk Tryz.prog 97 eClean1 := by
 intro args' R K r ha h
 unfold eClean1 at h
 split at h
 ·rename_i o
  refine ⟨[.v (.flo .f32 (clean1 o))], fun _ _ => by simp only [eClean1, shut_eq], ?_, con_of tzB_ok (N := 0) (k := 6) (ms := [false]) ?_ ha trivial⟩
  ·intro l hl; rcases List.mem_cons.1 hl with rfl | hl
   ·exact leaf_flo
   cases hl
  ·exact run_97'
 ·cases h
theorem eClean1_124 : EntOk Tryz.prog 124 eClean1 := by
 intro args' R K r ha h
 unfold eClean1 at h
 split at h
 ·rename_i o
  refine ⟨[.v (.flo .f32 (clean1 o))], fun _ _ => by simp only [eClean1, shut_eq], ?_, con_of tzB_ok (N := 0) (k := 6) (ms := [false]) ?_ ha trivial⟩
  ·intro l hl; rcases List.mem_cons.1 hl with rfl | hl
   ·exact leaf_flo
   cases hl
  ·exact run_124'
 ·cases h
end Go.Abs
end

section
/- Ways of the loops of the acquisition machine. -/
set_option maxRecDepth 100000
namespace Go.Abs
open Go.Proofs Classical
noncomputable def tzm : List (FuncId × Ent) := (26, eShortN) :: (64, eCleanB) :: (59, eSameF) :: (97, eClean1) :: (124, eClean1) :: tzB
theorem tzm_ok : TabLOk Tryz.prog tzm := ⟨eShortN_26, eCleanB_64, eSameF_59, eClean1_97, eClean1_124, tzB_ok⟩
def rowAt (s : SSt) (t : Tmp) : Nat :=
 match s.tmps[t]? with
 | some (.s (.o (.b (.ptr r _)))) => r
 | _ => 0
def setCell (s : SSt) (r c : Nat) (x : S1) : SSt :=
 match s.rows[r]? with
 | some (some (.lit cs)) => { s with rows := s.rows.set r (some (.lit (cs.set c (.b x)))) }
 | _ => s
def isPtrAt (s : SSt) (r c : Nat) : Bool :=
 match s.rows[r]? with
 | some (some (.lit cs)) => (match cs[c]? with | some (.b (.ptr _ _)) => true | _ => false)
 | _ => false
def varyM (t : Tmp) (s : SSt) : Vary :=
 match doMv [.cell (rowAt s t) 8 5] s with
 | s1 => match isPtrAt s1 (rowAt s t) 9 with
  | true => ⟨[.cell (rowAt s t) 8 5], [setCell s1 (rowAt s t) 9 (.raw .nilptr), s1]⟩
  | false => ⟨[.cell (rowAt s t) 8 5], [s1, { setCell s1 (rowAt s t) 9 (.ptr s1.rows.length 0) with
    rows := (setCell s1 (rowAt s t) 9 (.ptr s1.rows.length 0)).rows ++
     [some (.lit [.b (.int .i64 0), .b (.int .i64 0), .b (.own (s1.rows.length + 1) 0 1), .b (.int .i64 0), .b (.int .i64 0)]), some (.vec false 0 1 0 [])] }]⟩
def varyR (t : Tmp) (s : SSt) : Vary :=
 match doMv [.cell (rowAt s t) 8 5] s with
 | s1 => match isPtrAt s1 (rowAt s t) 9 with
  | true => ⟨[.cell (rowAt s t) 8 5], [setCell s1 (rowAt s t) 9 (.raw .nilptr), s1]⟩
  | false => ⟨[.cell (rowAt s t) 8 5], [s1]⟩
def waysM : Ways where
 vary := fun g b => match Nat.beq g 106 with
  | true => (match Nat.beq b 0 with | true => some (varyM 0) | false => (match Nat.beq b 2 with | true => some (varyR 0) | false => none))
  | false => none
 unroll := fun g _ => match Nat.beq g 192 with
  | true => some (7, 5)
  | false => none
 join := [90, 91, 92, 93, 149, 154, 192, 193, 194, 195]
 picks := [4, 106]
 joins := []
 rjoins := []
 deeps := []
end Go.Abs
end

section
/- Functions around the acquisition machine, lifted (printed by the tool gen.py). -/
set_option maxRecDepth 100000
set_option linter.unusedVariables false
namespace Go.Abs
open Go.Proofs Classical
theorem run_18 (N : Nat) (pre post hold segs : Int) : (fsW tzm waysM N 6).call (List RLeaf) 18 [.s (.agg [.b (.int .i64 pre), .b (.int .i64 post), .b (.int .i64 hold), .b (.int .i64 segs)])] [] (resK [false]) = (
 guardO (shut (decide (Ints 4 (putCells (putCells (putCells (putCells (zrow (ofV (Go.Value.int IntKind.i64 (0 : Int))).cells 4) 0 [AV.int IntKind.i64 (shut (if pre < (0 : Int) ∨ pre > (1024 : Int) then (3 : Int) else (0 : Int)))]) 1 [AV.int IntKind.i64 (shut (if post < (1 : Int) ∨ post > (1024 : Int) then (3 : Int) else (0 : Int)))]) 2 [AV.int IntKind.i64 (shut (if hold < (0 : Int) ∨ hold > (4096 : Int) then (3 : Int) else (0 : Int)))]) 3 [AV.int IntKind.i64 (shut (if segs < (1 : Int) ∨ segs > (64 : Int) then (3 : Int) else (0 : Int)))])))) <|
 some [RLeaf.v (AV.int IntKind.i64 (shut (firstNZ (intsOf (putCells (putCells (putCells (putCells (zrow (ofV (Go.Value.int IntKind.i64 (0 : Int))).cells 4) 0 [AV.int IntKind.i64 (shut (if pre < (0 : Int) ∨ pre > (1024 : Int) then (3 : Int) else (0 : Int)))]) 1 [AV.int IntKind.i64 (shut (if post < (1 : Int) ∨ post > (1024 : Int) then (3 : Int) else (0 : Int)))]) 2 [AV.int IntKind.i64 (shut (if hold < (0 : Int) ∨ hold > (4096 : Int) then (3 : Int) else (0 : Int)))]) 3 [AV.int IntKind.i64 (shut (if segs < (1 : Int) ∨ segs > (64 : Int) then (3 : Int) else (0 : Int)))])))))]) := by kernel_rfl
theorem run_16 (N : Nat) (pre post hold segs : Int) : (fsW tzm waysM N 6).call (List RLeaf) 16 [.s (.agg [.b (.int .i64 pre), .b (.int .i64 post), .b (.int .i64 hold), .b (.int .i64 segs)])] [] (resK [false]) = (
 condO (shut (decide (pre < (0 : Int) ∨ pre > (1024 : Int))))
 (
 some [RLeaf.v (AV.int IntKind.i64 (3 : Int))])
 (
 condO (shut (decide (post < (1 : Int) ∨ post > (1024 : Int))))
  (
  some [RLeaf.v (AV.int IntKind.i64 (3 : Int))])
  (
  condO (shut (decide (hold < (0 : Int) ∨ hold > (4096 : Int))))
  (
  some [RLeaf.v (AV.int IntKind.i64 (3 : Int))])
  (
  condO (shut (decide (segs < (1 : Int) ∨ segs > (64 : Int))))
   (
   some [RLeaf.v (AV.int IntKind.i64 (3 : Int))])
   (
   some [RLeaf.v (AV.int IntKind.i64 (0 : Int))]))))) := by kernel_rfl
theorem run_105 (N : Nat) (n : Nat) (cs : List AV) (b : Int) : (fsW tzm waysM N 6).call (List RLeaf) 105 [.ofB (.list n cs), .ofB (.int .i64 b)] [] (resK [false]) = (
 condO (shut (decide ((↑n : Int) > (256 : Int))))
 (
 some [RLeaf.v (AV.int IntKind.i64 (5 : Int))])
 (
 loopC N (fun r_1 (x0_1 : Int) (x1_1 : Int) (x2_1 : Nat) (x3_1 : List AV) (x4_1 : Int) (x5_1 : Int) =>
  condO (shut (decide (x5_1 < x4_1)))
   (
   guardO (shut (decide ((0 : Int) ≤ x5_1 ∧ x5_1 < (↑x2_1 : Int) ∧ 0 < x3_1.length))) <|
   bindO (asInt IntKind.i64 (x3_1.getD (x5_1.toNat * 1) AV.top)) fun v4 =>
   guardO (shut (decide (Ints 2 (putCells (putCells (zrow (ofV (Go.Value.int IntKind.i64 (0 : Int))).cells 2) 0 [AV.int IntKind.i64 (shut (if v4 < (0 : Int) ∨ v4 > x0_1 then (3 : Int) else (0 : Int)))]) 1 [AV.int IntKind.i64 (shut (if shut (decide (v4 < x1_1)) = true then (11 : Int) else (0 : Int)))])))) <|
   condO (shut (shut (firstNZ (intsOf (putCells (putCells (zrow (ofV (Go.Value.int IntKind.i64 (0 : Int))).cells 2) 0 [AV.int IntKind.i64 (shut (if v4 < (0 : Int) ∨ v4 > x0_1 then (3 : Int) else (0 : Int)))]) 1 [AV.int IntKind.i64 (shut (if shut (decide (v4 < x1_1)) = true then (11 : Int) else (0 : Int)))]))) != (0 : Int)))
   (
   some [RLeaf.v (AV.int IntKind.i64 (shut (firstNZ (intsOf (putCells (putCells (zrow (ofV (Go.Value.int IntKind.i64 (0 : Int))).cells 2) 0 [AV.int IntKind.i64 (shut (if v4 < (0 : Int) ∨ v4 > x0_1 then (3 : Int) else (0 : Int)))]) 1 [AV.int IntKind.i64 (shut (if shut (decide (v4 < x1_1)) = true then (11 : Int) else (0 : Int)))])))))])
   (
   r_1 (x0_1) (v4) (x2_1) (x3_1) (x4_1) (shut (IntKind.i64.wrap (x5_1 + (1 : Int))))))
   (
   some [RLeaf.v (AV.int IntKind.i64 (0 : Int))]))
  (fun _ _ _ _ _ _ => none) (b) ((0 : Int)) (n) (cs) ((↑n : Int)) ((0 : Int)))) := by kernel_rfl
theorem run_38 (N : Nat) (n : Nat) (cs : List AV) (b : Int) : (fsW tzm waysM N 6).call (List RLeaf) 38 [.ofB (.list n cs), .ofB (.int .i64 b)] [] (resK [false]) = (
 condO (shut (decide ((↑n : Int) > (256 : Int))))
 (
 some [RLeaf.v (AV.int IntKind.i64 (5 : Int))])
 (
 loopC N (fun r_1 (x0_1 : Nat) (x1_1 : List AV) (x2_1 : Int) (x3_1 : Int) =>
  condO (shut (decide (x3_1 < (↑x0_1 : Int))))
   (
   guardO (shut (decide ((0 : Int) ≤ x3_1 ∧ x3_1 < (↑x0_1 : Int) ∧ 0 < x1_1.length))) <|
   bindO (asInt IntKind.i64 (x1_1.getD (x3_1.toNat * 1) AV.top)) fun v4 =>
   condO (shut (decide (v4 < (0 : Int) ∨ v4 > x2_1)))
   (
   some [RLeaf.v (AV.int IntKind.i64 (3 : Int))])
   (
   condO (shut (decide (x3_1 > (0 : Int))))
    (
    guardO (shut (decide ((0 : Int) ≤ x3_1 ∧ x3_1 < (↑x0_1 : Int) ∧ 0 < x1_1.length))) <|
    bindO (asInt IntKind.i64 (x1_1.getD (x3_1.toNat * 1) AV.top)) fun v8 =>
    guardO (shut (decide ((0 : Int) ≤ shut (IntKind.i64.wrap (x3_1 - (1 : Int))) ∧ shut (IntKind.i64.wrap (x3_1 - (1 : Int))) < (↑x0_1 : Int) ∧ 0 < x1_1.length))) <|
    bindO (asInt IntKind.i64 (x1_1.getD ((shut (IntKind.i64.wrap (x3_1 - (1 : Int)))).toNat * 1) AV.top)) fun v10 =>
    condO (shut (decide (v8 < v10)))
    (
    some [RLeaf.v (AV.int IntKind.i64 (11 : Int))])
    (
    r_1 (x0_1) (x1_1) (x2_1) (shut (IntKind.i64.wrap (x3_1 + (1 : Int))))))
    (
    r_1 (x0_1) (x1_1) (x2_1) (shut (IntKind.i64.wrap (x3_1 + (1 : Int)))))))
   (
   some [RLeaf.v (AV.int IntKind.i64 (0 : Int))]))
  (fun _ _ _ _ => none) (n) (cs) (b) ((0 : Int)))) := by kernel_rfl
theorem run_37 (N : Nat) (pre post hold segs : Int) : (fsW tzm waysM N 8).call (List RLeaf) 37 [.s (.agg [.b (.int .i64 pre), .b (.int .i64 post), .b (.int .i64 hold), .b (.int .i64 segs)])] [] (resK [false, false]) = (
 guardO (shut (decide (Ints 4 (putCells (putCells (putCells (putCells (zrow (ofV (Go.Value.int IntKind.i64 (0 : Int))).cells 4) 0 [AV.int IntKind.i64 (shut (if pre < (0 : Int) ∨ pre > (1024 : Int) then (3 : Int) else (0 : Int)))]) 1 [AV.int IntKind.i64 (shut (if post < (1 : Int) ∨ post > (1024 : Int) then (3 : Int) else (0 : Int)))]) 2 [AV.int IntKind.i64 (shut (if hold < (0 : Int) ∨ hold > (4096 : Int) then (3 : Int) else (0 : Int)))]) 3 [AV.int IntKind.i64 (shut (if segs < (1 : Int) ∨ segs > (64 : Int) then (3 : Int) else (0 : Int)))])))) <|
 condO (shut (shut (firstNZ (intsOf (putCells (putCells (putCells (putCells (zrow (ofV (Go.Value.int IntKind.i64 (0 : Int))).cells 4) 0 [AV.int IntKind.i64 (shut (if pre < (0 : Int) ∨ pre > (1024 : Int) then (3 : Int) else (0 : Int)))]) 1 [AV.int IntKind.i64 (shut (if post < (1 : Int) ∨ post > (1024 : Int) then (3 : Int) else (0 : Int)))]) 2 [AV.int IntKind.i64 (shut (if hold < (0 : Int) ∨ hold > (4096 : Int) then (3 : Int) else (0 : Int)))]) 3 [AV.int IntKind.i64 (shut (if segs < (1 : Int) ∨ segs > (64 : Int) then (3 : Int) else (0 : Int)))]))) != (0 : Int)))
 (
 some ([RLeaf.v (AV.int IntKind.i64 (0 : Int)), RLeaf.v (AV.int IntKind.i64 (shut (firstNZ (intsOf (putCells (putCells (putCells (putCells (zrow (ofV (Go.Value.int IntKind.i64 (0 : Int))).cells 4) 0 [AV.int IntKind.i64 (shut (if pre < (0 : Int) ∨ pre > (1024 : Int) then (3 : Int) else (0 : Int)))]) 1 [AV.int IntKind.i64 (shut (if post < (1 : Int) ∨ post > (1024 : Int) then (3 : Int) else (0 : Int)))]) 2 [AV.int IntKind.i64 (shut (if hold < (0 : Int) ∨ hold > (4096 : Int) then (3 : Int) else (0 : Int)))]) 3 [AV.int IntKind.i64 (shut (if segs < (1 : Int) ∨ segs > (64 : Int) then (3 : Int) else (0 : Int)))])))))]))
 (
 some ([RLeaf.v (AV.int IntKind.i64 (shut (IntKind.i64.wrap (post + shut (if hold > pre then hold else pre))))), RLeaf.v (AV.int IntKind.i64 (0 : Int))]))) := by kernel_rfl
theorem run_39 (N : Nat) (pre post hold segs : Int) : (fsW tzm waysM N 8).call (List RLeaf) 39 [.s (.agg [.b (.int .i64 pre), .b (.int .i64 post), .b (.int .i64 hold), .b (.int .i64 segs)])] [] (resK [false]) = (
 some ([RLeaf.v (AV.int IntKind.i64 (shut (IntKind.i64.wrap (post + shut (if hold > pre then hold else pre)))))])) := by kernel_rfl
theorem run_103 (N : Nat) (n : Nat) (cs : List AV) (a b : Int) : (fsW tzm waysM N 8).call (List RLeaf) 103 [.ofB (.list n cs), .ofB (.int .i64 a), .ofB (.int .i64 b)] [] (resK [false]) = (
 loopC N (fun r_0 (x0_0 : Nat) (x1_0 : List AV) (x2_0 : Int) (x3_0 : Int) (x4_0 : Int) =>
  condO (shut (decide (x4_0 < x2_0)))
  (
  guardO (shut (decide ((0 : Int) ≤ x4_0 ∧ x4_0 < (↑x0_0 : Int) ∧ 0 < x1_0.length))) <|
  bindO (asBool (x1_0.getD (x4_0.toNat * 1) AV.top)) fun v3 =>
  condO (v3)
   (
   r_0 (x0_0) (x1_0) (x2_0) (shut (IntKind.i64.wrap (x3_0 + (1 : Int)))) (shut (IntKind.i64.wrap (x4_0 + (1 : Int)))))
   (
   r_0 (x0_0) (x1_0) (x2_0) (x3_0) (shut (IntKind.i64.wrap (x4_0 + (1 : Int))))))
  (
  some ([RLeaf.v (AV.int IntKind.i64 x3_0)])))
  (fun _ _ _ _ _ => none) (n) (cs) (b) ((0 : Int)) (a)) := by kernel_rfl
theorem run_102 (N : Nat) (n : Nat) (cs : List AV) : (fsW tzm waysM N 8).call (List RLeaf) 102 [.ofB (.list n cs)] [] (resK [true]) = (
 loopC N (fun r_0 (x0_0 : Nat) (x1_0 : List AV) (x2_0 : Int) (x3_0 : Nat) (x4_0 : List AV) (x5_0 : Nat) (x6_0 : List AV) =>
  condO (shut (decide (x2_0 < (↑x0_0 : Int))))
  (
  guardO (shut (decide ((0 : Int) ≤ x2_0 ∧ x2_0 < (↑x0_0 : Int) ∧ 0 < x1_0.length))) <|
  bindO (asFloat Go.FloatKind.f32 (x1_0.getD (x2_0.toNat * 1) AV.top)) fun v3 =>
  guardO (shut (decide ((x5_0 + 1) * 5 ≤ 549755813888))) <|
  r_0 (x0_0) (x1_0) (shut (IntKind.i64.wrap (x2_0 + (1 : Int)))) (x3_0) (x4_0) (x5_0 + 1) (x6_0 ++ putCells (zrow (ofV (Go.Value.float Go.FloatKind.f32 0)).cells 1) 0 [AV.flo Go.FloatKind.f32 (shut (clean1 v3))]))
  (
  some ([RLeaf.fz x5_0 x6_0])))
  (fun _ _ _ _ _ _ _ => none) (n) (cs) ((0 : Int)) (0) ([]) (0) ([])) := by kernel_rfl
theorem run_34 (N : Nat) (n : Nat) (cs : List AV) : (fsW tzm waysM N 8).call (List RLeaf) 34 [.ofB (.list n cs)] [] (resK [false]) = (
 loopC N (fun r_0 (x0_0 : Nat) (x1_0 : List AV) (x2_0 : Int) =>
  condO (shut (decide (x2_0 < (↑x0_0 : Int))))
  (
  guardO (shut (decide ((0 : Int) ≤ x2_0 ∧ x2_0 < (↑x0_0 : Int) ∧ 0 < x1_0.length))) <|
  bindO (asList (x1_0.getD (x2_0.toNat * 5 + 2) AV.top)) fun v3 =>
  guardO (shut (decide (Flos v3.fst v3.snd))) <|
  condO (!shut ((flosOf v3.snd).all fun o => !negz o))
   (
   some ([RLeaf.v (AV.bool false)]))
   (
   r_0 (x0_0) (x1_0) (shut (IntKind.i64.wrap (x2_0 + (1 : Int))))))
  (
  some ([RLeaf.v (AV.bool true)])))
  (fun _ _ _ => none) (n) (cs) ((0 : Int))) := by kernel_rfl
theorem run_33 (N : Nat) (n : Nat) (cs : List AV) : (fsW tzm waysM N 8).call (List RLeaf) 33 [.ofB (.list n cs)] [] (resK [false]) = (
 loopC N (fun r_0 (x0_0 : Nat) (x1_0 : List AV) (x2_0 : Int) (x3_0 : Nat) (x4_0 : List AV) (x5_0 : Nat) (x6_0 : List AV) =>
  condO (shut (decide (x2_0 < (↑x0_0 : Int))))
  (
  guardO (shut (decide ((0 : Int) ≤ x2_0 ∧ x2_0 < (↑x0_0 : Int) ∧ 0 < x1_0.length))) <|
  guardO (shut (decide (x2_0.toNat * 5 + 5 ≤ x1_0.length))) <|
  bindO (asInt IntKind.i64 (x1_0.getD (x2_0.toNat * 5) AV.top)) fun v4 =>
  bindO (asInt IntKind.i64 (x1_0.getD (x2_0.toNat * 5 + 1) AV.top)) fun v5 =>
  bindO (asList (x1_0.getD (x2_0.toNat * 5 + 1 + 1) AV.top)) fun v6 =>
  bindO (asInt IntKind.i64 (x1_0.getD (x2_0.toNat * 5 + 1 + 1 + 1) AV.top)) fun v7 =>
  bindO (asInt IntKind.i64 (x1_0.getD (x2_0.toNat * 5 + 1 + 1 + 1 + 1) AV.top)) fun v8 =>
  guardO (shut (decide ((x5_0 + 1) * 57 ≤ 549755813888))) <|
  r_0 (x0_0) (x1_0) (shut (IntKind.i64.wrap (x2_0 + (1 : Int)))) (x3_0) (x4_0) (x5_0 + 1) (x6_0 ++ putCells (zrow (ofV (Go.Value.agg #[Go.Value.int IntKind.i64 (0 : Int), Go.Value.int IntKind.i64 (0 : Int), Go.Value.slice Option.none 0 0, Go.Value.int IntKind.i64 (0 : Int), Go.Value.int IntKind.i64 (0 : Int)])).cells 5) 0 [AV.int IntKind.i64 v4, AV.int IntKind.i64 v5, AV.list v6.fst v6.snd, AV.int IntKind.i64 v7, AV.int IntKind.i64 v8]))
  (
  some ([RLeaf.v (AV.list x5_0 x6_0)])))
  (fun _ _ _ _ _ _ _ => none) (n) (cs) ((0 : Int)) (0) ([]) (0) ([])) := by kernel_rfl
theorem run_32 (N : Nat) (n : Nat) (cs : List AV) (m : Nat) (ds : List AV) : (fsW tzm waysM N 8).call (List RLeaf) 32 [.ofB (.list n cs), .ofB (.list m ds)] [] (resK [false]) = (
 condO (shut ((↑n : Int) != (↑m : Int)))
 (
 some ([RLeaf.v (AV.bool false)]))
 (
 loopC N (fun r_1 (x0_1 : Nat) (x1_1 : List AV) (x2_1 : Nat) (x3_1 : List AV) (x4_1 : Int) =>
  condO (shut (decide (x4_1 < (↑x0_1 : Int))))
   (
   guardO (shut (decide ((0 : Int) ≤ x4_1 ∧ x4_1 < (↑x0_1 : Int) ∧ 0 < x1_1.length))) <|
   bindO (asInt IntKind.i64 (x1_1.getD (x4_1.toNat * 5 + 0) AV.top)) fun v4 =>
   guardO (shut (decide ((0 : Int) ≤ x4_1 ∧ x4_1 < (↑x2_1 : Int) ∧ 0 < x3_1.length))) <|
   bindO (asInt IntKind.i64 (x3_1.getD (x4_1.toNat * 5 + 0) AV.top)) fun v6 =>
   condO (shut (v4 != v6))
   (
   some ([RLeaf.v (AV.bool false)]))
   (
   guardO (shut (decide ((0 : Int) ≤ x4_1 ∧ x4_1 < (↑x0_1 : Int) ∧ 0 < x1_1.length))) <|
   bindO (asInt IntKind.i64 (x1_1.getD (x4_1.toNat * 5 + 1) AV.top)) fun v9 =>
   guardO (shut (decide ((0 : Int) ≤ x4_1 ∧ x4_1 < (↑x2_1 : Int) ∧ 0 < x3_1.length))) <|
   bindO (asInt IntKind.i64 (x3_1.getD (x4_1.toNat * 5 + 1) AV.top)) fun v11 =>
   condO (shut (v9 != v11))
    (
    some ([RLeaf.v (AV.bool false)]))
    (
    guardO (shut (decide ((0 : Int) ≤ x4_1 ∧ x4_1 < (↑x0_1 : Int) ∧ 0 < x1_1.length))) <|
    bindO (asInt IntKind.i64 (x1_1.getD (x4_1.toNat * 5 + 3) AV.top)) fun v14 =>
    guardO (shut (decide ((0 : Int) ≤ x4_1 ∧ x4_1 < (↑x2_1 : Int) ∧ 0 < x3_1.length))) <|
    bindO (asInt IntKind.i64 (x3_1.getD (x4_1.toNat * 5 + 3) AV.top)) fun v16 =>
    condO (shut (v14 != v16))
    (
    some ([RLeaf.v (AV.bool false)]))
    (
    guardO (shut (decide ((0 : Int) ≤ x4_1 ∧ x4_1 < (↑x0_1 : Int) ∧ 0 < x1_1.length))) <|
    bindO (asInt IntKind.i64 (x1_1.getD (x4_1.toNat * 5 + 4) AV.top)) fun v19 =>
    guardO (shut (decide ((0 : Int) ≤ x4_1 ∧ x4_1 < (↑x2_1 : Int) ∧ 0 < x3_1.length))) <|
    bindO (asInt IntKind.i64 (x3_1.getD (x4_1.toNat * 5 + 4) AV.top)) fun v21 =>
    condO (shut (v19 != v21))
     (
     some ([RLeaf.v (AV.bool false)]))
     (
     guardO (shut (decide ((0 : Int) ≤ x4_1 ∧ x4_1 < (↑x0_1 : Int) ∧ 0 < x1_1.length))) <|
     bindO (asList (x1_1.getD (x4_1.toNat * 5 + 2) AV.top)) fun v24 =>
     guardO (shut (decide ((0 : Int) ≤ x4_1 ∧ x4_1 < (↑x2_1 : Int) ∧ 0 < x3_1.length))) <|
     bindO (asList (x3_1.getD (x4_1.toNat * 5 + 2) AV.top)) fun v26 =>
     guardO (shut (decide (Flos v24.fst v24.snd ∧ Flos v26.fst v26.snd))) <|
     condO (!shut (sameF (flosOf v24.snd) (flosOf v26.snd)))
     (
     some ([RLeaf.v (AV.bool false)]))
     (
     r_1 (x0_1) (x1_1) (x2_1) (x3_1) (shut (IntKind.i64.wrap (x4_1 + (1 : Int))))))))))
   (
   some ([RLeaf.v (AV.bool true)])))
  (fun _ _ _ _ _ => none) (n) (cs) (m) (ds) ((0 : Int)))) := by kernel_rfl
theorem run_101 (N : Nat) (pre post hold segs : Int) (m : Nat) (fs : List AV) (q : Nat) (ar : List AV) (b : Int) : (fsW tzm waysM N 8).call (List RLeaf) 101 [.s (.agg [.b (.int .i64 pre), .b (.int .i64 post), .b (.int .i64 hold), .b (.int .i64 segs)]), .ofB (.list m fs), .ofB (.list q ar), .ofB (.int .i64 b)] [] (resK [true]) = (
 loopC N (fun r_0 (x0_0 : Nat) (x1_0 : List AV) (x2_0 : Nat) (x3_0 : List AV) (x4_0 : Int) (x5_0 : Int) (x6_0 : Int) (x7_0 : Int) (x8_0 : Int) (x9_0 : Int) (x10_0 : Int) (x11_0 : Nat) (x12_0 : List AV) (x13_0 : Nat) (x14_0 : List AV) =>
  condO (shut (decide (x6_0 ≤ (↑x2_0 : Int))))
  (
  condO (shut (decide (x6_0 > (0 : Int))))
   (
   guardO (shut (decide ((0 : Int) ≤ shut (IntKind.i64.wrap (x6_0 - (1 : Int))) ∧ shut (IntKind.i64.wrap (x6_0 - (1 : Int))) < (↑x2_0 : Int) ∧ 0 < x3_0.length))) <|
   bindO (asInt IntKind.i64 (x3_0.getD ((shut (IntKind.i64.wrap (x6_0 - (1 : Int)))).toNat * 1) AV.top)) fun v4 =>
   condO (shut (decide (x6_0 < (↑x2_0 : Int))))
   (
   guardO (shut (decide ((0 : Int) ≤ x6_0 ∧ x6_0 < (↑x2_0 : Int) ∧ 0 < x3_0.length))) <|
   bindO (asInt IntKind.i64 (x3_0.getD (x6_0.toNat * 1) AV.top)) fun v7 =>
   loopC N (fun r_8 (x0_8 : Nat) (x1_8 : List AV) (x2_8 : Nat) (x3_8 : List AV) (x4_8 : Int) (x5_8 : Int) (x6_8 : Int) (x7_8 : Int) (x8_8 : Int) (x9_8 : Int) (x10_8 : Int) (x11_8 : Int) (x12_8 : Int) (x13_8 : Int) (x14_8 : Int) (x15_8 : Nat) (x16_8 : List AV) (x17_8 : Nat) (x18_8 : List AV) =>
    condO (shut (decide (x10_8 < x7_8)))
     (
     guardO (shut (decide ((0 : Int) ≤ x10_8 ∧ x10_8 < (↑x0_8 : Int) ∧ 0 < x1_8.length))) <|
     bindO (asBool (x1_8.getD (x10_8.toNat * 1) AV.top)) fun v11 =>
     condO (!v11)
     (
     r_8 (x0_8) (x1_8) (x2_8) (x3_8) (x4_8) (x5_8) (x6_8) (x7_8) (x8_8) (x9_8) (shut (IntKind.i64.wrap (x10_8 + (1 : Int)))) (x11_8) (x12_8) (x13_8) (x14_8) (x15_8) (x16_8) (x17_8) (x18_8))
     (
     condO (shut (x5_8 == (64 : Int)))
      (
      r_8 (x0_8) (x1_8) (x2_8) (x3_8) (x4_8) (x5_8) (x6_8) (x7_8) (x8_8) (x9_8) (shut (IntKind.i64.wrap (x10_8 + (1 : Int)))) (x11_8) (x12_8) (x13_8) (x14_8) (x15_8) (x16_8) (x17_8) (x18_8))
      (
      condO (shut (x8_8 == x14_8))
      (
      r_8 (x0_8) (x1_8) (x2_8) (x3_8) (x4_8) (x5_8) (x6_8) (x7_8) (x8_8) (x9_8) (shut (IntKind.i64.wrap (x10_8 + (1 : Int)))) (x11_8) (x12_8) (x13_8) (x14_8) (x15_8) (x16_8) (x17_8) (x18_8))
      (
      condO (shut (decide (x10_8 < shut (IntKind.i64.wrap (x9_8 + x11_8)))))
       (
       r_8 (x0_8) (x1_8) (x2_8) (x3_8) (x4_8) (x5_8) (x6_8) (x7_8) (x8_8) (x9_8) (shut (IntKind.i64.wrap (x10_8 + (1 : Int)))) (x11_8) (x12_8) (x13_8) (x14_8) (x15_8) (x16_8) (x17_8) (x18_8))
       (
       condO (shut (decide (x8_8 > (0 : Int))))
       (
       condO (shut (decide (x10_8 < shut (IntKind.i64.wrap (x9_8 + x13_8)))))
        (
        r_8 (x0_8) (x1_8) (x2_8) (x3_8) (x4_8) (x5_8) (x6_8) (x7_8) (x8_8) (x9_8) (shut (IntKind.i64.wrap (x10_8 + (1 : Int)))) (x11_8) (x12_8) (x13_8) (x14_8) (x15_8) (x16_8) (x17_8) (x18_8))
        (
        condO (shut (decide (shut (IntKind.i64.wrap (x10_8 + x12_8)) > x7_8)))
        (
        guardO (shut (decide ((x17_8 + 1) * 17 ≤ 549755813888))) <|
        r_0 (x0_8) (x1_8) (x2_8) (x3_8) (x4_8) (x5_8) (shut (IntKind.i64.wrap (x6_8 + (1 : Int)))) (x11_8) (x12_8) (x13_8) (x14_8) (x15_8) (x16_8) (x17_8 + 1) (x18_8 ++ putCells (zrow (ofV (Go.Value.agg #[Go.Value.int IntKind.i64 (0 : Int), Go.Value.bool false])).cells 2) 0 [AV.int IntKind.i64 x10_8, AV.bool false]))
        (
        guardO (shut (decide ((x17_8 + 1) * 17 ≤ 549755813888))) <|
        r_8 (x0_8) (x1_8) (x2_8) (x3_8) (x4_8) (shut (IntKind.i64.wrap (x5_8 + (1 : Int)))) (x6_8) (x7_8) (shut (IntKind.i64.wrap (x8_8 + (1 : Int)))) (shut (IntKind.i64.wrap (x10_8 + x12_8))) (shut (IntKind.i64.wrap (shut (IntKind.i64.wrap (shut (IntKind.i64.wrap (x10_8 + x12_8)) - (1 : Int))) + (1 : Int)))) (x11_8) (x12_8) (x13_8) (x14_8) (x15_8) (x16_8) (x17_8 + 1) (x18_8 ++ putCells (zrow (ofV (Go.Value.agg #[Go.Value.int IntKind.i64 (0 : Int), Go.Value.bool false])).cells 2) 0 [AV.int IntKind.i64 x10_8, AV.bool true]))))
       (
       condO (shut (decide (shut (IntKind.i64.wrap (x10_8 + x12_8)) > x7_8)))
        (
        guardO (shut (decide ((x17_8 + 1) * 17 ≤ 549755813888))) <|
        r_0 (x0_8) (x1_8) (x2_8) (x3_8) (x4_8) (x5_8) (shut (IntKind.i64.wrap (x6_8 + (1 : Int)))) (x11_8) (x12_8) (x13_8) (x14_8) (x15_8) (x16_8) (x17_8 + 1) (x18_8 ++ putCells (zrow (ofV (Go.Value.agg #[Go.Value.int IntKind.i64 (0 : Int), Go.Value.bool false])).cells 2) 0 [AV.int IntKind.i64 x10_8, AV.bool false]))
        (
        guardO (shut (decide ((x17_8 + 1) * 17 ≤ 549755813888))) <|
        r_8 (x0_8) (x1_8) (x2_8) (x3_8) (x4_8) (shut (IntKind.i64.wrap (x5_8 + (1 : Int)))) (x6_8) (x7_8) (shut (IntKind.i64.wrap (x8_8 + (1 : Int)))) (shut (IntKind.i64.wrap (x10_8 + x12_8))) (shut (IntKind.i64.wrap (shut (IntKind.i64.wrap (shut (IntKind.i64.wrap (x10_8 + x12_8)) - (1 : Int))) + (1 : Int)))) (x11_8) (x12_8) (x13_8) (x14_8) (x15_8) (x16_8) (x17_8 + 1) (x18_8 ++ putCells (zrow (ofV (Go.Value.agg #[Go.Value.int IntKind.i64 (0 : Int), Go.Value.bool false])).cells 2) 0 [AV.int IntKind.i64 x10_8, AV.bool true]))))))))
     (
     r_0 (x0_8) (x1_8) (x2_8) (x3_8) (x4_8) (x5_8) (shut (IntKind.i64.wrap (x6_8 + (1 : Int)))) (x11_8) (x12_8) (x13_8) (x14_8) (x15_8) (x16_8) (x17_8) (x18_8)))
    (fun _ _ _ _ _ _ _ _ _ _ _ _ _ _ _ _ _ _ _ => none) (x0_0) (x1_0) (x2_0) (x3_0) (x4_0) (x5_0) (x6_0) (shut (if x4_0 < v7 then x4_0 else v7)) ((0 : Int)) (v4) (v4) (x7_0) (x8_0) (x9_0) (x10_0) (x11_0) (x12_0) (x13_0) (x14_0))
   (
   loopC N (fun r_6 (x0_6 : Nat) (x1_6 : List AV) (x2_6 : Nat) (x3_6 : List AV) (x4_6 : Int) (x5_6 : Int) (x6_6 : Int) (x7_6 : Int) (x8_6 : Int) (x9_6 : Int) (x10_6 : Int) (x11_6 : Int) (x12_6 : Int) (x13_6 : Int) (x14_6 : Int) (x15_6 : Nat) (x16_6 : List AV) (x17_6 : Nat) (x18_6 : List AV) =>
    condO (shut (decide (x10_6 < x7_6)))
     (
     guardO (shut (decide ((0 : Int) ≤ x10_6 ∧ x10_6 < (↑x0_6 : Int) ∧ 0 < x1_6.length))) <|
     bindO (asBool (x1_6.getD (x10_6.toNat * 1) AV.top)) fun v9 =>
     condO (!v9)
     (
     r_6 (x0_6) (x1_6) (x2_6) (x3_6) (x4_6) (x5_6) (x6_6) (x7_6) (x8_6) (x9_6) (shut (IntKind.i64.wrap (x10_6 + (1 : Int)))) (x11_6) (x12_6) (x13_6) (x14_6) (x15_6) (x16_6) (x17_6) (x18_6))
     (
     condO (shut (x5_6 == (64 : Int)))
      (
      r_6 (x0_6) (x1_6) (x2_6) (x3_6) (x4_6) (x5_6) (x6_6) (x7_6) (x8_6) (x9_6) (shut (IntKind.i64.wrap (x10_6 + (1 : Int)))) (x11_6) (x12_6) (x13_6) (x14_6) (x15_6) (x16_6) (x17_6) (x18_6))
      (
      condO (shut (x8_6 == x14_6))
      (
      r_6 (x0_6) (x1_6) (x2_6) (x3_6) (x4_6) (x5_6) (x6_6) (x7_6) (x8_6) (x9_6) (shut (IntKind.i64.wrap (x10_6 + (1 : Int)))) (x11_6) (x12_6) (x13_6) (x14_6) (x15_6) (x16_6) (x17_6) (x18_6))
      (
      condO (shut (decide (x10_6 < shut (IntKind.i64.wrap (x9_6 + x11_6)))))
       (
       r_6 (x0_6) (x1_6) (x2_6) (x3_6) (x4_6) (x5_6) (x6_6) (x7_6) (x8_6) (x9_6) (shut (IntKind.i64.wrap (x10_6 + (1 : Int)))) (x11_6) (x12_6) (x13_6) (x14_6) (x15_6) (x16_6) (x17_6) (x18_6))
       (
       condO (shut (decide (x8_6 > (0 : Int))))
       (
       condO (shut (decide (x10_6 < shut (IntKind.i64.wrap (x9_6 + x13_6)))))
        (
        r_6 (x0_6) (x1_6) (x2_6) (x3_6) (x4_6) (x5_6) (x6_6) (x7_6) (x8_6) (x9_6) (shut (IntKind.i64.wrap (x10_6 + (1 : Int)))) (x11_6) (x12_6) (x13_6) (x14_6) (x15_6) (x16_6) (x17_6) (x18_6))
        (
        condO (shut (decide (shut (IntKind.i64.wrap (x10_6 + x12_6)) > x7_6)))
        (
        guardO (shut (decide ((x17_6 + 1) * 17 ≤ 549755813888))) <|
        r_0 (x0_6) (x1_6) (x2_6) (x3_6) (x4_6) (x5_6) (shut (IntKind.i64.wrap (x6_6 + (1 : Int)))) (x11_6) (x12_6) (x13_6) (x14_6) (x15_6) (x16_6) (x17_6 + 1) (x18_6 ++ putCells (zrow (ofV (Go.Value.agg #[Go.Value.int IntKind.i64 (0 : Int), Go.Value.bool false])).cells 2) 0 [AV.int IntKind.i64 x10_6, AV.bool false]))
        (
        guardO (shut (decide ((x17_6 + 1) * 17 ≤ 549755813888))) <|
        r_6 (x0_6) (x1_6) (x2_6) (x3_6) (x4_6) (shut (IntKind.i64.wrap (x5_6 + (1 : Int)))) (x6_6) (x7_6) (shut (IntKind.i64.wrap (x8_6 + (1 : Int)))) (shut (IntKind.i64.wrap (x10_6 + x12_6))) (shut (IntKind.i64.wrap (shut (IntKind.i64.wrap (shut (IntKind.i64.wrap (x10_6 + x12_6)) - (1 : Int))) + (1 : Int)))) (x11_6) (x12_6) (x13_6) (x14_6) (x15_6) (x16_6) (x17_6 + 1) (x18_6 ++ putCells (zrow (ofV (Go.Value.agg #[Go.Value.int IntKind.i64 (0 : Int), Go.Value.bool false])).cells 2) 0 [AV.int IntKind.i64 x10_6, AV.bool true]))))
       (
       condO (shut (decide (shut (IntKind.i64.wrap (x10_6 + x12_6)) > x7_6)))
        (
        guardO (shut (decide ((x17_6 + 1) * 17 ≤ 549755813888))) <|
        r_0 (x0_6) (x1_6) (x2_6) (x3_6) (x4_6) (x5_6) (shut (IntKind.i64.wrap (x6_6 + (1 : Int)))) (x11_6) (x12_6) (x13_6) (x14_6) (x15_6) (x16_6) (x17_6 + 1) (x18_6 ++ putCells (zrow (ofV (Go.Value.agg #[Go.Value.int IntKind.i64 (0 : Int), Go.Value.bool false])).cells 2) 0 [AV.int IntKind.i64 x10_6, AV.bool false]))
        (
        guardO (shut (decide ((x17_6 + 1) * 17 ≤ 549755813888))) <|
        r_6 (x0_6) (x1_6) (x2_6) (x3_6) (x4_6) (shut (IntKind.i64.wrap (x5_6 + (1 : Int)))) (x6_6) (x7_6) (shut (IntKind.i64.wrap (x8_6 + (1 : Int)))) (shut (IntKind.i64.wrap (x10_6 + x12_6))) (shut (IntKind.i64.wrap (shut (IntKind.i64.wrap (shut (IntKind.i64.wrap (x10_6 + x12_6)) - (1 : Int))) + (1 : Int)))) (x11_6) (x12_6) (x13_6) (x14_6) (x15_6) (x16_6) (x17_6 + 1) (x18_6 ++ putCells (zrow (ofV (Go.Value.agg #[Go.Value.int IntKind.i64 (0 : Int), Go.Value.bool false])).cells 2) 0 [AV.int IntKind.i64 x10_6, AV.bool true]))))))))
     (
     r_0 (x0_6) (x1_6) (x2_6) (x3_6) (x4_6) (x5_6) (shut (IntKind.i64.wrap (x6_6 + (1 : Int)))) (x11_6) (x12_6) (x13_6) (x14_6) (x15_6) (x16_6) (x17_6) (x18_6)))
    (fun _ _ _ _ _ _ _ _ _ _ _ _ _ _ _ _ _ _ _ => none) (x0_0) (x1_0) (x2_0) (x3_0) (x4_0) (x5_0) (x6_0) (x4_0) ((0 : Int)) (v4) (v4) (x7_0) (x8_0) (x9_0) (x10_0) (x11_0) (x12_0) (x13_0) (x14_0)))
   (
   condO (shut (decide (x6_0 < (↑x2_0 : Int))))
   (
   guardO (shut (decide ((0 : Int) ≤ x6_0 ∧ x6_0 < (↑x2_0 : Int) ∧ 0 < x3_0.length))) <|
   bindO (asInt IntKind.i64 (x3_0.getD (x6_0.toNat * 1) AV.top)) fun v5 =>
   loopC N (fun r_6 (x0_6 : Nat) (x1_6 : List AV) (x2_6 : Nat) (x3_6 : List AV) (x4_6 : Int) (x5_6 : Int) (x6_6 : Int) (x7_6 : Int) (x8_6 : Int) (x9_6 : Int) (x10_6 : Int) (x11_6 : Int) (x12_6 : Int) (x13_6 : Int) (x14_6 : Int) (x15_6 : Nat) (x16_6 : List AV) (x17_6 : Nat) (x18_6 : List AV) =>
    condO (shut (decide (x10_6 < x7_6)))
     (
     guardO (shut (decide ((0 : Int) ≤ x10_6 ∧ x10_6 < (↑x0_6 : Int) ∧ 0 < x1_6.length))) <|
     bindO (asBool (x1_6.getD (x10_6.toNat * 1) AV.top)) fun v9 =>
     condO (!v9)
     (
     r_6 (x0_6) (x1_6) (x2_6) (x3_6) (x4_6) (x5_6) (x6_6) (x7_6) (x8_6) (x9_6) (shut (IntKind.i64.wrap (x10_6 + (1 : Int)))) (x11_6) (x12_6) (x13_6) (x14_6) (x15_6) (x16_6) (x17_6) (x18_6))
     (
     condO (shut (x5_6 == (64 : Int)))
      (
      r_6 (x0_6) (x1_6) (x2_6) (x3_6) (x4_6) (x5_6) (x6_6) (x7_6) (x8_6) (x9_6) (shut (IntKind.i64.wrap (x10_6 + (1 : Int)))) (x11_6) (x12_6) (x13_6) (x14_6) (x15_6) (x16_6) (x17_6) (x18_6))
      (
      condO (shut (x8_6 == x14_6))
      (
      r_6 (x0_6) (x1_6) (x2_6) (x3_6) (x4_6) (x5_6) (x6_6) (x7_6) (x8_6) (x9_6) (shut (IntKind.i64.wrap (x10_6 + (1 : Int)))) (x11_6) (x12_6) (x13_6) (x14_6) (x15_6) (x16_6) (x17_6) (x18_6))
      (
      condO (shut (decide (x10_6 < shut (IntKind.i64.wrap (x9_6 + x11_6)))))
       (
       r_6 (x0_6) (x1_6) (x2_6) (x3_6) (x4_6) (x5_6) (x6_6) (x7_6) (x8_6) (x9_6) (shut (IntKind.i64.wrap (x10_6 + (1 : Int)))) (x11_6) (x12_6) (x13_6) (x14_6) (x15_6) (x16_6) (x17_6) (x18_6))
       (
       condO (shut (decide (x8_6 > (0 : Int))))
       (
       condO (shut (decide (x10_6 < shut (IntKind.i64.wrap (x9_6 + x13_6)))))
        (
        r_6 (x0_6) (x1_6) (x2_6) (x3_6) (x4_6) (x5_6) (x6_6) (x7_6) (x8_6) (x9_6) (shut (IntKind.i64.wrap (x10_6 + (1 : Int)))) (x11_6) (x12_6) (x13_6) (x14_6) (x15_6) (x16_6) (x17_6) (x18_6))
        (
        condO (shut (decide (shut (IntKind.i64.wrap (x10_6 + x12_6)) > x7_6)))
        (
        guardO (shut (decide ((x17_6 + 1) * 17 ≤ 549755813888))) <|
        r_0 (x0_6) (x1_6) (x2_6) (x3_6) (x4_6) (x5_6) (shut (IntKind.i64.wrap (x6_6 + (1 : Int)))) (x11_6) (x12_6) (x13_6) (x14_6) (x15_6) (x16_6) (x17_6 + 1) (x18_6 ++ putCells (zrow (ofV (Go.Value.agg #[Go.Value.int IntKind.i64 (0 : Int), Go.Value.bool false])).cells 2) 0 [AV.int IntKind.i64 x10_6, AV.bool false]))
        (
        guardO (shut (decide ((x17_6 + 1) * 17 ≤ 549755813888))) <|
        r_6 (x0_6) (x1_6) (x2_6) (x3_6) (x4_6) (shut (IntKind.i64.wrap (x5_6 + (1 : Int)))) (x6_6) (x7_6) (shut (IntKind.i64.wrap (x8_6 + (1 : Int)))) (shut (IntKind.i64.wrap (x10_6 + x12_6))) (shut (IntKind.i64.wrap (shut (IntKind.i64.wrap (shut (IntKind.i64.wrap (x10_6 + x12_6)) - (1 : Int))) + (1 : Int)))) (x11_6) (x12_6) (x13_6) (x14_6) (x15_6) (x16_6) (x17_6 + 1) (x18_6 ++ putCells (zrow (ofV (Go.Value.agg #[Go.Value.int IntKind.i64 (0 : Int), Go.Value.bool false])).cells 2) 0 [AV.int IntKind.i64 x10_6, AV.bool true]))))
       (
       condO (shut (decide (shut (IntKind.i64.wrap (x10_6 + x12_6)) > x7_6)))
        (
        guardO (shut (decide ((x17_6 + 1) * 17 ≤ 549755813888))) <|
        r_0 (x0_6) (x1_6) (x2_6) (x3_6) (x4_6) (x5_6) (shut (IntKind.i64.wrap (x6_6 + (1 : Int)))) (x11_6) (x12_6) (x13_6) (x14_6) (x15_6) (x16_6) (x17_6 + 1) (x18_6 ++ putCells (zrow (ofV (Go.Value.agg #[Go.Value.int IntKind.i64 (0 : Int), Go.Value.bool false])).cells 2) 0 [AV.int IntKind.i64 x10_6, AV.bool false]))
        (
        guardO (shut (decide ((x17_6 + 1) * 17 ≤ 549755813888))) <|
        r_6 (x0_6) (x1_6) (x2_6) (x3_6) (x4_6) (shut (IntKind.i64.wrap (x5_6 + (1 : Int)))) (x6_6) (x7_6) (shut (IntKind.i64.wrap (x8_6 + (1 : Int)))) (shut (IntKind.i64.wrap (x10_6 + x12_6))) (shut (IntKind.i64.wrap (shut (IntKind.i64.wrap (shut (IntKind.i64.wrap (x10_6 + x12_6)) - (1 : Int))) + (1 : Int)))) (x11_6) (x12_6) (x13_6) (x14_6) (x15_6) (x16_6) (x17_6 + 1) (x18_6 ++ putCells (zrow (ofV (Go.Value.agg #[Go.Value.int IntKind.i64 (0 : Int), Go.Value.bool false])).cells 2) 0 [AV.int IntKind.i64 x10_6, AV.bool true]))))))))
     (
     r_0 (x0_6) (x1_6) (x2_6) (x3_6) (x4_6) (x5_6) (shut (IntKind.i64.wrap (x6_6 + (1 : Int)))) (x11_6) (x12_6) (x13_6) (x14_6) (x15_6) (x16_6) (x17_6) (x18_6)))
    (fun _ _ _ _ _ _ _ _ _ _ _ _ _ _ _ _ _ _ _ => none) (x0_0) (x1_0) (x2_0) (x3_0) (x4_0) (x5_0) (x6_0) (shut (if x4_0 < v5 then x4_0 else v5)) ((0 : Int)) ((0 : Int)) ((0 : Int)) (x7_0) (x8_0) (x9_0) (x10_0) (x11_0) (x12_0) (x13_0) (x14_0))
   (
   loopC N (fun r_4 (x0_4 : Nat) (x1_4 : List AV) (x2_4 : Nat) (x3_4 : List AV) (x4_4 : Int) (x5_4 : Int) (x6_4 : Int) (x7_4 : Int) (x8_4 : Int) (x9_4 : Int) (x10_4 : Int) (x11_4 : Int) (x12_4 : Int) (x13_4 : Int) (x14_4 : Int) (x15_4 : Nat) (x16_4 : List AV) (x17_4 : Nat) (x18_4 : List AV) =>
    condO (shut (decide (x10_4 < x7_4)))
     (
     guardO (shut (decide ((0 : Int) ≤ x10_4 ∧ x10_4 < (↑x0_4 : Int) ∧ 0 < x1_4.length))) <|
     bindO (asBool (x1_4.getD (x10_4.toNat * 1) AV.top)) fun v7 =>
     condO (!v7)
     (
     r_4 (x0_4) (x1_4) (x2_4) (x3_4) (x4_4) (x5_4) (x6_4) (x7_4) (x8_4) (x9_4) (shut (IntKind.i64.wrap (x10_4 + (1 : Int)))) (x11_4) (x12_4) (x13_4) (x14_4) (x15_4) (x16_4) (x17_4) (x18_4))
     (
     condO (shut (x5_4 == (64 : Int)))
      (
      r_4 (x0_4) (x1_4) (x2_4) (x3_4) (x4_4) (x5_4) (x6_4) (x7_4) (x8_4) (x9_4) (shut (IntKind.i64.wrap (x10_4 + (1 : Int)))) (x11_4) (x12_4) (x13_4) (x14_4) (x15_4) (x16_4) (x17_4) (x18_4))
      (
      condO (shut (x8_4 == x14_4))
      (
      r_4 (x0_4) (x1_4) (x2_4) (x3_4) (x4_4) (x5_4) (x6_4) (x7_4) (x8_4) (x9_4) (shut (IntKind.i64.wrap (x10_4 + (1 : Int)))) (x11_4) (x12_4) (x13_4) (x14_4) (x15_4) (x16_4) (x17_4) (x18_4))
      (
      condO (shut (decide (x10_4 < shut (IntKind.i64.wrap (x9_4 + x11_4)))))
       (
       r_4 (x0_4) (x1_4) (x2_4) (x3_4) (x4_4) (x5_4) (x6_4) (x7_4) (x8_4) (x9_4) (shut (IntKind.i64.wrap (x10_4 + (1 : Int)))) (x11_4) (x12_4) (x13_4) (x14_4) (x15_4) (x16_4) (x17_4) (x18_4))
       (
       condO (shut (decide (x8_4 > (0 : Int))))
       (
       condO (shut (decide (x10_4 < shut (IntKind.i64.wrap (x9_4 + x13_4)))))
        (
        r_4 (x0_4) (x1_4) (x2_4) (x3_4) (x4_4) (x5_4) (x6_4) (x7_4) (x8_4) (x9_4) (shut (IntKind.i64.wrap (x10_4 + (1 : Int)))) (x11_4) (x12_4) (x13_4) (x14_4) (x15_4) (x16_4) (x17_4) (x18_4))
        (
        condO (shut (decide (shut (IntKind.i64.wrap (x10_4 + x12_4)) > x7_4)))
        (
        guardO (shut (decide ((x17_4 + 1) * 17 ≤ 549755813888))) <|
        r_0 (x0_4) (x1_4) (x2_4) (x3_4) (x4_4) (x5_4) (shut (IntKind.i64.wrap (x6_4 + (1 : Int)))) (x11_4) (x12_4) (x13_4) (x14_4) (x15_4) (x16_4) (x17_4 + 1) (x18_4 ++ putCells (zrow (ofV (Go.Value.agg #[Go.Value.int IntKind.i64 (0 : Int), Go.Value.bool false])).cells 2) 0 [AV.int IntKind.i64 x10_4, AV.bool false]))
        (
        guardO (shut (decide ((x17_4 + 1) * 17 ≤ 549755813888))) <|
        r_4 (x0_4) (x1_4) (x2_4) (x3_4) (x4_4) (shut (IntKind.i64.wrap (x5_4 + (1 : Int)))) (x6_4) (x7_4) (shut (IntKind.i64.wrap (x8_4 + (1 : Int)))) (shut (IntKind.i64.wrap (x10_4 + x12_4))) (shut (IntKind.i64.wrap (shut (IntKind.i64.wrap (shut (IntKind.i64.wrap (x10_4 + x12_4)) - (1 : Int))) + (1 : Int)))) (x11_4) (x12_4) (x13_4) (x14_4) (x15_4) (x16_4) (x17_4 + 1) (x18_4 ++ putCells (zrow (ofV (Go.Value.agg #[Go.Value.int IntKind.i64 (0 : Int), Go.Value.bool false])).cells 2) 0 [AV.int IntKind.i64 x10_4, AV.bool true]))))
       (
       condO (shut (decide (shut (IntKind.i64.wrap (x10_4 + x12_4)) > x7_4)))
        (
        guardO (shut (decide ((x17_4 + 1) * 17 ≤ 549755813888))) <|
        r_0 (x0_4) (x1_4) (x2_4) (x3_4) (x4_4) (x5_4) (shut (IntKind.i64.wrap (x6_4 + (1 : Int)))) (x11_4) (x12_4) (x13_4) (x14_4) (x15_4) (x16_4) (x17_4 + 1) (x18_4 ++ putCells (zrow (ofV (Go.Value.agg #[Go.Value.int IntKind.i64 (0 : Int), Go.Value.bool false])).cells 2) 0 [AV.int IntKind.i64 x10_4, AV.bool false]))
        (
        guardO (shut (decide ((x17_4 + 1) * 17 ≤ 549755813888))) <|
        r_4 (x0_4) (x1_4) (x2_4) (x3_4) (x4_4) (shut (IntKind.i64.wrap (x5_4 + (1 : Int)))) (x6_4) (x7_4) (shut (IntKind.i64.wrap (x8_4 + (1 : Int)))) (shut (IntKind.i64.wrap (x10_4 + x12_4))) (shut (IntKind.i64.wrap (shut (IntKind.i64.wrap (shut (IntKind.i64.wrap (x10_4 + x12_4)) - (1 : Int))) + (1 : Int)))) (x11_4) (x12_4) (x13_4) (x14_4) (x15_4) (x16_4) (x17_4 + 1) (x18_4 ++ putCells (zrow (ofV (Go.Value.agg #[Go.Value.int IntKind.i64 (0 : Int), Go.Value.bool false])).cells 2) 0 [AV.int IntKind.i64 x10_4, AV.bool true]))))))))
     (
     r_0 (x0_4) (x1_4) (x2_4) (x3_4) (x4_4) (x5_4) (shut (IntKind.i64.wrap (x6_4 + (1 : Int)))) (x11_4) (x12_4) (x13_4) (x14_4) (x15_4) (x16_4) (x17_4) (x18_4)))
    (fun _ _ _ _ _ _ _ _ _ _ _ _ _ _ _ _ _ _ _ => none) (x0_0) (x1_0) (x2_0) (x3_0) (x4_0) (x5_0) (x6_0) (x4_0) ((0 : Int)) ((0 : Int)) ((0 : Int)) (x7_0) (x8_0) (x9_0) (x10_0) (x11_0) (x12_0) (x13_0) (x14_0))))
  (
  some ([RLeaf.fz x13_0 x14_0])))
  (fun _ _ _ _ _ _ _ _ _ _ _ _ _ _ _ => none) (m) (fs) (q) (ar) (b) ((0 : Int)) ((0 : Int)) (pre) (post) (hold) (segs) (0) ([]) (0) ([])) := by kernel_rfl
end Go.Abs
end

section
/- An acquisition machine and the shots of the reference, on lists. -/
namespace Go.Mach
structure SU where
 pre : Nat
 post : Nat
 hold : Nat
 lim : Nat
structure SegF (α : Type) where
 start : Nat
 trig : Nat
 smp : List α
 lost : Nat
 missed : Nat
structure MS (α : Type) where
 time : Nat
 trig : Nat
 seen : Nat
 segs : List (SegF α)
 opn : Option (SegF α)
 armed : Nat
 comp : Nat
 ring : List α
 out : List Nat
section
variable {α : Type} (z : α) (cl : α → α)
def endF (s : SegF α) : Nat := s.start + s.smp.length
def lastF : List (SegF α) → Nat
 | [] => 0
 | [s] => endF s
 | _ :: l => lastF l
def baseM (M : MS α) : Nat := if 0 < M.comp then lastF M.segs else M.armed
def accB (u : SU) (M : MS α) : Bool :=
 M.opn.isNone && (decide (M.comp < u.lim) && decide (M.segs.length < 64)) && decide (baseM M + u.pre ≤ M.time) && !(decide (0 < M.comp) && decide (M.time < lastF M.segs + u.hold))
def winM (u : SU) (M : MS α) : List α := M.ring.drop (M.time % u.pre) ++ M.ring.take (M.time % u.pre)
def begM (u : SU) (M : MS α) : SegF α := ⟨M.time - u.pre, M.time, winM u M, M.time - u.pre - lastF M.segs, M.trig - M.seen⟩
def opnM (u : SU) (x : α) (b : Bool) (M : MS α) : Option (SegF α) :=
 match b && accB u M with
 | true => some { begM u M with smp := winM u M ++ [cl x] }
 | false => match M.opn with
  | some s => some { s with smp := s.smp ++ [cl x] }
  | none => none
def outM (u : SU) (b : Bool) (M : MS α) : List Nat :=
 match b && accB u M with
 | true => M.out ++ [M.time]
 | false => M.out
def stepM (u : SU) (x : α) (b : Bool) (M : MS α) : MS α :=
 match opnM cl u x b M with
 | some s => match decide (s.smp.length = u.pre + u.post) with
  | true => ⟨M.time + 1, M.trig + b.toNat, M.seen + s.missed + 1, M.segs ++ [s], none, M.armed, M.comp + 1, M.ring.set (M.time % u.pre) (cl x), outM u b M⟩
  | false => ⟨M.time + 1, M.trig + b.toNat, M.seen, M.segs, some s, M.armed, M.comp, M.ring.set (M.time % u.pre) (cl x), outM u b M⟩
 | none => ⟨M.time + 1, M.trig + b.toNat, M.seen, M.segs, none, M.armed, M.comp, M.ring.set (M.time % u.pre) (cl x), outM u b M⟩
def rearmM (u : SU) (M : MS α) : MS α :=
 if 64 ≤ M.segs.length then M else { M with ring := List.replicate u.pre z, opn := none, comp := 0, armed := M.time }
def stepsM (u : SU) (os : List α) (tr : List Bool) : Nat → MS α → MS α
 | 0, M => M
 | k + 1, M => stepsM u os tr k (stepM cl u (os.getD M.time z) (tr.getD M.time false) M)
theorem stepM_time (u : SU) (x : α) (b : Bool) (M : MS α) : (stepM cl u x b M).time = M.time + 1 := by
 unfold stepM; split <;> (try split) <;> rfl
theorem stepsM_add (u : SU) (os : List α) (tr : List Bool) : ∀ (a b : Nat) (M : MS α), stepsM z cl u os tr (a + b) M = stepsM z cl u os tr b (stepsM z cl u os tr a M)
 | 0, b, M => by simp [stepsM]
 | a + 1, b, M => by rw [Nat.add_right_comm]; exact stepsM_add u os tr a b _
/-! The reference -/
def skipR (u : SU) (tr : List Bool) (t done whole e : Nat) : Bool :=
 !tr.getD t false || decide (whole = 64) || decide (done = u.lim) || decide (t < e + u.pre) || (decide (0 < done) && decide (t < e + u.hold))
def shotsIn (u : SU) (tr : List Bool) (to : Nat) : Nat → Nat → Nat → Nat → Nat → List (Nat × Bool) → List (Nat × Bool) × Nat
 | 0, _, _, whole, _, acc => (acc, whole)
 | k + 1, t, done, whole, e, acc =>
  if t < to then
   if skipR u tr t done whole e = true then shotsIn u tr to k (t + 1) done whole e acc
   else if t + u.post > to then (acc ++ [(t, false)], whole)
   else shotsIn u tr to k (t + u.post) (done + 1) (whole + 1) (t + u.post) (acc ++ [(t, true)])
  else (acc, whole)
def shotsArm (u : SU) (tr : List Bool) (n : Nat) : List Nat → Nat → Nat → List (Nat × Bool) → List (Nat × Bool)
 | [], fr, whole, acc => (shotsIn u tr n (n + 1) fr 0 whole fr acc).1
 | a :: ars, fr, whole, acc => shotsArm u tr n ars a (shotsIn u tr (min a n) (n + 1) fr 0 whole fr acc).2 (shotsIn u tr (min a n) (n + 1) fr 0 whole fr acc).1
def cntTo (tr : List Bool) : Nat → Nat
 | 0 => 0
 | n + 1 => cntTo tr n + (tr.getD n false).toNat
def cnt (tr : List Bool) (a b : Nat) : Nat := cntTo tr b - cntTo tr a
def wholes (l : List (Nat × Bool)) : List Nat := l.filterMap fun p => if p.2 then some p.1 else none
def segL (u : SU) (os : List α) (tr : List Bool) : Nat → Nat → List Nat → List (SegF α)
 | _, _, [] => []
 | e, a, t :: ts => ⟨t - u.pre, t, ((os.take (t + u.post)).drop (t - u.pre)).map cl, t - u.pre - e, cnt tr a t⟩ :: segL u os tr (t + u.post) (t + 1) ts
end
end Go.Mach
end

section
/- The acquisition machine and the reference's shots agree. -/
set_option linter.unusedVariables false
set_option linter.unusedSimpArgs false
namespace Go.Mach
section
variable {α : Type} {z : α} {cl : α → α} {u : SU} {os : List α} {tr : List Bool}
theorem cntTo_mono : ∀ {a b : Nat}, a ≤ b → cntTo tr a ≤ cntTo tr b := by
 intro a b h
 induction h with
 | refl => exact Nat.le_refl _
 | step _ ih => exact Nat.le_trans ih (Nat.le_add_right _ _)
theorem lastF_app {l : List (SegF α)} {s : SegF α} : lastF (l ++ [s]) = endF s := by
 induction l with
 | nil => rfl
 | cons a l ih =>
  cases l with
  | nil => rfl
  | cons b l => exact ih
def aftL : Nat → List Nat → Nat
 | a, [] => a
 | _, t :: ts => aftL (t + 1) ts
def endL (u : SU) : Nat → List Nat → Nat
 | e, [] => e
 | _, t :: ts => endL u (t + u.post) ts
theorem segL_app {T : List Nat} {t e a : Nat} : segL cl u os tr e a (T ++ [t]) = segL cl u os tr e a T ++ [⟨t - u.pre, t, ((os.take (t + u.post)).drop (t - u.pre)).map cl, t - u.pre - endL u e T, cnt tr (aftL a T) t⟩] := by
 induction T generalizing e a with
 | nil => rfl
 | cons x T ih => simp only [List.cons_append, segL, endL, aftL, ih]
theorem segL_len {T : List Nat} {e a : Nat} : (segL cl u os tr e a T).length = T.length := by
 induction T generalizing e a with
 | nil => rfl
 | cons x T ih => simp only [segL, List.length_cons, ih]
theorem aftL_app {T : List Nat} {a t : Nat} : aftL a (T ++ [t]) = t + 1 := by
 induction T generalizing a with
 | nil => rfl
 | cons x T ih => exact ih
theorem endL_app {T : List Nat} {e t : Nat} : endL u e (T ++ [t]) = t + u.post := by
 induction T generalizing e with
 | nil => rfl
 | cons x T ih => exact ih
theorem lastF_segL {T : List Nat} (h : ∀ t ∈ T, u.pre ≤ t ∧ t + u.post ≤ os.length) : lastF (segL cl u os tr 0 0 T) = endL u 0 T := by
 rcases List.eq_nil_or_concat T with rfl | ⟨L, t, rfl⟩
 ·rfl
 ·rw [List.concat_eq_append, segL_app, lastF_app, endL_app]
  obtain ⟨h1, h2⟩ := h t (by simp)
  simp only [endF, List.length_map, List.length_drop, List.length_take]
  omega
theorem mod_ne {s t p : Nat} (h1 : s < t) (h2 : t < s + p) : s % p ≠ t % p := by
 intro e
 have := Nat.sub_mod_eq_zero_of_mod_eq e.symm
 rw [Nat.mod_eq_of_lt (by omega)] at this
 omega
structure RingOk (z : α) (cl : α → α) (u : SU) (os : List α) (armed time : Nat) (ring : List α) : Prop where
 len : ring.length = u.pre
 val : ∀ s, armed ≤ s → s < time → time ≤ s + u.pre → ring.getD (s % u.pre) z = cl (os.getD s z)
theorem RingOk.step {a t : Nat} {ring : List α} (h : RingOk z cl u os a t ring) : RingOk z cl u os a (t + 1) (ring.set (t % u.pre) (cl (os.getD t z))) := by
 refine ⟨by rw [List.length_set]; exact h.len, fun s h1 h2 h3 => ?_⟩
 have hp : 0 < u.pre := by omega
 rw [List.getD_eq_getElem?_getD, List.getElem?_set]
 by_cases hs : s = t
 ·subst hs
  rw [if_pos rfl, if_pos (by rw [h.len]; exact Nat.mod_lt _ hp)]; rfl
 ·rw [if_neg (mod_ne (p := u.pre) (show s < t by omega) (by omega)).symm, ← List.getD_eq_getElem?_getD]
  exact h.val s h1 (by omega) (by omega)
theorem RingOk.win {a t : Nat} {ring : List α} (h : RingOk z cl u os a t ring) (h1 : a + u.pre ≤ t) (h2 : t ≤ os.length) :
  ring.drop (t % u.pre) ++ ring.take (t % u.pre) = ((os.take t).drop (t - u.pre)).map cl := by
 have hl := h.len
 by_cases hp : u.pre = 0
 ·have : ring = [] := List.eq_nil_of_length_eq_zero (by omega)
  subst this
  simp [hp]
 have hm : t % u.pre < u.pre := Nat.mod_lt _ (by omega)
 apply List.ext_getElem
 ·simp; omega
 ·intro j h3 h4
  have hj : j < u.pre := by simp at h4; omega
  have key := h.val (t - u.pre + j) (by omega) (by omega) (by omega)
  have e1 : (t - u.pre + j) % u.pre = (t % u.pre + j) % u.pre := by
   have e0 : (t - u.pre) % u.pre = t % u.pre := by
    rw [← Nat.add_mod_right (t - u.pre) u.pre]; congr 1; omega
   rw [Nat.add_mod, e0, ← Nat.add_mod, Nat.mod_add_mod] 
  rw [e1] at key
  have e2 : (((os.take t).drop (t - u.pre)).map cl)[j] = cl (os.getD (t - u.pre + j) z) := by
   simp [List.getD, show t - u.pre + j < os.length by omega]
  rw [e2, ← key]
  by_cases hlt : t % u.pre + j < u.pre
  ·rw [Nat.mod_eq_of_lt hlt, List.getElem_append_left (by simp; omega)]
   simp [List.getD, show t % u.pre + j < ring.length by omega]
  ·have e3 : (t % u.pre + j) % u.pre = t % u.pre + j - u.pre := by
    rw [Nat.mod_eq_sub_mod (by omega), Nat.mod_eq_of_lt (by omega)]
   rw [e3, List.getElem_append_right (by simp; omega)]
   have e4 : j - (ring.drop (t % u.pre)).length = t % u.pre + j - u.pre := by simp; omega
   simp only [e4, List.getElem_take]
   simp [List.getD, show t % u.pre + j - u.pre < ring.length by omega]
end
end Go.Mach
end

section
/- The machine's steps. -/
set_option linter.unusedVariables false
set_option linter.unusedSimpArgs false
namespace Go.Mach
section
variable {α : Type} {z : α} {cl : α → α} {u : SU} {os : List α} {tr : List Bool}
structure Inv (z : α) (cl : α → α) (u : SU) (os : List α) (tr : List Bool) (M : MS α) (T : List Nat) : Prop where
 segs : M.segs = segL cl u os tr 0 0 T
 seen : M.seen = cntTo tr (aftL 0 T)
 trig : M.trig = cntTo tr M.time
 aft : aftL 0 T ≤ M.time
 inT : ∀ t ∈ T, u.pre ≤ t ∧ t + u.post ≤ os.length
 ring : RingOk z cl u os M.armed M.time M.ring
 lastle : endL u 0 T ≤ M.time
 arm0 : M.comp = 0 → endL u 0 T ≤ M.armed
 arm1 : 0 < M.comp → M.armed ≤ endL u 0 T
 arm : M.armed ≤ M.time
theorem Inv.last {M : MS α} {T : List Nat} (h : Inv z cl u os tr M T) : lastF M.segs = endL u 0 T := by
 rw [h.segs]; exact lastF_segL h.inT
theorem idle {M : MS α} {T : List Nat} (h : Inv z cl u os tr M T) (ho : M.opn = none) (hb : (tr.getD M.time false && accB u M) = false) :
  ∃ M', stepM cl u (os.getD M.time z) (tr.getD M.time false) M = M' ∧ Inv z cl u os tr M' T ∧ M'.time = M.time + 1 ∧ M'.opn = none ∧ M'.comp = M.comp ∧ M'.armed = M.armed ∧ M'.out = M.out ∧ M'.segs = M.segs := by
 refine ⟨_, rfl, ?_⟩
 have e : opnM cl u (os.getD M.time z) (tr.getD M.time false) M = none := by
  unfold opnM; rw [hb, ho]
 have e2 : outM u (tr.getD M.time false) M = M.out := by unfold outM; rw [hb]
 unfold stepM
 rw [e, e2]
 refine ⟨⟨h.segs, h.seen, ?_, Nat.le_succ_of_le h.aft, h.inT, h.ring.step, Nat.le_succ_of_le h.lastle, h.arm0, h.arm1, Nat.le_succ_of_le h.arm⟩, rfl, rfl, rfl, rfl, rfl, rfl⟩
 show M.trig + _ = cntTo tr (M.time + 1)
 rw [h.trig]; rfl
def segAtI (cl : α → α) (u : SU) (os : List α) (tr : List Bool) (T : List Nat) (t i : Nat) : SegF α :=
 ⟨t - u.pre, t, ((os.take (t + i)).drop (t - u.pre)).map cl, t - u.pre - endL u 0 T, cnt tr (aftL 0 T) t⟩
theorem segAtI_len {T : List Nat} {t i : Nat} (h1 : u.pre ≤ t) (h2 : t + i ≤ os.length) : (segAtI cl u os tr T t i).smp.length = u.pre + i := by
 simp [segAtI]; omega
theorem segAtI_next {T : List Nat} {t i : Nat} (h1 : u.pre ≤ t) (h2 : t + i < os.length) : { segAtI cl u os tr T t i with smp := (segAtI cl u os tr T t i).smp ++ [cl (os.getD (t + i) z)] } = segAtI cl u os tr T t (i + 1) := by
 simp only [segAtI, SegF.mk.injEq, true_and, and_true]
 rw [← List.map_singleton (f := cl), ← List.map_append]
 congr 1
 rw [← Nat.add_assoc, List.take_add_one, List.getElem?_eq_getElem h2, List.drop_append_of_le_length (by simp; omega)]
 simp [List.getD, h2]
structure Behind (z : α) (cl : α → α) (u : SU) (os : List α) (tr : List Bool) (M : MS α) (T : List Nat) (t i : Nat) (M' : MS α) : Prop where
 time : M'.time = t + i
 trig : M'.trig = cntTo tr (t + i)
 out : M'.out = M.out ++ [t]
 ring : RingOk z cl u os M.armed (t + i) M'.ring
 armed : M'.armed = M.armed
 opn : i < u.post → M'.opn = some (segAtI cl u os tr T t i) ∧ M'.segs = M.segs ∧ M'.seen = M.seen ∧ M'.comp = M.comp
 shut : i = u.post → M'.opn = none ∧ M'.segs = M.segs ++ [segAtI cl u os tr T t u.post] ∧ M'.seen = cntTo tr (t + 1) ∧ M'.comp = M.comp + 1
theorem accB_open {M : MS α} {s : SegF α} (h : M.opn = some s) : accB u M = false := by simp [accB, h]
theorem behind {M : MS α} {T : List Nat} (h : Inv z cl u os tr M T) (ha : (tr.getD M.time false && accB u M) = true) : ∀ i, i + 1 ≤ u.post → M.time + (i + 1) ≤ os.length → Behind z cl u os tr M T M.time (i + 1) (stepsM z cl u os tr (i + 1) M) := by
 have hb : tr.getD M.time false = true ∧ accB u M = true := by simpa using ha
 obtain ⟨hb1, hb2⟩ := hb
 have hacc := hb2
 unfold accB at hacc
 simp only [Bool.and_eq_true, decide_eq_true_eq, Option.isNone_iff_eq_none] at hacc
 obtain ⟨⟨⟨a1, a2, a3⟩, a4⟩, a5⟩ := hacc
 have hbase : endL u 0 T + u.pre ≤ M.time ∧ M.armed + u.pre ≤ M.time := by
  unfold baseM at a4
  have hl := h.last
  by_cases hc : 0 < M.comp
  ·rw [if_pos hc, hl] at a4
   have := h.arm1 hc
   omega
  ·rw [if_neg hc] at a4
   have := h.arm0 (by omega)
   omega
 have hmono := cntTo_mono (tr := tr) h.aft
 have hcnt : cntTo tr (M.time + 1) = cntTo tr M.time + 1 := by show cntTo tr M.time + (tr.getD M.time false).toNat = _; rw [hb1]; rfl
 have hseen : M.seen + cnt tr (aftL 0 T) M.time + 1 = cntTo tr (M.time + 1) := by
  rw [h.seen, hcnt]; unfold cnt; omega
 have hmiss : M.trig - M.seen = cnt tr (aftL 0 T) M.time := by rw [h.trig, h.seen]; rfl
 intro i
 induction i with
 | zero =>
  intro hi hle
  have e1 : opnM cl u (os.getD M.time z) (tr.getD M.time false) M = some (segAtI cl u os tr T M.time 1) := by
   unfold opnM
   rw [ha]
   simp only
   have hw : winM u M = ((os.take M.time).drop (M.time - u.pre)).map cl := h.ring.win hbase.2 (by omega)
   have := segAtI_next (z := z) (cl := cl) (u := u) (os := os) (tr := tr) (T := T) (t := M.time) (i := 0) (by omega) (by omega)
   rw [← this]
   simp only [begM, segAtI, Nat.add_zero, hw, h.last, hmiss]
  have e2 : outM u (tr.getD M.time false) M = M.out ++ [M.time] := by unfold outM; rw [ha]
  have hlen : (segAtI cl u os tr T M.time 1).smp.length = u.pre + 1 := segAtI_len (by omega) (by omega)
  show Behind z cl u os tr M T M.time 1 (stepM cl u (os.getD M.time z) (tr.getD M.time false) M)
  unfold stepM
  rw [e1, e2]
  simp only [hlen]
  by_cases hp : u.pre + 1 = u.pre + u.post
  ·have hp1 : u.post = 1 := by omega
   rw [decide_eq_true hp]
   refine ⟨rfl, ?_, rfl, h.ring.step, rfl, fun hlt => by omega, fun _ => ⟨rfl, by rw [hp1], ?_, rfl⟩⟩
   ·show M.trig + _ = _; rw [h.trig]; rfl
   ·exact hseen
  ·rw [decide_eq_false hp]
   refine ⟨rfl, ?_, rfl, h.ring.step, rfl, fun hlt => ⟨rfl, rfl, rfl, rfl⟩, fun he => by omega⟩
   show M.trig + _ = _; rw [h.trig]; rfl
 | succ i ih =>
  intro hi hle
  have hB := ih (by omega) (by omega)
  rw [stepsM_add z cl u os tr (i + 1) 1 M]
  generalize stepsM z cl u os tr (i + 1) M = M1 at hB
  obtain ⟨o1, o2, o3, o4⟩ := hB.opn (by omega)
  show Behind z cl u os tr M T M.time (i + 1 + 1) (stepM cl u (os.getD M1.time z) (tr.getD M1.time false) M1)
  have e1 : opnM cl u (os.getD M1.time z) (tr.getD M1.time false) M1 = some (segAtI cl u os tr T M.time (i + 1 + 1)) := by
   unfold opnM
   rw [accB_open o1, Bool.and_false]
   simp only [o1, hB.time]
   rw [segAtI_next (by omega) (by omega)]
  have e2 : outM u (tr.getD M1.time false) M1 = M1.out := by unfold outM; rw [accB_open o1, Bool.and_false]
  have hlen : (segAtI cl u os tr T M.time (i + 1 + 1)).smp.length = u.pre + (i + 1 + 1) := segAtI_len (by omega) (by omega)
  have ht : M1.trig + (tr.getD M1.time false).toNat = cntTo tr (M.time + (i + 1 + 1)) := by
   rw [hB.trig, hB.time]; rfl
  have hr : RingOk z cl u os M.armed (M.time + (i + 1 + 1)) (M1.ring.set (M1.time % u.pre) (cl (os.getD M1.time z))) := by
   rw [hB.time]; exact hB.ring.step
  unfold stepM
  rw [e1, e2]
  simp only [hlen]
  by_cases hp : u.pre + (i + 1 + 1) = u.pre + u.post
  ·have hp1 : u.post = i + 1 + 1 := by omega
   rw [decide_eq_true hp]
   refine ⟨by show M1.time + 1 = _; rw [hB.time]; rfl, ht, hB.out, hr, hB.armed, fun hlt => by omega, fun _ => ⟨rfl, by show M1.segs ++ _ = _; rw [o2, hp1], ?_, by show M1.comp + 1 = _; rw [o4]⟩⟩
   show M1.seen + cnt tr (aftL 0 T) M.time + 1 = _
   rw [o3]; exact hseen
  ·rw [decide_eq_false hp]
   exact ⟨by show M1.time + 1 = _; rw [hB.time]; rfl, ht, hB.out, hr, hB.armed, fun hlt => ⟨rfl, o2, o3, o4⟩, fun he => by omega⟩
end
end Go.Mach
end

section
/- The machine's run and the reference's shots. -/
set_option linter.unusedVariables false
set_option linter.unusedSimpArgs false
namespace Go.Mach
section
variable {α : Type} {z : α} {cl : α → α} {u : SU} {os : List α} {tr : List Bool}
structure At (z : α) (cl : α → α) (u : SU) (os : List α) (tr : List Bool) (M : MS α) (T : List Nat) (acc : List (Nat × Bool)) (whole done e : Nat) : Prop where
 inv : Inv z cl u os tr M T
 opn : M.opn = none
 accT : wholes acc = T
 wholeT : whole = T.length
 most : whole ≤ 64
 out : M.out = acc.map (·.1)
 st : whole = 64 ∨ (M.comp = done ∧ done ≤ u.lim ∧ (0 < done → e = endL u 0 T) ∧ (done = 0 → e = M.armed))
theorem wholes_app {l : List (Nat × Bool)} {t : Nat} {b : Bool} : wholes (l ++ [(t, b)]) = wholes l ++ (if b = true then [t] else []) := by
 cases b <;> simp [wholes]
theorem acc_skip {M : MS α} {T : List Nat} {acc : List (Nat × Bool)} {whole done e : Nat} (h : At z cl u os tr M T acc whole done e) : (tr.getD M.time false && accB u M) = !skipR u tr M.time done whole e := by
 have hl : M.segs.length = whole := by rw [h.inv.segs, segL_len, h.wholeT]
 by_cases hw : whole = 64
 ·have e1 : accB u M = false := by
   unfold accB; rw [hl, hw]; simp
  have e2 : skipR u tr M.time done whole e = true := by unfold skipR; rw [hw]; simp
  rw [e1, e2]; simp
 obtain ⟨c1, c2, c3, c4⟩ := h.st.resolve_left hw
 have hm := h.most
 have hlast := h.inv.last
 have hb : baseM M = e := by
  unfold baseM
  by_cases hc : 0 < M.comp
  ·rw [if_pos hc, hlast, c3 (by omega)]
  ·rw [if_neg hc, c4 (by omega)]
 unfold accB skipR
 rw [hb, h.opn, hl, c1]
 have d1 : decide (done < u.lim) = !decide (done = u.lim) := by
  by_cases hd : done = u.lim
  ·simp [hd]
  ·simp [hd]; omega
 have d2 : decide (whole < 64) = true := by simp; omega
 have d3 : decide (whole = 64) = false := by simp [hw]
 have d4 : decide (e + u.pre ≤ M.time) = !decide (M.time < e + u.pre) := by
  by_cases hd : M.time < e + u.pre
  ·simp [hd]
  ·simp [hd]; omega
 have d5 : (decide (0 < done) && decide (M.time < lastF M.segs + u.hold)) = (decide (0 < done) && decide (M.time < e + u.hold)) := by
  by_cases hd : 0 < done
  ·rw [hlast, c3 hd]
  ·simp [hd]
 rw [d1, d2, d3, d4, d5]
 cases tr.getD M.time false <;> cases decide (done = u.lim) <;> cases decide (M.time < e + u.pre) <;> cases (decide (0 < done) && decide (M.time < e + u.hold)) <;> rfl
structure Ended (z : α) (cl : α → α) (u : SU) (os : List α) (tr : List Bool) (to armed : Nat) (M : MS α) (acc : List (Nat × Bool)) (whole : Nat) : Prop where
 time : M.time = to
 inv : Inv z cl u os tr M (wholes acc)
 wholeT : whole = (wholes acc).length
 most : whole ≤ 64
 out : M.out = acc.map (·.1)
 armedT : M.armed = armed
 opnT : (∃ done e, At z cl u os tr M (wholes acc) acc whole done e) ∨ (whole < 64 ∧ ∃ t0 acc0, acc = acc0 ++ [(t0, false)] ∧ t0 < to ∧ to < t0 + u.post ∧ u.pre ≤ t0 ∧ M.opn = some (segAtI cl u os tr (wholes acc) t0 (to - t0)) ∧ ∃ done e, M.comp = done ∧ At z cl u os tr { M with opn := none, out := acc0.map (·.1) } (wholes acc) acc0 whole done e)
theorem shotsIn_ok (hpost : 1 ≤ u.post) {to : Nat} (hto : to ≤ os.length) : ∀ (k t done whole e : Nat) (acc : List (Nat × Bool)) (M : MS α), At z cl u os tr M (wholes acc) acc whole done e → M.time = t → t ≤ to → to < t + k →
  Ended z cl u os tr to M.armed (stepsM z cl u os tr (to - t) M) (shotsIn u tr to k t done whole e acc).1 (shotsIn u tr to k t done whole e acc).2 := by
 intro k
 induction k with
 | zero => intro t done whole e acc M _ _ h1 h2; omega
 | succ k ih =>
  intro t done whole e acc M hA ht htt hk
  simp only [shotsIn]
  by_cases hlt : t < to
  case neg =>
   rw [if_neg hlt, show to - t = 0 by omega]
   exact ⟨by show M.time = to; omega, hA.inv, hA.wholeT, hA.most, hA.out, rfl, .inl ⟨done, e, hA⟩⟩
  rw [if_pos hlt]
  have hs := acc_skip hA
  rw [ht] at hs
  by_cases hsk : skipR u tr t done whole e = true
  ·rw [if_pos hsk]
   rw [hsk] at hs
   obtain ⟨M', e1, i1, i2, i3, i4, i5, i6, i7⟩ := idle hA.inv hA.opn (by rw [ht]; exact hs)
   have hA' : At z cl u os tr M' (wholes acc) acc whole done e := ⟨i1, i3, rfl, hA.wholeT, hA.most, by rw [i6]; exact hA.out, by rw [i4, i5]; exact hA.st⟩
   have := ih (t + 1) done whole e acc M' hA' (by rw [i2, ht]) (by omega) (by omega)
   rw [i5] at this
   have es : stepsM z cl u os tr (to - t) M = stepsM z cl u os tr (to - (t + 1)) M' := by
    rw [show to - t = (to - (t + 1)) + 1 by omega]
    simp only [stepsM]
    rw [e1]
   rw [es]; exact this
  ·rw [if_neg hsk]
   have hsk' : skipR u tr t done whole e = false := by simpa using hsk
   rw [hsk'] at hs
   have hacc : (tr.getD M.time false && accB u M) = true := by rw [ht]; exact hs
   have hB := behind hA.inv hacc
   have hw : whole ≠ 64 := by
    intro hw; unfold skipR at hsk'; rw [hw] at hsk'; simp at hsk'
   have hm := hA.most
   obtain ⟨c1, c2, c3, c4⟩ := hA.st.resolve_left hw
   have hdl : done ≠ u.lim := by
    intro hd; unfold skipR at hsk'; rw [hd] at hsk'; simp at hsk'
   have hpre : u.pre ≤ t := by
    unfold skipR at hsk'
    simp only [Bool.or_eq_false_iff, decide_eq_false_iff_not] at hsk'
    omega
   by_cases hend : t + u.post > to
   ·rw [if_pos hend]
    have hb := hB (to - t - 1) (by omega) (by rw [ht]; omega)
    rw [show to - t - 1 + 1 = to - t by omega] at hb
    generalize stepsM z cl u os tr (to - t) M = M1 at hb
    obtain ⟨o1, o2, o3, o4⟩ := hb.opn (by omega)
    have e1 : M.time + (to - t) = to := by omega
    have ht1 := hb.time
    have hr1 := hb.ring
    have htr1 := hb.trig
    rw [e1] at ht1 hr1 htr1
    have hinv : Inv z cl u os tr M1 (wholes acc) := by
     have h0 := hA.inv
     refine ⟨by rw [o2]; exact h0.segs, by rw [o3]; exact h0.seen, by rw [htr1, ht1], ?_, h0.inT, by rw [hb.armed, ht1]; exact hr1, ?_, by rw [o4, hb.armed]; exact h0.arm0, by rw [o4, hb.armed]; exact h0.arm1, ?_⟩
     ·have := h0.aft; omega
     ·have := h0.lastle; omega
     ·have := h0.arm; rw [hb.armed]; omega
    have hwh : wholes (acc ++ [(t, false)]) = wholes acc := by rw [wholes_app]; simp
    refine ⟨ht1, by rw [hwh]; exact hinv, by rw [hwh]; exact hA.wholeT, hm, by rw [hb.out, hA.out, List.map_append, ht]; rfl, hb.armed, .inr ⟨by omega, t, acc, rfl, hlt, by omega, hpre, by rw [o1, hwh, ht], done, e, by rw [o4, c1], ?_⟩⟩
    rw [hwh]
    refine ⟨⟨hinv.segs, hinv.seen, hinv.trig, hinv.aft, hinv.inT, hinv.ring, hinv.lastle, hinv.arm0, hinv.arm1, hinv.arm⟩, rfl, rfl, hA.wholeT, hm, rfl, .inr ⟨by show M1.comp = done; rw [o4, c1], c2, c3, fun h => by show e = M1.armed; rw [hb.armed]; exact c4 h⟩⟩
   ·rw [if_neg hend]
    have hb := hB (u.post - 1) (by omega) (by rw [ht]; omega)
    rw [show u.post - 1 + 1 = u.post by omega] at hb
    have es : stepsM z cl u os tr (to - t) M = stepsM z cl u os tr (to - (t + u.post)) (stepsM z cl u os tr u.post M) := by
     rw [← stepsM_add]; congr 1; omega
    rw [es]
    generalize stepsM z cl u os tr u.post M = M1 at hb
    obtain ⟨o1, o2, o3, o4⟩ := hb.shut rfl
    have ht1 := hb.time
    have hr1 := hb.ring
    have htr1 := hb.trig
    rw [ht] at ht1 hr1 htr1 o2 o3
    have hwh : wholes (acc ++ [(t, true)]) = wholes acc ++ [t] := by rw [wholes_app]; simp
    have hinv : Inv z cl u os tr M1 (wholes acc ++ [t]) := by
     have h0 := hA.inv
     refine ⟨?_, by rw [o3, aftL_app], by rw [htr1, ht1], by rw [aftL_app, ht1]; omega, ?_, by rw [hb.armed, ht1]; exact hr1, by rw [endL_app, ht1]; exact Nat.le_refl _, fun h => by rw [o4] at h; omega, fun _ => ?_, ?_⟩
     ·rw [o2, h0.segs, segL_app]; rfl
     ·intro s hs
      rcases List.mem_append.1 hs with hs | hs
      ·exact h0.inT s hs
      ·simp only [List.mem_singleton] at hs; subst hs; exact ⟨hpre, by omega⟩
     ·rw [endL_app, hb.armed]; have := h0.arm; omega
     ·rw [hb.armed, ht1]; have := h0.arm; omega
    have hA' : At z cl u os tr M1 (wholes (acc ++ [(t, true)])) (acc ++ [(t, true)]) (whole + 1) (done + 1) (t + u.post) := by
     rw [hwh]
     exact ⟨hinv, o1, hwh, by rw [List.length_append, hA.wholeT]; rfl, by omega, by rw [hb.out, hA.out, List.map_append, ht]; rfl, .inr ⟨by rw [o4, c1], by omega, fun _ => endL_app.symm, fun h => by omega⟩⟩
    have := ih (t + u.post) (done + 1) (whole + 1) (t + u.post) (acc ++ [(t, true)]) M1 hA' ht1 (by omega) (by omega)
    rw [hb.armed] at this
    exact this
def runArms (z : α) (cl : α → α) (u : SU) (os : List α) (tr : List Bool) (n : Nat) : List Nat → MS α → MS α
 | [], M => stepsM z cl u os tr (n - M.time) M
 | a :: ars, M => runArms z cl u os tr n ars (rearmM z u (stepsM z cl u os tr (a - M.time) M))
theorem rearm_at {M : MS α} {acc : List (Nat × Bool)} {whole to armed : Nat} (h : Ended z cl u os tr to armed M acc whole) : At z cl u os tr (rearmM z u M) (wholes acc) acc whole 0 to ∧ (rearmM z u M).time = to := by
 have hl : M.segs.length = whole := by rw [h.inv.segs, segL_len, h.wholeT]
 have hm := h.most
 unfold rearmM
 by_cases h64 : 64 ≤ M.segs.length
 ·rw [if_pos h64]
  have hw : whole = 64 := by omega
  refine ⟨⟨h.inv, ?_, rfl, h.wholeT, hm, h.out, .inl hw⟩, h.time⟩
  rcases h.opnT with ⟨_, _, hA⟩ | ⟨hlt, _⟩
  ·exact hA.opn
  ·omega
 ·rw [if_neg h64]
  have h0 := h.inv
  refine ⟨⟨⟨h0.segs, h0.seen, h0.trig, h0.aft, h0.inT, ⟨by simp, fun s h1 h2 h3 => ?_⟩, h0.lastle, fun _ => h0.lastle, fun hc => absurd hc (Nat.lt_irrefl 0), Nat.le_refl _⟩, rfl, rfl, h.wholeT, hm, h.out, .inr ⟨rfl, Nat.zero_le _, fun h => absurd h (Nat.lt_irrefl 0), fun _ => h.time.symm⟩⟩, h.time⟩
  have h1 : M.time ≤ s := h1
  have h2 : s < M.time := h2
  omega
def Asc : Nat → List Nat → Nat → Prop
 | t, [], n => t ≤ n
 | t, a :: ars, n => t ≤ a ∧ Asc a ars n
theorem Asc.le : ∀ {ars : List Nat} {t n : Nat}, Asc t ars n → t ≤ n
 | [], t, n, h => h
 | a :: ars, t, n, h => Nat.le_trans h.1 h.2.le
theorem runArms_ok (hpost : 1 ≤ u.post) {n : Nat} (hn : n ≤ os.length) : ∀ (ars : List Nat) (t whole : Nat) (acc : List (Nat × Bool)) (M : MS α), At z cl u os tr M (wholes acc) acc whole 0 t → M.time = t → Asc t ars n →
  ∃ armed whole', Ended z cl u os tr n armed (runArms z cl u os tr n ars M) (shotsArm u tr n ars t whole acc) whole'
 | [], t, whole, acc, M, hA, ht, ha => by
  have := shotsIn_ok hpost hn (n + 1) t 0 whole t acc M hA ht ha (by omega)
  refine ⟨M.armed, (shotsIn u tr n (n + 1) t 0 whole t acc).2, ?_⟩
  simp only [runArms, shotsArm, ht]
  exact this
 | a :: ars, t, whole, acc, M, hA, ht, ha => by
  obtain ⟨h1, h2⟩ := ha
  have h3 := h2.le
  have hE := shotsIn_ok hpost (show a ≤ os.length by omega) (n + 1) t 0 whole t acc M hA ht h1 (by omega)
  obtain ⟨r1, r2⟩ := rearm_at hE
  simp only [runArms, shotsArm, ht, Nat.min_eq_left h3]
  exact runArms_ok hpost hn ars a _ _ _ r1 r2 h2
def newM (z : α) (u : SU) : MS α := ⟨0, 0, 0, [], none, 0, 0, List.replicate u.pre z, []⟩
theorem new_at : At z cl u os tr (newM z u) (wholes []) [] 0 0 0 :=
 ⟨⟨rfl, rfl, rfl, Nat.le_refl _, (fun t h => by cases h), ⟨by simp [newM], fun s h1 h2 h3 => absurd h2 (Nat.not_lt_zero s)⟩, Nat.le_refl _, fun _ => Nat.le_refl _, fun h => absurd h (Nat.lt_irrefl 0), Nat.le_refl _⟩, rfl, rfl, rfl, by omega, rfl, .inr ⟨rfl, Nat.zero_le _, fun h => absurd h (Nat.lt_irrefl 0), fun _ => rfl⟩⟩
theorem run_new (hpost : 1 ≤ u.post) {ars : List Nat} (ha : Asc 0 ars os.length) :
  (runArms z cl u os tr os.length ars (newM z u)).segs = segL cl u os tr 0 0 (wholes (shotsArm u tr os.length ars 0 0 [])) ∧
  (runArms z cl u os tr os.length ars (newM z u)).out = (shotsArm u tr os.length ars 0 0 []).map (·.1) := by
 obtain ⟨armed, w, hE⟩ := runArms_ok (z := z) (cl := cl) (u := u) (os := os) (tr := tr) hpost (Nat.le_refl _) ars 0 0 [] (newM z u) new_at rfl ha
 exact ⟨hE.inv.segs, hE.out⟩
end
end Go.Mach
end

section
/- What the functions around the acquisition machine give. -/
set_option linter.unusedVariables false
set_option linter.unusedSimpArgs false
namespace Go.Abs
open Go.Proofs Classical Go.Mach
def toB : AV → Bool
 | .bool b => b
 | _ => false
def boolsOf (cs : List AV) : List Bool := cs.map toB
def boolsL (bs : List Bool) : List AV := bs.map AV.bool
def Bls (n : Nat) (cs : List AV) : Prop := n < 9223372036854775808 ∧ cs = boolsL (boolsOf cs) ∧ cs.length = n
theorem Bls.len {n : Nat} {cs : List AV} (h : Bls n cs) : (boolsOf cs).length = n := by simp [boolsOf, h.2.2]
theorem Bls.get {n : Nat} {cs : List AV} (h : Bls n cs) {i : Nat} (hi : i < n) : asBool (cs.getD i .top) = some ((boolsOf cs).getD i false) := by
 have h5 : i < (boolsOf cs).length := by rw [h.len]; exact hi
 rw [List.getD_eq_getElem?_getD, List.getD_eq_getElem?_getD]
 conv => lhs; rw [h.2.1]
 simp [boolsL, h5, asBool]
noncomputable def setupE (pre post hold segs : Int) : Int := if pre < 0 ∨ pre > 1024 then 3 else if post < 1 ∨ post > 1024 then 3 else if hold < 0 ∨ hold > 4096 then 3 else if segs < 1 ∨ segs > 64 then 3 else 0
theorem setup_ok {pre post hold segs : Int} (h : setupE pre post hold segs = 0) : (0 ≤ pre ∧ pre ≤ 1024) ∧ (1 ≤ post ∧ post ≤ 1024) ∧ (0 ≤ hold ∧ hold ≤ 4096) ∧ (1 ≤ segs ∧ segs ≤ 64) := by
 unfold setupE at h
 split at h
 ·cases h
 ·split at h
  ·cases h
  ·split at h
   ·cases h
   ·split at h
    ·cases h
    ·omega
theorem ints4 (a b c d : Int) : Ints 4 [AV.int .i64 a, AV.int .i64 b, AV.int .i64 c, AV.int .i64 d] := ⟨by omega, rfl, rfl⟩
theorem put4 (a b c d : Int) : putCells (putCells (putCells (putCells (zrow (ofV (Go.Value.int IntKind.i64 (0 : Int))).cells 4) 0 [AV.int IntKind.i64 a]) 1 [AV.int IntKind.i64 b]) 2 [AV.int IntKind.i64 c]) 3 [AV.int IntKind.i64 d] = [AV.int .i64 a, AV.int .i64 b, AV.int .i64 c, AV.int .i64 d] := rfl
theorem first4 (a b c d : Int) : firstNZ (intsOf [AV.int .i64 a, AV.int .i64 b, AV.int .i64 c, AV.int .i64 d]) = if a = 0 then (if b = 0 then (if c = 0 then (if d = 0 then 0 else d) else c) else b) else a := rfl
theorem setup4 {pre post hold segs : Int} : firstNZ (intsOf [AV.int .i64 (if pre < 0 ∨ pre > 1024 then 3 else 0), AV.int .i64 (if post < 1 ∨ post > 1024 then 3 else 0), AV.int .i64 (if hold < 0 ∨ hold > 4096 then 3 else 0), AV.int .i64 (if segs < 1 ∨ segs > 64 then 3 else 0)]) = setupE pre post hold segs := by
 rw [first4]
 unfold setupE
 by_cases h1 : pre < 0 ∨ pre > 1024 <;> by_cases h2 : post < 1 ∨ post > 1024 <;> by_cases h3 : hold < 0 ∨ hold > 4096 <;> by_cases h4 : segs < 1 ∨ segs > 64 <;> simp [h1, h2, h3, h4]
abbrev setupS (pre post hold segs : Int) : SV := .s (.agg [.b (.int .i64 pre), .b (.int .i64 post), .b (.int .i64 hold), .b (.int .i64 segs)])
theorem run_18' {pre post hold segs : Int} : (fsW tzm waysM 0 6).call (List RLeaf) 18 [setupS pre post hold segs] [] (resK [false]) = some [.v (.int .i64 (setupE pre post hold segs))] := by
 rw [run_18]
 simp only [shut_eq, guardO_dec, put4, ints4, if_true, setup4]
theorem run_16' {pre post hold segs : Int} : (fsW tzm waysM 0 6).call (List RLeaf) 16 [setupS pre post hold segs] [] (resK [false]) = some [.v (.int .i64 (setupE pre post hold segs))] := by
 rw [run_16]
 simp only [shut_eq, condO_dec, setupE]
 by_cases h1 : pre < 0 ∨ pre > 1024 <;> by_cases h2 : post < 1 ∨ post > 1024 <;> by_cases h3 : hold < 0 ∨ hold > 4096 <;> by_cases h4 : segs < 1 ∨ segs > 64 <;> simp only [h1, h2, h3, h4, if_true, if_false]
noncomputable def deadV (pre post hold segs : Int) : Int := if setupE pre post hold segs = 0 then post + (if hold > pre then hold else pre) else 0
theorem run_37' {pre post hold segs : Int} : (fsW tzm waysM 0 8).call (List RLeaf) 37 [setupS pre post hold segs] [] (resK [false, false]) = some [.v (.int .i64 (deadV pre post hold segs)), .v (.int .i64 (setupE pre post hold segs))] := by
 rw [run_37]
 simp only [shut_eq, guardO_dec, put4, ints4, if_true, setup4, condO_bne, deadV]
 by_cases h : setupE pre post hold segs = 0
 ·obtain ⟨h1, h2, h3, h4⟩ := setup_ok h
  have w : IntKind.i64.wrap (post + (if hold > pre then hold else pre)) = post + (if hold > pre then hold else pre) := by
   rw [wrap64] <;> split <;> omega
  rw [if_pos h, if_pos h, w, h]
 ·rw [if_neg h, if_neg h]
theorem run_39' {pre post hold segs : Int} (h : setupE pre post hold segs = 0) : (fsW tzm waysM 0 8).call (List RLeaf) 39 [setupS pre post hold segs] [] (resK [false]) = some [.v (.int .i64 (deadV pre post hold segs))] := by
 rw [run_39]
 obtain ⟨h1, h2, h3, h4⟩ := setup_ok h
 have w : IntKind.i64.wrap (post + (if hold > pre then hold else pre)) = post + (if hold > pre then hold else pre) := by
  rw [wrap64] <;> split <;> omega
 simp only [shut_eq, w, deadV, h, if_true]
noncomputable def armsL (b : Int) : Int → List Int → Int
 | _, [] => 0
 | p, a :: l => if a < 0 ∨ a > b then 3 else if a < p then 11 else armsL b a l
noncomputable def armsE (n : Nat) (l : List Int) (b : Int) : Int := if n > 256 then 5 else armsL b 0 l
theorem first2' (a b : Int) : firstNZ (intsOf [AV.int .i64 a, AV.int .i64 b]) = if a = 0 then (if b = 0 then 0 else b) else a := rfl
theorem run_105' {n : Nat} {cs : List AV} {b : Int} (h : Ints n cs) : (fsW tzm waysM (n + 1) 6).call (List RLeaf) 105 [.ofB (.list n cs), .ofB (.int .i64 b)] [] (resK [false]) = some [.v (.int .i64 (armsE n (intsOf cs) b))] := by
 rw [run_105]
 have hl := h.len
 simp only [shut_eq, condO_dec, guardO_dec, armsE]
 by_cases h0 : n > 256
 ·rw [if_pos (by omega), if_pos h0]
 rw [if_neg (by omega), if_neg h0]
 refine loopC_rule (fun k (r : Int → Int → Nat → List AV → Int → Int → Option (List RLeaf)) => ∀ (i : Nat) (p : Int), i + k = n → r b p n cs (n : Int) (i : Int) = some [RLeaf.v (.int .i64 (armsL b p ((intsOf cs).drop i)))]) ?_ (n + 1) n (by omega) 0 0 (by omega)
 intro k r ih i p hi
 by_cases hk : i < n
 ·have h2 : 0 < cs.length := by rw [h.2.2]; omega
  rw [drop_cons (d := 0) (show i < (intsOf cs).length by omega)]
  simp only [Int.ofNat_lt, hk, h2, if_true, Int.toNat_natCast, Nat.mul_one, h.get hk, bindO_ok, idx64 h.1 hk, and_true, Int.natCast_nonneg, true_and, put2, ints2, first2', ih (k - 1) (by omega) (i + 1) _ (by omega), armsL, condO_bne]
  generalize (intsOf cs).getD i 0 = v
  by_cases h1 : v < 0 ∨ v > b <;> by_cases h3 : v < p <;> simp [h1, h3]
 ·have h2 : (intsOf cs).drop i = [] := by rw [List.drop_eq_nil_iff]; omega
  simp only [Int.ofNat_lt, hk, h2, if_false, armsL]
theorem run_38' {n : Nat} {cs : List AV} {b : Int} (h : Ints n cs) : (fsW tzm waysM (n + 1) 6).call (List RLeaf) 38 [.ofB (.list n cs), .ofB (.int .i64 b)] [] (resK [false]) = some [.v (.int .i64 (armsE n (intsOf cs) b))] := by
 rw [run_38]
 have hl := h.len
 simp only [shut_eq, condO_dec, guardO_dec, armsE]
 by_cases h0 : n > 256
 ·rw [if_pos (by omega), if_pos h0]
 rw [if_neg (by omega), if_neg h0]
 refine loopC_rule (fun k (r : Nat → List AV → Int → Int → Option (List RLeaf)) => ∀ (i : Nat), i + k = n → r n cs b (i : Int) = some [RLeaf.v (.int .i64 (armsL b (if i = 0 then 0 else (intsOf cs).getD (i - 1) 0) ((intsOf cs).drop i)))]) ?_ (n + 1) n (by omega) 0 (by omega)
 intro k r ih i hi
 by_cases hk : i < n
 ·have h2 : 0 < cs.length := by rw [h.2.2]; omega
  have ih' := ih (k - 1) (by omega) (i + 1) (by omega)
  rw [if_neg (by omega), Nat.add_sub_cancel] at ih'
  rw [drop_cons (d := 0) (show i < (intsOf cs).length by omega)]
  simp only [Int.ofNat_lt, hk, h2, if_true, Int.toNat_natCast, Nat.mul_one, h.get hk, bindO_ok, idx64 h.1 hk, and_true, Int.natCast_nonneg, true_and, ih', armsL]
  by_cases hi0 : i = 0
  ·subst hi0
   simp only [if_true]
   generalize (intsOf cs).getD 0 0 = v
   by_cases h1 : v < 0 ∨ v > b
   ·rw [if_pos h1, if_pos h1]
   ·have h3 : ¬ v < 0 := by omega
    have c0 : ¬ (((0 : Nat) : Int) > 0) := by omega
    rw [if_neg h1, if_neg h1, if_neg h3]
    first
     | rw [if_neg c0]
     | rfl
  ·have w : IntKind.i64.wrap ((i : Int) - 1) = ((i - 1 : Nat) : Int) := by rw [wrap64] <;> omega
   have c1 : ((i : Nat) : Int) > 0 := by omega
   have c2 : ((i - 1 : Nat) : Int) < (n : Int) := by omega
   simp only [w, c1, c2, if_true, Int.natCast_nonneg, true_and, Int.toNat_natCast, h.get (show i - 1 < n by omega), bindO_ok, if_neg hi0]
   by_cases h1 : (intsOf cs).getD i 0 < 0 ∨ (intsOf cs).getD i 0 > b
   ·rw [if_pos h1, if_pos h1]
   ·rw [if_neg h1, if_neg h1]
    by_cases h3 : (intsOf cs).getD i 0 < (intsOf cs).getD (i - 1) 0
    ·rw [if_pos h3, if_pos h3]
    ·rw [if_neg h3, if_neg h3]
 ·have h2 : (intsOf cs).drop i = [] := by rw [List.drop_eq_nil_iff]; omega
  simp only [Int.ofNat_lt, hk, h2, if_false, armsL]
theorem run_102' {n : Nat} {cs : List AV} (h : Flos n cs) (hn : n ≤ 100000) : (fsW tzm waysM (n + 1) 8).call (List RLeaf) 102 [.ofB (.list n cs)] [] (resK [true]) = some [.fz ((flosOf cs).map clean1).length (flosL ((flosOf cs).map clean1))] := by
 rw [run_102]
 have hl := h.len
 refine loopC_rule (fun k (r : Nat → List AV → Int → Nat → List AV → Nat → List AV → Option (List RLeaf)) => ∀ (i : Nat), i + k = n → r n cs (i : Int) 0 [] i (flosL (((flosOf cs).take i).map clean1)) = some [.fz ((flosOf cs).map clean1).length (flosL ((flosOf cs).map clean1))]) ?_ (n + 1) n (by omega) 0 (by omega)
 intro k r ih i hi
 by_cases hk : i < n
 ·have h2 : 0 < cs.length := by rw [h.2.2]; omega
  have hr : (i + 1) * 5 ≤ 549755813888 := by omega
  have ih' := ih (k - 1) (by omega) (i + 1) (by omega)
  have hs : ((flosOf cs).take (i + 1)).map clean1 = ((flosOf cs).take i).map clean1 ++ [clean1 ((flosOf cs).getD i none)] := by
   have : (flosOf cs).take (i + 1) = (flosOf cs).take i ++ [(flosOf cs).getD i none] := by
    rw [List.take_add_one, List.getD, List.getElem?_eq_getElem (by omega)]; rfl
   rw [this, List.map_append]; rfl
  rw [hs, flosL_app] at ih'
  simp only [shut_eq, condO_dec, guardO_dec, Int.ofNat_lt, hk, h2, hr, if_true, Int.toNat_natCast, Nat.mul_one, h.get hk, bindO_ok, idx64 h.1 hk, and_true, Int.natCast_nonneg, true_and, putF]
  exact ih'
 ·have : i = n := by omega
  subst this
  simp only [shut_eq, condO_dec, Int.ofNat_lt, hk, if_false, List.take_of_length_le (show (flosOf cs).length ≤ i by omega), List.length_map, hl]
theorem run_103' {n : Nat} {cs : List AV} {a b : Nat} (h : Bls n cs) (ha : a ≤ b) (hb : b ≤ n) (hn : n ≤ 100000) : (fsW tzm waysM (n + 1) 8).call (List RLeaf) 103 [.ofB (.list n cs), .ofB (.int .i64 (a : Int)), .ofB (.int .i64 (b : Int))] [] (resK [false]) = some [.v (.int .i64 ((cnt (boolsOf cs) a b : Nat) : Int))] := by
 rw [run_103]
 have hl := h.len
 refine loopC_rule (fun k (r : Nat → List AV → Int → Int → Int → Option (List RLeaf)) => ∀ (i c : Nat), i + k = b → a ≤ i → c + cntTo (boolsOf cs) a = cntTo (boolsOf cs) i → c ≤ i → r n cs (b : Int) (c : Int) (i : Int) = some [.v (.int .i64 ((cnt (boolsOf cs) a b : Nat) : Int))]) ?_ (n + 1) (b - a) (by omega) a 0 (by omega) (by omega) (by omega) (by omega)
 intro k r ih i c hi hai hc hci
 by_cases hk : i < b
 ·have h2 : 0 < cs.length := by rw [h.2.2]; omega
  have c1 : (i : Int) < (n : Int) := by omega
  have w1 : IntKind.i64.wrap ((i : Int) + 1) = ((i + 1 : Nat) : Int) := by rw [wrap64] <;> omega
  have w2 : IntKind.i64.wrap ((c : Int) + 1) = ((c + 1 : Nat) : Int) := by rw [wrap64] <;> omega
  simp only [shut_eq, condO_dec, condO_bool, guardO_dec, Int.ofNat_lt, hk, h2, c1, if_true, Int.toNat_natCast, Nat.mul_one, h.get (show i < n by omega), bindO_ok, w1, w2, and_true, Int.natCast_nonneg, true_and]
  have hs : cntTo (boolsOf cs) (i + 1) = cntTo (boolsOf cs) i + ((boolsOf cs).getD i false).toNat := rfl
  cases hb : (boolsOf cs).getD i false with
  | true =>
   rw [hb] at hs
   simp only [if_true]
   exact ih (k - 1) (by omega) (i + 1) (c + 1) (by omega) (by omega) (by simp at hs; omega) (by omega)
  | false =>
   rw [hb] at hs
   simp only [Bool.false_eq_true, if_false]
   exact ih (k - 1) (by omega) (i + 1) c (by omega) (by omega) (by simp at hs; omega) (by omega)
 ·have : i = b := by omega
  subst this
  have : c = cnt (boolsOf cs) a i := by unfold cnt; omega
  simp only [shut_eq, condO_dec, Int.ofNat_lt, hk, if_false, this]
end Go.Abs
end

section
/- The shots of the reference. -/
set_option linter.unusedVariables false
set_option linter.unusedSimpArgs false
namespace Go.Abs
open Go.Proofs Classical Go.Mach
def shotCells (l : List (Nat × Bool)) : List AV := l.flatMap fun p => [AV.int .i64 (p.1 : Int), AV.bool p.2]
theorem shotCells_app {l l' : List (Nat × Bool)} : shotCells (l ++ l') = shotCells l ++ shotCells l' := by simp [shotCells]
theorem shotCells_len {l : List (Nat × Bool)} : (shotCells l).length = l.length * 2 := by
 induction l with
 | nil => rfl
 | cons p l ih => simp only [shotCells, List.flatMap_cons, List.length_append, List.length_cons, List.length_nil] at ih ⊢; omega
theorem putShot (a : Int) (b : Bool) : putCells (zrow (ofV (Go.Value.agg #[Go.Value.int IntKind.i64 (0 : Int), Go.Value.bool false])).cells 2) 0 [AV.int IntKind.i64 a, AV.bool b] = [AV.int .i64 a, AV.bool b] := rfl
theorem shotsIn_fuel {u : SU} (hpost : 1 ≤ u.post) {tr : List Bool} {to : Nat} : ∀ (k k' t done whole e : Nat) (acc : List (Nat × Bool)), to < t + k → to < t + k' → shotsIn u tr to k t done whole e acc = shotsIn u tr to k' t done whole e acc
 | 0, 0, _, _, _, _, _, _, _ => rfl
 | 0, k' + 1, t, done, whole, e, acc, h, _ => by
  have : ¬ t < to := by omega
  simp only [shotsIn, this, if_false]
 | k + 1, 0, t, done, whole, e, acc, _, h => by
  have : ¬ t < to := by omega
  simp only [shotsIn, this, if_false]
 | k + 1, k' + 1, t, done, whole, e, acc, h, h' => by
  simp only [shotsIn]
  by_cases h1 : t < to
  ·rw [if_pos h1, if_pos h1, shotsIn_fuel hpost k k' (t + 1) _ _ _ _ (by omega) (by omega), shotsIn_fuel hpost k k' (t + u.post) _ _ _ _ (by omega) (by omega)]
  ·rw [if_neg h1, if_neg h1]
theorem shotsIn_step {u : SU} (hpost : 1 ≤ u.post) {tr : List Bool} {to n t done whole e : Nat} {acc : List (Nat × Bool)} (hto : to ≤ n) (ht : t ≤ to) : shotsIn u tr to (n + 1) t done whole e acc =
  if t < to then
   if skipR u tr t done whole e = true then shotsIn u tr to (n + 1) (t + 1) done whole e acc
   else if t + u.post > to then (acc ++ [(t, false)], whole)
   else shotsIn u tr to (n + 1) (t + u.post) (done + 1) (whole + 1) (t + u.post) (acc ++ [(t, true)])
  else (acc, whole) := by
 show shotsIn u tr to (n + 1) t done whole e acc = _
 simp only [shotsIn]
 by_cases h1 : t < to
 ·rw [if_pos h1, if_pos h1, shotsIn_fuel hpost n (n + 1) (t + 1) _ _ _ _ (by omega) (by omega), shotsIn_fuel hpost n (n + 1) (t + u.post) _ _ _ _ (by omega) (by omega)]
  rfl
 ·rw [if_neg h1, if_neg h1]
abbrev R0 := Nat → List AV → Nat → List AV → Int → Int → Int → Int → Int → Int → Int → Nat → List AV → Nat → List AV → Option (List RLeaf)
abbrev R8 := Nat → List AV → Nat → List AV → Int → Int → Int → Int → Int → Int → Int → Int → Int → Int → Int → Nat → List AV → Nat → List AV → Option (List RLeaf)
noncomputable def shotF (r_0 : R0) : R8 → R8 :=
 fun r_8 (x0_8 : Nat) (x1_8 : List AV) (x2_8 : Nat) (x3_8 : List AV) (x4_8 : Int) (x5_8 : Int) (x6_8 : Int) (x7_8 : Int) (x8_8 : Int) (x9_8 : Int) (x10_8 : Int) (x11_8 : Int) (x12_8 : Int) (x13_8 : Int) (x14_8 : Int) (x15_8 : Nat) (x16_8 : List AV) (x17_8 : Nat) (x18_8 : List AV) =>
    condO (shut (decide (x10_8 < x7_8)))
     (
     guardO (shut (decide ((0 : Int) ≤ x10_8 ∧ x10_8 < (↑x0_8 : Int) ∧ 0 < x1_8.length))) <|
     bindO (asBool (x1_8.getD (x10_8.toNat * 1) AV.top)) fun v11 =>
     condO (!v11)
     (
     r_8 (x0_8) (x1_8) (x2_8) (x3_8) (x4_8) (x5_8) (x6_8) (x7_8) (x8_8) (x9_8) (shut (IntKind.i64.wrap (x10_8 + (1 : Int)))) (x11_8) (x12_8) (x13_8) (x14_8) (x15_8) (x16_8) (x17_8) (x18_8))
     (
     condO (shut (x5_8 == (64 : Int)))
      (
      r_8 (x0_8) (x1_8) (x2_8) (x3_8) (x4_8) (x5_8) (x6_8) (x7_8) (x8_8) (x9_8) (shut (IntKind.i64.wrap (x10_8 + (1 : Int)))) (x11_8) (x12_8) (x13_8) (x14_8) (x15_8) (x16_8) (x17_8) (x18_8))
      (
      condO (shut (x8_8 == x14_8))
      (
      r_8 (x0_8) (x1_8) (x2_8) (x3_8) (x4_8) (x5_8) (x6_8) (x7_8) (x8_8) (x9_8) (shut (IntKind.i64.wrap (x10_8 + (1 : Int)))) (x11_8) (x12_8) (x13_8) (x14_8) (x15_8) (x16_8) (x17_8) (x18_8))
      (
      condO (shut (decide (x10_8 < shut (IntKind.i64.wrap (x9_8 + x11_8)))))
       (
       r_8 (x0_8) (x1_8) (x2_8) (x3_8) (x4_8) (x5_8) (x6_8) (x7_8) (x8_8) (x9_8) (shut (IntKind.i64.wrap (x10_8 + (1 : Int)))) (x11_8) (x12_8) (x13_8) (x14_8) (x15_8) (x16_8) (x17_8) (x18_8))
       (
       condO (shut (decide (x8_8 > (0 : Int))))
       (
       condO (shut (decide (x10_8 < shut (IntKind.i64.wrap (x9_8 + x13_8)))))
        (
        r_8 (x0_8) (x1_8) (x2_8) (x3_8) (x4_8) (x5_8) (x6_8) (x7_8) (x8_8) (x9_8) (shut (IntKind.i64.wrap (x10_8 + (1 : Int)))) (x11_8) (x12_8) (x13_8) (x14_8) (x15_8) (x16_8) (x17_8) (x18_8))
        (
        condO (shut (decide (shut (IntKind.i64.wrap (x10_8 + x12_8)) > x7_8)))
        (
        guardO (shut (decide ((x17_8 + 1) * 17 ≤ 549755813888))) <|
        r_0 (x0_8) (x1_8) (x2_8) (x3_8) (x4_8) (x5_8) (shut (IntKind.i64.wrap (x6_8 + (1 : Int)))) (x11_8) (x12_8) (x13_8) (x14_8) (x15_8) (x16_8) (x17_8 + 1) (x18_8 ++ putCells (zrow (ofV (Go.Value.agg #[Go.Value.int IntKind.i64 (0 : Int), Go.Value.bool false])).cells 2) 0 [AV.int IntKind.i64 x10_8, AV.bool false]))
        (
        guardO (shut (decide ((x17_8 + 1) * 17 ≤ 549755813888))) <|
        r_8 (x0_8) (x1_8) (x2_8) (x3_8) (x4_8) (shut (IntKind.i64.wrap (x5_8 + (1 : Int)))) (x6_8) (x7_8) (shut (IntKind.i64.wrap (x8_8 + (1 : Int)))) (shut (IntKind.i64.wrap (x10_8 + x12_8))) (shut (IntKind.i64.wrap (shut (IntKind.i64.wrap (shut (IntKind.i64.wrap (x10_8 + x12_8)) - (1 : Int))) + (1 : Int)))) (x11_8) (x12_8) (x13_8) (x14_8) (x15_8) (x16_8) (x17_8 + 1) (x18_8 ++ putCells (zrow (ofV (Go.Value.agg #[Go.Value.int IntKind.i64 (0 : Int), Go.Value.bool false])).cells 2) 0 [AV.int IntKind.i64 x10_8, AV.bool true]))))
       (
       condO (shut (decide (shut (IntKind.i64.wrap (x10_8 + x12_8)) > x7_8)))
        (
        guardO (shut (decide ((x17_8 + 1) * 17 ≤ 549755813888))) <|
        r_0 (x0_8) (x1_8) (x2_8) (x3_8) (x4_8) (x5_8) (shut (IntKind.i64.wrap (x6_8 + (1 : Int)))) (x11_8) (x12_8) (x13_8) (x14_8) (x15_8) (x16_8) (x17_8 + 1) (x18_8 ++ putCells (zrow (ofV (Go.Value.agg #[Go.Value.int IntKind.i64 (0 : Int), Go.Value.bool false])).cells 2) 0 [AV.int IntKind.i64 x10_8, AV.bool false]))
        (
        guardO (shut (decide ((x17_8 + 1) * 17 ≤ 549755813888))) <|
        r_8 (x0_8) (x1_8) (x2_8) (x3_8) (x4_8) (shut (IntKind.i64.wrap (x5_8 + (1 : Int)))) (x6_8) (x7_8) (shut (IntKind.i64.wrap (x8_8 + (1 : Int)))) (shut (IntKind.i64.wrap (x10_8 + x12_8))) (shut (IntKind.i64.wrap (shut (IntKind.i64.wrap (shut (IntKind.i64.wrap (x10_8 + x12_8)) - (1 : Int))) + (1 : Int)))) (x11_8) (x12_8) (x13_8) (x14_8) (x15_8) (x16_8) (x17_8 + 1) (x18_8 ++ putCells (zrow (ofV (Go.Value.agg #[Go.Value.int IntKind.i64 (0 : Int), Go.Value.bool false])).cells 2) 0 [AV.int IntKind.i64 x10_8, AV.bool true]))))))))
     (
     r_0 (x0_8) (x1_8) (x2_8) (x3_8) (x4_8) (x5_8) (shut (IntKind.i64.wrap (x6_8 + (1 : Int)))) (x11_8) (x12_8) (x13_8) (x14_8) (x15_8) (x16_8) (x17_8) (x18_8))
theorem shotsIn_most {u : SU} (hpost : 1 ≤ u.post) {tr : List Bool} {to : Nat} : ∀ (k t done whole e : Nat) (acc : List (Nat × Bool)), (shotsIn u tr to k t done whole e acc).1.length ≤ acc.length + (to - t) ∧ (whole ≤ 64 → (shotsIn u tr to k t done whole e acc).2 ≤ 64)
 | 0, t, done, whole, e, acc => ⟨by show acc.length ≤ _; omega, fun h => h⟩
 | k + 1, t, done, whole, e, acc => by
  simp only [shotsIn]
  by_cases h1 : t < to
  ·rw [if_pos h1]
   by_cases h2 : skipR u tr t done whole e = true
   ·rw [if_pos h2]
    have := shotsIn_most (to := to) (tr := tr) hpost k (t + 1) done whole e acc
    exact ⟨by have := this.1; omega, this.2⟩
   ·rw [if_neg h2]
    have hw : whole ≠ 64 := by intro hw; apply h2; unfold skipR; rw [hw]; simp
    by_cases h3 : t + u.post > to
    ·rw [if_pos h3]
     exact ⟨by simp only [List.length_append, List.length_cons, List.length_nil]; omega, fun h => h⟩
    ·rw [if_neg h3]
     have := shotsIn_most (to := to) (tr := tr) hpost k (t + u.post) (done + 1) (whole + 1) (t + u.post) (acc ++ [(t, true)])
     exact ⟨by have := this.1; simp only [List.length_append, List.length_cons, List.length_nil] at this; omega, fun h => this.2 (by omega)⟩
  ·rw [if_neg h1]
   exact ⟨by show acc.length ≤ _; omega, fun h => h⟩
structure SUok (u : SU) : Prop where
 pre : u.pre ≤ 1024
 post0 : 1 ≤ u.post
 post : u.post ≤ 1024
 hold : u.hold ≤ 4096
 lim0 : 1 ≤ u.lim
 lim : u.lim ≤ 64
theorem shot_rule {r0 : R0} {bot : R8} {N m q n : Nat} {cs ar : List AV} {u : SU} {s1 : Nat} {s2 : List AV} (hu : SUok u) (hB : Bls m cs) {to : Nat} (hto : to ≤ n) (hn : n ≤ m) (hm : m ≤ 5000) (i : Int) (t done whole e : Nat) (acc : List (Nat × Bool)) (ht : t ≤ to) (hN : to - t < N) (hd : done ≤ u.lim) (hw : whole ≤ 64) (he : e ≤ 5000) (ha : acc.length + (to - t) ≤ 2000000) :
  loopC N (shotF r0) bot m cs q ar (n : Int) (whole : Int) i (to : Int) (done : Int) (e : Int) (t : Int) (u.pre : Int) (u.post : Int) (u.hold : Int) (u.lim : Int) s1 s2 acc.length (shotCells acc) =
   r0 m cs q ar (n : Int) ((shotsIn u (boolsOf cs) to (n + 1) t done whole e acc).2 : Int) (IntKind.i64.wrap (i + 1)) (u.pre : Int) (u.post : Int) (u.hold : Int) (u.lim : Int) s1 s2 (shotsIn u (boolsOf cs) to (n + 1) t done whole e acc).1.length (shotCells (shotsIn u (boolsOf cs) to (n + 1) t done whole e acc).1) := by
 refine loopC_rule (F := shotF r0) (fun k (r : R8) => ∀ (t done whole e : Nat) (acc : List (Nat × Bool)), t ≤ to → to - t = k → done ≤ u.lim → whole ≤ 64 → e ≤ 5000 → acc.length + (to - t) ≤ 2000000 →
  r m cs q ar (n : Int) (whole : Int) i (to : Int) (done : Int) (e : Int) (t : Int) (u.pre : Int) (u.post : Int) (u.hold : Int) (u.lim : Int) s1 s2 acc.length (shotCells acc) =
   r0 m cs q ar (n : Int) ((shotsIn u (boolsOf cs) to (n + 1) t done whole e acc).2 : Int) (IntKind.i64.wrap (i + 1)) (u.pre : Int) (u.post : Int) (u.hold : Int) (u.lim : Int) s1 s2 (shotsIn u (boolsOf cs) to (n + 1) t done whole e acc).1.length (shotCells (shotsIn u (boolsOf cs) to (n + 1) t done whole e acc).1)) ?_ N (to - t) hN t done whole e acc ht rfl hd hw he ha
 intro k r ih t done whole e acc ht hk hd hw he ha
 have hp0 := hu.post0
 have b1 := hu.pre
 have b2 := hu.post
 have b3 := hu.hold
 have b4 := hu.lim
 rw [shotsIn_step hp0 hto ht]
 unfold shotF
 by_cases h1 : t < to
 ·have h2 : 0 < cs.length := by rw [hB.2.2]; omega
  have c1 : (t : Int) < (m : Int) := by omega
  have w1 : IntKind.i64.wrap ((t : Int) + 1) = ((t + 1 : Nat) : Int) := by rw [wrap64] <;> omega
  have w2 : IntKind.i64.wrap ((e : Int) + (u.pre : Int)) = ((e + u.pre : Nat) : Int) := by rw [wrap64] <;> omega
  have w3 : IntKind.i64.wrap ((e : Int) + (u.hold : Int)) = ((e + u.hold : Nat) : Int) := by rw [wrap64] <;> omega
  have w4 : IntKind.i64.wrap ((t : Int) + (u.post : Int)) = ((t + u.post : Nat) : Int) := by rw [wrap64] <;> omega
  have w5 : IntKind.i64.wrap (IntKind.i64.wrap (((t + u.post : Nat) : Int) - 1) + 1) = ((t + u.post : Nat) : Int) := by
   rw [wrap64 (z := ((t + u.post : Nat) : Int) - 1), wrap64] <;> omega
  have w6 : IntKind.i64.wrap ((whole : Int) + 1) = ((whole + 1 : Nat) : Int) := by rw [wrap64] <;> omega
  have w7 : IntKind.i64.wrap ((done : Int) + 1) = ((done + 1 : Nat) : Int) := by rw [wrap64] <;> omega
  have g1 : (acc.length + 1) * 17 ≤ 549755813888 := by omega
  have e1 : ((whole : Int) = 64) = (whole = 64) := by simp; omega
  have skipped : r m cs q ar (n : Int) (whole : Int) i (to : Int) (done : Int) (e : Int) ((t + 1 : Nat) : Int) (u.pre : Int) (u.post : Int) (u.hold : Int) (u.lim : Int) s1 s2 acc.length (shotCells acc) = _ := ih (k - 1) (by omega) (t + 1) done whole e acc (by omega) (by omega) hd hw he (by omega)
  rw [if_pos h1]
  simp only [shut_eq, condO_dec, condO_not, condO_beq, guardO_dec, Int.ofNat_lt, h1, h2, c1, if_true, Int.toNat_natCast, Nat.mul_one, hB.get (show t < m by omega), bindO_ok, w1, w2, w3, w4, w5, w6, w7, and_true, Int.natCast_nonneg, true_and, g1, e1, Int.ofNat_inj, gt_iff_lt, putShot, skipped]
  cases hb : (boolsOf cs).getD t false with
  | false =>
   have hs : skipR u (boolsOf cs) t done whole e = true := by unfold skipR; rw [hb]; rfl
   rw [if_pos hs]
   rfl
  | true =>
   simp only [if_true]
   by_cases h3 : whole = 64
   ·have hs : skipR u (boolsOf cs) t done whole e = true := by unfold skipR; simp [h3]
    rw [if_pos h3, if_pos hs]
   rw [if_neg h3]
   by_cases h4 : done = u.lim
   ·have hs : skipR u (boolsOf cs) t done whole e = true := by unfold skipR; simp [h4]
    rw [if_pos h4, if_pos hs]
   rw [if_neg h4]
   by_cases h5 : t < e + u.pre
   ·have hs : skipR u (boolsOf cs) t done whole e = true := by unfold skipR; simp [h5]
    rw [if_pos h5, if_pos hs]
   rw [if_neg h5]
   by_cases h6 : 0 < done ∧ t < e + u.hold
   ·have hs : skipR u (boolsOf cs) t done whole e = true := by unfold skipR; simp [h6]
    have h7 : (0 : Int) < (done : Int) := by omega
    rw [if_pos h7, if_pos h6.2, if_pos hs]
   have hs : ¬ skipR u (boolsOf cs) t done whole e = true := by
    unfold skipR
    simp only [hb, h3, h4, h5, decide_false, Bool.not_true, Bool.or_false, Bool.false_or, Bool.and_eq_true, decide_eq_true_eq]
    exact h6
   have fin : (if to < t + u.post then r0 m cs q ar (n : Int) (whole : Int) (IntKind.i64.wrap (i + 1)) (u.pre : Int) (u.post : Int) (u.hold : Int) (u.lim : Int) s1 s2 (acc.length + 1) (shotCells acc ++ [AV.int .i64 (t : Int), AV.bool false])
     else r m cs q ar (n : Int) ((whole + 1 : Nat) : Int) i (to : Int) ((done + 1 : Nat) : Int) ((t + u.post : Nat) : Int) ((t + u.post : Nat) : Int) (u.pre : Int) (u.post : Int) (u.hold : Int) (u.lim : Int) s1 s2 (acc.length + 1) (shotCells acc ++ [AV.int .i64 (t : Int), AV.bool true])) =
     r0 m cs q ar (n : Int) ((if t + u.post > to then (acc ++ [(t, false)], whole) else shotsIn u (boolsOf cs) to (n + 1) (t + u.post) (done + 1) (whole + 1) (t + u.post) (acc ++ [(t, true)])).2 : Int) (IntKind.i64.wrap (i + 1)) (u.pre : Int) (u.post : Int) (u.hold : Int) (u.lim : Int) s1 s2 (if t + u.post > to then (acc ++ [(t, false)], whole) else shotsIn u (boolsOf cs) to (n + 1) (t + u.post) (done + 1) (whole + 1) (t + u.post) (acc ++ [(t, true)])).1.length (shotCells (if t + u.post > to then (acc ++ [(t, false)], whole) else shotsIn u (boolsOf cs) to (n + 1) (t + u.post) (done + 1) (whole + 1) (t + u.post) (acc ++ [(t, true)])).1) := by
    by_cases h8 : to < t + u.post
    ·rw [if_pos h8, if_pos h8]
     simp only [List.length_append, List.length_cons, List.length_nil, shotCells_app]
     rfl
    ·rw [if_neg h8, if_neg h8]
     have := ih (to - (t + u.post)) (by omega) (t + u.post) (done + 1) (whole + 1) (t + u.post) (acc ++ [(t, true)]) (by omega) rfl (by omega) (by omega) (by omega) (by simp only [List.length_append, List.length_cons, List.length_nil]; omega)
     rw [← this]
     simp only [List.length_append, List.length_cons, List.length_nil, shotCells_app]
     rfl
   rw [if_neg hs, ← fin]
   by_cases h7 : 0 < done
   ·have h9 : (0 : Int) < (done : Int) := by omega
    rw [if_pos h9, if_neg (fun h => h6 ⟨h7, h⟩)]
   ·have h9 : ¬ (0 : Int) < (done : Int) := by omega
    rw [if_neg h9]
 ·rw [if_neg h1]
  simp only [shut_eq, condO_dec, Int.ofNat_lt, h1, if_false]
end Go.Abs
end

section
/- The shots of the reference, one arming after another. -/
set_option linter.unusedVariables false
set_option linter.unusedSimpArgs false
namespace Go.Abs
open Go.Proofs Classical Go.Mach
section
variable {R : Type} {x y : Option R}
theorem condS_pos {p : Prop} [Decidable p] (h : p) : condO (shut (decide p)) x y = x := by rw [shut_eq, condO_dec, if_pos h]
theorem condS_neg {p : Prop} [Decidable p] (h : ¬ p) : condO (shut (decide p)) x y = y := by rw [shut_eq, condO_dec, if_neg h]
theorem guardS {p : Prop} [Decidable p] (h : p) : guardO (shut (decide p)) x = x := by rw [shut_eq, guardO_dec, if_pos h]
theorem bindS {α : Type} {o : Option α} {a : α} {f : α → Option R} (h : o = some a) : bindO o f = f a := by rw [h]; rfl
end
def armsN (ar : List AV) : List Nat := (intsOf ar).map Int.toNat
structure Arms (q : Nat) (ar : List AV) (n : Nat) : Prop where
 ints : Ints q ar
 nn : ∀ x ∈ intsOf ar, 0 ≤ x
 asc : Asc 0 (armsN ar) n
theorem armsL_ok {n : Nat} : ∀ {l : List Int} {p : Nat}, p ≤ n → armsL (n : Int) (p : Int) l = 0 → (∀ x ∈ l, 0 ≤ x) ∧ Asc p (l.map Int.toNat) n
 | [], p, h, _ => ⟨by simp, h⟩
 | a :: l, p, h, h2 => by
  unfold armsL at h2
  split at h2
  ·cases h2
  ·split at h2
   ·cases h2
   ·have h3 : ((a.toNat : Nat) : Int) = a := by omega
    have := armsL_ok (l := l) (p := a.toNat) (n := n) (by omega) (by rw [h3]; exact h2)
    refine ⟨?_, ?_, this.2⟩
    ·intro x hx
     rcases List.mem_cons.1 hx with hx | hx
     ·omega
     ·exact this.1 x hx
    ·omega
theorem Arms.of {q : Nat} {ar : List AV} {n : Nat} (h : Ints q ar) (he : armsE q (intsOf ar) (n : Int) = 0) : q ≤ 256 ∧ Arms q ar n := by
 unfold armsE at he
 split at he
 ·cases he
 ·have := armsL_ok (p := 0) (Nat.zero_le n) he
  exact ⟨by omega, h, this.1, this.2⟩
theorem Arms.get {q : Nat} {ar : List AV} {n : Nat} (h : Arms q ar n) {i : Nat} (hi : i < q) : asInt .i64 (ar.getD i .top) = some (((armsN ar).getD i 0 : Nat) : Int) := by
 rw [h.ints.get hi]
 have h1 : i < (intsOf ar).length := by rw [h.ints.len]; exact hi
 have h2 := h.nn ((intsOf ar)[i]) (List.getElem_mem h1)
 simp only [armsN, List.getD_eq_getElem?_getD, List.getElem?_map, List.getElem?_eq_getElem h1, Option.map_some, Option.getD_some]
 rw [Int.toNat_of_nonneg h2]
theorem _root_.Go.Mach.Asc.drop_le {n : Nat} : ∀ {al : List Nat} {t : Nat}, Asc t al n → ∀ {i : Nat}, i < al.length → Asc (al.getD i 0) (al.drop (i + 1)) n ∧ (∀ j, j < i → al.getD j 0 ≤ al.getD i 0)
 | [], t, h, i, hi => absurd hi (Nat.not_lt_zero i)
 | a :: al, t, h, 0, hi => ⟨h.2, fun j hj => absurd hj (Nat.not_lt_zero j)⟩
 | a :: al, t, h, i + 1, hi => by
  have hi' : i < al.length := by simpa using hi
  obtain ⟨h1, h2⟩ := Go.Mach.Asc.drop_le h.2 hi'
  refine ⟨h1, ?_⟩
  intro j hj
  cases j with
  | zero =>
   show a ≤ al.getD i 0
   clear h1 h2 hj
   have : ∀ {al : List Nat} {a : Nat}, Asc a al n → ∀ {i : Nat}, i < al.length → a ≤ al.getD i 0 := by
    intro al
    induction al with
    | nil => intro a _ i hi; exact absurd hi (Nat.not_lt_zero i)
    | cons b al ih =>
     intro a h i hi
     cases i with
     | zero => exact h.1
     | succ i => exact Nat.le_trans h.1 (ih h.2 (by simpa using hi))
   exact this h.2 hi'
  | succ j => exact h2 j (by omega)
theorem run_101' {N : Nat} {u : SU} (hu : SUok u) {m q n : Nat} {cs ar : List AV} (hB : Bls m cs) (hA : Arms q ar n) (hq : q ≤ 256) (hn : n ≤ m) (hm : m ≤ 5000) (h1 : n < N) (h2 : q + 1 < N) :
  (fsW tzm waysM N 8).call (List RLeaf) 101 [setupS u.pre u.post u.hold u.lim, .ofB (.list m cs), .ofB (.list q ar), .ofB (.int .i64 (n : Int))] [] (resK [true]) = some [.fz (shotsArm u (boolsOf cs) n (armsN ar) 0 0 []).length (shotCells (shotsArm u (boolsOf cs) n (armsN ar) 0 0 []))] := by
 rw [run_101]
 have hal : (armsN ar).length = q := by simp [armsN, hA.ints.len]
 have hai : 0 < q → 0 < ar.length := by rw [hA.ints.2.2]; exact id
 refine loopC_rule (fun k (r : R0) => ∀ (i fr whole : Nat) (acc : List (Nat × Bool)), i + k = q + 1 → fr ≤ n → (i ≤ q → fr = if i = 0 then 0 else (armsN ar).getD (i - 1) 0) → whole ≤ 64 → acc.length ≤ 5000 * i →
  r m cs q ar (n : Int) (whole : Int) (i : Int) (u.pre : Int) (u.post : Int) (u.hold : Int) (u.lim : Int) 0 [] acc.length (shotCells acc) =
   (if i ≤ q then some [.fz (shotsArm u (boolsOf cs) n ((armsN ar).drop i) fr whole acc).length (shotCells (shotsArm u (boolsOf cs) n ((armsN ar).drop i) fr whole acc))] else some [.fz acc.length (shotCells acc)])) ?_ N (q + 1) h2 0 0 0 [] (by omega) (by omega) (fun _ => rfl) (by omega) (by simp)
 intro k r ih i fr whole acc hi hfr hfr2 hw ha
 by_cases hiq : i ≤ q
 ·rw [condS_pos (by omega), if_pos hiq]
  have hfr3 := hfr2 hiq
  have ww : IntKind.i64.wrap ((i : Int) + 1) = ((i + 1 : Nat) : Int) := by rw [wrap64] <;> omega
  have to0 : i < q → (armsN ar).drop i = (armsN ar).getD i 0 :: (armsN ar).drop (i + 1) := fun h => drop_cons (by rw [hal]; exact h)
  have to1 : i < q → (armsN ar).getD i 0 ≤ n := fun h => (hA.asc.drop_le (by rw [hal]; exact h)).1.le
  have to2 : ¬ i < q → (armsN ar).drop i = [] := fun h => by rw [List.drop_eq_nil_iff, hal]; omega
  have to3 : i < q → fr ≤ (armsN ar).getD i 0 := fun h => by
   rw [hfr3]
   split
   ·omega
   ·exact (hA.asc.drop_le (by rw [hal]; exact h)).2 (i - 1) (by omega)
  have fin : ∀ (to : Nat), fr ≤ to → to ≤ n → shotsArm u (boolsOf cs) n ((armsN ar).drop i) fr whole acc = (if i < q then shotsArm u (boolsOf cs) n ((armsN ar).drop (i + 1)) ((armsN ar).getD i 0) (shotsIn u (boolsOf cs) to (n + 1) fr 0 whole fr acc).2 (shotsIn u (boolsOf cs) to (n + 1) fr 0 whole fr acc).1 else (shotsIn u (boolsOf cs) to (n + 1) fr 0 whole fr acc).1) →
    r m cs q ar (n : Int) ((shotsIn u (boolsOf cs) to (n + 1) fr 0 whole fr acc).2 : Int) (IntKind.i64.wrap ((i : Int) + 1)) (u.pre : Int) (u.post : Int) (u.hold : Int) (u.lim : Int) 0 [] (shotsIn u (boolsOf cs) to (n + 1) fr 0 whole fr acc).1.length (shotCells (shotsIn u (boolsOf cs) to (n + 1) fr 0 whole fr acc).1) = some [.fz (shotsArm u (boolsOf cs) n ((armsN ar).drop i) fr whole acc).length (shotCells (shotsArm u (boolsOf cs) n ((armsN ar).drop i) fr whole acc))] := by
   intro to h3 h4 h5
   have hmo := shotsIn_most (tr := boolsOf cs) (to := to) hu.post0 (n + 1) fr 0 whole fr acc
   have hm1 := hmo.1
   have hm2 := hmo.2 hw
   rw [ww, h5]
   have := ih (k - 1) (by omega) (i + 1) (if i < q then (armsN ar).getD i 0 else 0) (shotsIn u (boolsOf cs) to (n + 1) fr 0 whole fr acc).2 (shotsIn u (boolsOf cs) to (n + 1) fr 0 whole fr acc).1 (by omega) (by
    by_cases h : i < q
    ·rw [if_pos h]; exact to1 h
    ·rw [if_neg h]; omega) (fun h => by rw [if_pos (by omega), if_neg (by omega)]; rfl) hm2 (by omega)
   rw [this]
   by_cases hlt : i < q
   ·rw [if_pos (by omega), if_pos hlt, if_pos hlt]
   ·rw [if_neg (by omega), if_neg hlt]
  have hmin : i < q → (if (n : Int) < (((armsN ar).getD i 0 : Nat) : Int) then (n : Int) else (((armsN ar).getD i 0 : Nat) : Int)) = ((min ((armsN ar).getD i 0) n : Nat) : Int) := fun h => by
   have := to1 h
   rw [if_neg (by omega)]; omega
  have inn : ∀ (to : Nat) (bot : R8), fr ≤ to → to ≤ n → loopC N (shotF r) bot m cs q ar (n : Int) (whole : Int) (i : Int) (to : Int) ((0 : Nat) : Int) (fr : Int) (fr : Int) (u.pre : Int) (u.post : Int) (u.hold : Int) (u.lim : Int) 0 [] acc.length (shotCells acc) = _ := fun to bot h3 h4 =>
   shot_rule hu hB h4 hn hm (i : Int) fr 0 whole fr acc h3 (by omega) (Nat.zero_le _) hw (by omega) (by omega)
  have arm0 : i < q → shotsArm u (boolsOf cs) n ((armsN ar).drop i) fr whole acc = (if i < q then shotsArm u (boolsOf cs) n ((armsN ar).drop (i + 1)) ((armsN ar).getD i 0) (shotsIn u (boolsOf cs) (min ((armsN ar).getD i 0) n) (n + 1) fr 0 whole fr acc).2 (shotsIn u (boolsOf cs) (min ((armsN ar).getD i 0) n) (n + 1) fr 0 whole fr acc).1 else (shotsIn u (boolsOf cs) (min ((armsN ar).getD i 0) n) (n + 1) fr 0 whole fr acc).1) := fun h => by rw [if_pos h, to0 h]; rfl
  have arm1 : ¬ i < q → shotsArm u (boolsOf cs) n ((armsN ar).drop i) fr whole acc = (if i < q then shotsArm u (boolsOf cs) n ((armsN ar).drop (i + 1)) ((armsN ar).getD i 0) (shotsIn u (boolsOf cs) n (n + 1) fr 0 whole fr acc).2 (shotsIn u (boolsOf cs) n (n + 1) fr 0 whole fr acc).1 else (shotsIn u (boolsOf cs) n (n + 1) fr 0 whole fr acc).1) := fun h => by rw [if_neg h, to2 h]; rfl
  have gd : i < q → (0 : Int) ≤ (i : Int) ∧ (i : Int) < (q : Int) ∧ 0 < ar.length := fun h => ⟨by omega, by omega, hai (by omega)⟩
  have at1 : i < q → asInt .i64 (ar.getD ((i : Int).toNat * 1) .top) = some (((armsN ar).getD i 0 : Nat) : Int) := fun h => by
   rw [Int.toNat_natCast, Nat.mul_one]; exact hA.get h
  by_cases hi0 : i = 0
  ·have e0 : fr = 0 := by rw [hfr3, if_pos hi0]
   rw [condS_neg (by omega)]
   by_cases hlt : i < q
   ·rw [condS_pos (by omega), guardS (gd hlt), bindS (at1 hlt), shut_eq (if (n : Int) < _ then _ else _), hmin hlt]
    have h3 : fr ≤ min ((armsN ar).getD i 0) n := by omega
    have := inn (min ((armsN ar).getD i 0) n) (fun _ _ _ _ _ _ _ _ _ _ _ _ _ _ _ _ _ _ _ => none) h3 (Nat.min_le_right _ _)
    rw [← fin _ h3 (Nat.min_le_right _ _) (arm0 hlt), ← this, e0]
    rfl
   ·rw [condS_neg (by omega)]
    have := inn n (fun _ _ _ _ _ _ _ _ _ _ _ _ _ _ _ _ _ _ _ => none) hfr (Nat.le_refl _)
    rw [← fin _ hfr (Nat.le_refl _) (arm1 hlt), ← this, e0]
    rfl
  ·have e0 : fr = (armsN ar).getD (i - 1) 0 := by rw [hfr3, if_neg hi0]
   have wm : IntKind.i64.wrap ((i : Int) - 1) = ((i - 1 : Nat) : Int) := by rw [wrap64] <;> omega
   rw [condS_pos (by omega)]
   rw [shut_eq (IntKind.i64.wrap ((i : Int) - 1)), wm, guardS ⟨by omega, by omega, hai (by omega)⟩, bindS (show asInt .i64 (ar.getD ((((i - 1 : Nat) : Int)).toNat * 1) .top) = some (fr : Int) by rw [Int.toNat_natCast, Nat.mul_one, e0]; exact hA.get (by omega))]
   by_cases hlt : i < q
   ·rw [condS_pos (by omega), guardS (gd hlt), bindS (at1 hlt), shut_eq (if (n : Int) < _ then _ else _), hmin hlt]
    have h3 : fr ≤ min ((armsN ar).getD i 0) n := by have := to3 hlt; omega
    have := inn (min ((armsN ar).getD i 0) n) (fun _ _ _ _ _ _ _ _ _ _ _ _ _ _ _ _ _ _ _ => none) h3 (Nat.min_le_right _ _)
    rw [← fin _ h3 (Nat.min_le_right _ _) (arm0 hlt), ← this]
    rfl
   ·rw [condS_neg (by omega)]
    have := inn n (fun _ _ _ _ _ _ _ _ _ _ _ _ _ _ _ _ _ _ _ => none) hfr (Nat.le_refl _)
    rw [← fin _ hfr (Nat.le_refl _) (arm1 hlt), ← this]
    rfl
 ·rw [condS_neg (by omega), if_neg hiq]
end Go.Abs
end

section
/- Lists of segments that are the program's results. -/
set_option linter.unusedVariables false
set_option linter.unusedSimpArgs false
namespace Go.Abs
open Go.Proofs Classical Go.Mach
abbrev SegO := SegF (Option Nat)
def cell5 (s : SegO) : List AV := [.int .i64 s.start, .int .i64 s.trig, .list s.smp.length (flosL s.smp), .int .i64 s.lost, .int .i64 s.missed]
def segCells (L : List SegO) : List AV := (L.map cell5).flatten
theorem segCells_app {L L' : List SegO} : segCells (L ++ L') = segCells L ++ segCells L' := by simp [segCells]
theorem segCells_len {L : List SegO} : (segCells L).length = L.length * 5 := by
 unfold segCells
 rw [flat_len (C := 5) (by intro e he; obtain ⟨s, _, rfl⟩ := List.mem_map.1 he; rfl)]
 simp
theorem segCells_get {L : List SegO} {i r : Nat} (hr : r < 5) (hi : i < L.length) : (segCells L).getD (i * 5 + r) .top = (cell5 L[i]).getD r .top := by
 unfold segCells
 rw [List.getD_eq_getElem?_getD, flat_get (C := 5) (by intro e he; obtain ⟨s, _, rfl⟩ := List.mem_map.1 he; rfl) hr, List.getElem?_map, List.getElem?_eq_getElem hi]
 rw [List.getD_eq_getElem?_getD]; rfl
def segA (s : SegO) : SegA := ⟨s.start, s.trig, s.smp.length, flosL s.smp, s.lost, s.missed⟩
theorem segAt_C {L : List SegO} {i : Nat} (hi : i < L.length) : segAt (segCells L) i = segA L[i] := by
 have h0 := segCells_get (r := 0) (by omega) hi
 have h1 := segCells_get (r := 1) (by omega) hi
 have h2 := segCells_get (r := 2) (by omega) hi
 have h3 := segCells_get (r := 3) (by omega) hi
 have h4 := segCells_get (r := 4) (by omega) hi
 rw [Nat.add_zero] at h0
 unfold segAt
 rw [h0, h1, h2, h3, h4]
 rfl
theorem segs_C {L : List SegO} (h : L.length < 9223372036854775808) (hs : ∀ s ∈ L, s.smp.length < 9223372036854775808) : Segs L.length (segCells L) := by
 refine ⟨h, segCells_len, ?_, ?_, ?_, ?_, ?_, ?_⟩ <;> intro i hi <;> rw [segAt_C hi]
 ·exact segCells_get (r := 0) (by omega) hi
 ·exact segCells_get (r := 1) (by omega) hi
 ·exact segCells_get (r := 2) (by omega) hi
 ·exact segCells_get (r := 3) (by omega) hi
 ·exact segCells_get (r := 4) (by omega) hi
 ·exact Flos_L (hs _ (List.getElem_mem hi))
theorem take_add5 {cs : List AV} {k : Nat} (h : k + 5 ≤ cs.length) : cs.take (k + 5) = cs.take k ++ [cs.getD k .top, cs.getD (k + 1) .top, cs.getD (k + 2) .top, cs.getD (k + 3) .top, cs.getD (k + 4) .top] := by
 have g : ∀ j, j < cs.length → cs[j]?.toList = [cs.getD j .top] := by
  intro j hj
  rw [List.getD_eq_getElem?_getD, List.getElem?_eq_getElem hj]; rfl
 rw [show k + 5 = k + 4 + 1 by rfl, List.take_add_one, show k + 4 = k + 3 + 1 by rfl, List.take_add_one, show k + 3 = k + 2 + 1 by rfl, List.take_add_one, show k + 2 = k + 1 + 1 by rfl, List.take_add_one, List.take_add_one, g _ (by omega), g _ (by omega), g _ (by omega), g _ (by omega), g _ (by omega)]
 simp only [List.append_assoc]
 rfl
theorem put5s (a b c d : Int) (n : Nat) (cs : List AV) : putCells (zrow (ofV (Go.Value.agg #[Go.Value.int IntKind.i64 (0 : Int), Go.Value.int IntKind.i64 (0 : Int), Go.Value.slice Option.none 0 0, Go.Value.int IntKind.i64 (0 : Int), Go.Value.int IntKind.i64 (0 : Int)])).cells 5) 0 [AV.int IntKind.i64 a, AV.int IntKind.i64 b, AV.list n cs, AV.int IntKind.i64 c, AV.int IntKind.i64 d] = [AV.int IntKind.i64 a, AV.int IntKind.i64 b, AV.list n cs, AV.int IntKind.i64 c, AV.int IntKind.i64 d] := rfl
theorem run_33' {n : Nat} {cs : List AV} (h : Segs n cs) (hn : n ≤ 100000) : (fsW tzm waysM (n + 1) 8).call (List RLeaf) 33 [.ofB (.list n cs)] [] (resK [false]) = some [.v (.list n cs)] := by
 rw [run_33]
 have hl := h.len
 refine loopC_rule (fun k (r : Nat → List AV → Int → Nat → List AV → Nat → List AV → Option (List RLeaf)) => ∀ (i : Nat), i + k = n → r n cs (i : Int) 0 [] i (cs.take (i * 5)) = some [.v (.list n cs)]) ?_ (n + 1) n (by omega) 0 (by omega)
 intro k r ih i hi
 by_cases hk : i < n
 ·have h2 : 0 < cs.length := by omega
  have h5 : i * 5 + 5 ≤ cs.length := by omega
  have hr : (i + 1) * 57 ≤ 549755813888 := by omega
  have ih' := ih (k - 1) (by omega) (i + 1) (by omega)
  rw [show (i + 1) * 5 = i * 5 + 5 by omega, take_add5 h5, h.c0 i hk, h.c1 i hk, h.c2 i hk, h.c3 i hk, h.c4 i hk] at ih'
  simp only [shut_eq, condO_dec, guardO_dec, Int.ofNat_lt, hk, h2, h5, hr, if_true, Int.toNat_natCast, h.g0 hk, h.g1 hk, h.g2' hk, h.g3' hk, h.g4' hk, bindO_ok, idx64 h.lt hk, and_true, Int.natCast_nonneg, true_and, put5s]
  exact ih'
 ·have : i = n := by omega
  subst this
  simp only [shut_eq, condO_dec, Int.ofNat_lt, hk, if_false, List.take_of_length_le (show cs.length ≤ i * 5 by omega)]
theorem run_34' {n : Nat} {cs : List AV} (h : Segs n cs) : (fsW tzm waysM (n + 1) 8).call (List RLeaf) 34 [.ofB (.list n cs)] [] (resK [false]) = some [.v (.bool ((segsOf n cs).all fun s => (flosOf s.fs).all fun o => !negz o))] := by
 rw [run_34]
 have hl := h.len
 refine loopC_rule (fun k (r : Nat → List AV → Int → Option (List RLeaf)) => ∀ (i : Nat), i + k = n → r n cs (i : Int) = some [.v (.bool (((segsOf n cs).drop i).all fun s => (flosOf s.fs).all fun o => !negz o))]) ?_ (n + 1) n (by omega) 0 (by omega)
 intro k r ih i hi
 by_cases hk : i < n
 ·have h2 : 0 < cs.length := by omega
  rw [segsOf_drop hk, List.all_cons]
  simp only [shut_eq, condO_dec, condO_not, guardO_dec, Int.ofNat_lt, hk, h2, if_true, Int.toNat_natCast, h.g2 hk, bindO_ok, idx64 h.lt hk, and_true, Int.natCast_nonneg, true_and, h.fl i hk, ih (k - 1) (by omega) (i + 1) (by omega)]
  by_cases hc : ((flosOf (segAt cs i).fs).all fun o => !negz o) = true
  ·rw [if_pos hc, hc, Bool.true_and]
  ·rw [if_neg hc, (Bool.not_eq_true _).mp hc, Bool.false_and]
 ·have : i = n := by omega
  subst this
  simp only [shut_eq, condO_dec, Int.ofNat_lt, hk, if_false, List.drop_eq_nil_iff.2 (show (segsOf i cs).length ≤ i by rw [segsOf_len]; omega), List.all_nil]
theorem run_32' {n : Nat} {cs : List AV} (h : Segs n cs) (hs : ∀ i, i < n → sameF (flosOf (segAt cs i).fs) (flosOf (segAt cs i).fs) = true) : (fsW tzm waysM (n + 1) 8).call (List RLeaf) 32 [.ofB (.list n cs), .ofB (.list n cs)] [] (resK [false]) = some [.v (.bool true)] := by
 rw [run_32]
 have hl := h.len
 rw [shut_eq, condO_bne, if_pos rfl]
 refine loopC_rule (fun k (r : Nat → List AV → Nat → List AV → Int → Option (List RLeaf)) => ∀ (i : Nat), i + k = n → r n cs n cs (i : Int) = some [.v (.bool true)]) ?_ (n + 1) n (by omega) 0 (by omega)
 intro k r ih i hi
 by_cases hk : i < n
 ·have h2 : 0 < cs.length := by omega
  simp only [shut_eq, condO_dec, condO_not, condO_bne, guardO_dec, Int.ofNat_lt, hk, h2, if_true, Int.toNat_natCast, Nat.add_zero, h.g0 hk, h.g1 hk, h.g2 hk, h.g3 hk, h.g4 hk, bindO_ok, idx64 h.lt hk, and_true, Int.natCast_nonneg, true_and, h.fl i hk, hs i hk, ih (k - 1) (by omega) (i + 1) (by omega)]
 ·simp only [shut_eq, condO_dec, Int.ofNat_lt, hk, if_false]
end Go.Abs
end

section
/- Tables of calls, each shown by running it on the empty heap. -/
set_option linter.unusedSimpArgs false
set_option linter.unusedVariables false
namespace Go.Abs
open Go.Proofs
abbrev AwE := FuncId × List AV × AV
def tabOf (l : List AwE) : Tab := fun g => l.filterMap fun e => match Nat.beq e.1 g with
 | true => some e.2
 | false => none
noncomputable def entOk (sel : FuncId → Nat) (T : Tab) (e : AwE) : Bool :=
 match acallT Tryz.prog (fun _ => none) (tryzFs sel T) 4096 e.1 e.2.1 Heap.empty with
 | some (y, _) => asame 16 y e.2.2 && apure 8 e.2.2
 | none => false
noncomputable def entsOk (sel : FuncId → Nat) (T : Tab) : List AwE → Bool
 | [] => true
 | e :: l => entOk sel T e && entsOk sel T l
def EntsOk (l : List AwE) : Prop := ∀ e ∈ l, Pure e.2.2 ∧ ∃ H', CallOk Tryz.prog (fun _ => none) e.1 e.2.1 Heap.empty e.2.2 H'
theorem tabOf_ok {l : List AwE} (h : EntsOk l) : TabOk Tryz.prog (fun _ => none) (tabOf l) := by
 intro g args y hm
 simp only [tabOf, List.mem_filterMap] at hm
 obtain ⟨⟨g', e⟩, he, hg⟩ := hm
 split at hg
 ·rename_i hb
  have := nat_beq hb
  simp only at this
  subst this
  simp only [Option.some.injEq] at hg
  subst hg
  exact h _ he
 ·cases hg
theorem entOk_spec {sel : FuncId → Nat} {T : Tab} (hT : TabOk Tryz.prog (fun _ => none) T) {e : AwE} (h : entOk sel T e = true) : Pure e.2.2 ∧ ∃ H', CallOk Tryz.prog (fun _ => none) e.1 e.2.1 Heap.empty e.2.2 H' := by
 unfold entOk at h
 split at h
 ·rename_i y H' hc
  simp only [Bool.and_eq_true] at h
  have := (asame_eq 16).1 _ _ h.1
  subst this
  exact ⟨apure_pure 8 _ h.2, H', acallT_ok tryz_orders tryz_noNum (tryz_ok hT) hc⟩
 ·cases h
theorem entsOk_spec {sel : FuncId → Nat} {T : Tab} (hT : TabOk Tryz.prog (fun _ => none) T) : ∀ {l : List AwE}, entsOk sel T l = true → EntsOk l := by
 intro l
 induction l with
 | nil => intro _ e he; cases he
 | cons e l ih =>
  intro h e' he'
  simp only [entsOk, Bool.and_eq_true] at h
  rcases List.mem_cons.1 he' with rfl | he'
  ·exact entOk_spec hT h.1
  ·exact ih h.2 e' he'
theorem EntsOk.append {l m : List AwE} (h : EntsOk l) (k : EntsOk m) : EntsOk (l ++ m) := fun e he => (List.mem_append.1 he).elim (h e) (k e)
theorem EntsOk.nil : EntsOk [] := fun e he => by cases he
def tryzSel (g : FuncId) : Nat := match Nat.testBit 728523066725047396144376072008518052478976107362887381974314297756303991243893145600 g with
 | true => 1
 | false => 0
end Go.Abs
end

