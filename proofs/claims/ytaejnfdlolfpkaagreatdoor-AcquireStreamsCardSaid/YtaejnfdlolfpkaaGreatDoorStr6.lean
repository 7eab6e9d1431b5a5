/- Part 6 of the library that the proof of the statement uses: an abstract run of the program, proved right, and what its functions give. -/
import Derived.Test.YtaejnfdlolfpkaaGreatDoorStr5
set_option linter.unusedVariables false
set_option linter.unusedSimpArgs false

section
/- From a law's symbolic run to the call. -/
set_option linter.unusedVariables false
set_option linter.unusedSimpArgs false
namespace Go.Abs
open Go.Proofs Classical Go.RowKit
theorem normArg_self {H : Heap} {s : Sh} {x : AV} (h : ShR s x) : normArg H x = some (x, false) := by
 have hc := h.cell
 have hp := hc.pure
 cases hc <;> simp only [normArg, normCell] <;> rw [if_pos ⟨hp, fun cs e => by cases e⟩]
end Go.Abs
end

section
/- The base table: samples. -/
set_option linter.unusedVariables false
set_option linter.unusedSimpArgs false
namespace Go.Abs
open Go.Proofs Classical
def intsL (xs : List Int) : List AV := xs.map (AV.int .i64)
theorem put2 (v w : Int) : putCells (putCells (zrow (ofV (Go.Value.int IntKind.i64 (0 : Int))).cells 2) 0 [AV.int IntKind.i64 v]) 1 [AV.int IntKind.i64 w] = [AV.int .i64 v, AV.int .i64 w] := by
 rfl
theorem ints2 (v w : Int) : Ints 2 [AV.int .i64 v, AV.int .i64 w] := ⟨by omega, rfl, rfl⟩
theorem intsL_app {xs ys : List Int} : intsL (xs ++ ys) = intsL xs ++ intsL ys := by simp [intsL]
theorem intsL_plain {xs : List Int} : ∀ c ∈ intsL xs, PlainC c := by
 intro c hc
 obtain ⟨z, _, rfl⟩ := List.mem_map.1 hc
 exact .int _ _
theorem leaf_fz {n : Nat} {cs : List AV} (h : ∀ c ∈ cs, PlainC c) : LeafOk (.fz n cs) := fun c hc => (h c hc).cell
noncomputable def eSamp : Ent := fun args' R K => match args' with
 | [.list n cs] => guardO (shut (decide (Flos n cs))) (K [.v (.int .i64 (shut (sampErr n (flosOf cs))))])
 | _ => none
theorem eSamp_30 : EntOk Tryz.prog 30 eSamp := by
 intro args' R K r ha h
 unfold eSamp at h
 split at h
 ·rename_i n cs
  obtain ⟨h1, h2⟩ := guardO_some h
  rw [shut_eq] at h1
  have h1' := of_decide_eq_true h1
  refine ⟨[.v (.int .i64 (sampErr n (flosOf cs)))], fun _ _ => by simp only [eSamp, shut_eq, h1', decide_true, guardO, and_self], ?_, con_of tz2_ok (N := n + 1) (k := 6) (ms := [false]) ?_ ha trivial⟩
  ·intro l hl; rcases List.mem_cons.1 hl with rfl | hl
   ·exact leaf_int
   cases hl
  ·exact run_30' h1'
 ·cases h
theorem eSamp_98 : EntOk Tryz.prog 98 eSamp := by
 intro args' R K r ha h
 unfold eSamp at h
 split at h
 ·rename_i n cs
  obtain ⟨h1, h2⟩ := guardO_some h
  rw [shut_eq] at h1
  have h1' := of_decide_eq_true h1
  refine ⟨[.v (.int .i64 (sampErr n (flosOf cs)))], fun _ _ => by simp only [eSamp, shut_eq, h1', decide_true, guardO, and_self], ?_, con_of tz2_ok (N := n + 1) (k := 6) (ms := [false]) ?_ ha trivial⟩
  ·intro l hl; rcases List.mem_cons.1 hl with rfl | hl
   ·exact leaf_int
   cases hl
  ·exact run_98' h1'
 ·cases h
theorem con_ofW {l : List (FuncId × Ent)} (hl : TabLOk Tryz.prog l) {W : Ways} {N k : Nat} {g : FuncId} {args' : List AV} {ms : List Bool} {d : List RLeaf}
  (h : (fsW l W N k).call (List RLeaf) g (args'.map symA) [] (resK ms) = some d) (ha : ∀ x ∈ args', ArgOk x) (hp : FzPlain d) : Contract Tryz.prog g args' d :=
 contract_of tryz_orders tryz_noNum (tabL_ok hl) h ha hp
noncomputable def tzB : List (FuncId × Ent) := (30, eSamp) :: (98, eSamp) :: tz2
theorem tzB_ok : TabLOk Tryz.prog tzB := ⟨eSamp_30, eSamp_98, tz2_ok⟩
end Go.Abs
end

