/- Part 12 of the library that the proof of the statement uses: an abstract run of the program, proved right, and what its functions give. -/
import Derived.Test.YtkloadomnblkeaaGreatDoorCv11
set_option linter.unusedVariables false
set_option linter.unusedSimpArgs false

section
/- The symbolic run of any program, and what laws make of it. -/
set_option linter.unusedVariables false
set_option linter.unusedSimpArgs false
namespace Go.Abs
open Classical Go.RowKit

/-- How loops are run: of which shapes their states are; which are run round by round. -/
structure Ways where
  vary : FuncId → Nat → Option (SSt → Vary)
  unroll : FuncId → Nat → Option (Tmp × Nat)
  join : List Nat
  picks : List Nat
  joins : List JoinE
  rjoins : List JoinE
  deeps : List (Nat × Nat)

/-- No ways. -/
def ways0 : Ways := ⟨fun _ _ => none, fun _ _ => none, [], [], [], [], []⟩

/-- The run with a table, and ways. -/
noncomputable def fsG (P : Program) (M : List (Nat × List (Nat × Nat × Nat))) (l : List (FuncId × Ent)) (W : Ways) (N k : Nat) : FnS := fsS P (tabL l) (domL l) (fun g => hasNat g W.join) N (liveOf M) (asgU M W.vary W.unroll (fun g => hasNat g W.picks) W.joins W.rjoins W.deeps) k

section
variable {P : Program} {M : List (Nat × List (Nat × Nat × Nat))} {l : List (FuncId × Ent)} {W : Ways} {N k : Nat} {g : FuncId}

theorem con_ofG (hm : P.follows .mixedOrders = true) (hnum : NoNum P) (hl : TabLOk P l) {args' : List AV} {ms : List Bool} {d : List RLeaf}
    (h : (fsG P M l W N k).call (List RLeaf) g (args'.map symA) [] (resK ms) = some d) (ha : ∀ x ∈ args', ArgOk x) (hp : FzPlain d) : Contract P g args' d :=
  contract_of hm hnum (tabL_ok hl) h ha hp

/-- A law: from the symbolic run to the call. -/
theorem law_ofG (hm : P.follows .mixedOrders = true) (hnum : NoNum P) (hl : TabLOk P l) {xs : List AV} (hx : ∀ x ∈ xs, ArgR x)
    (h : (fsG P M l W N k).call (List RLeaf) g (xs.map symA) [] (resK [false]) = some [.v (.bool true)]) {w : World} {args : Array Value} (ha : VRels ⟨Old w, w.heap, id, 0⟩ xs args.toList) :
    Calls P g args w fun e w' => e = .returned (.bool true) ∧ Below w.heap.size w w' := by
  have hs : ∀ (xs : List AV), (∀ x ∈ xs, ArgR x) → normArgs Heap.empty xs = some (xs, false) ∧ ∀ x ∈ xs, ArgOk x := by
    intro xs
    induction xs with
    | nil => intro _; exact ⟨rfl, fun x h => by cases h⟩
    | cons x xs ih =>
      intro hx
      obtain ⟨i1, i2⟩ := ih fun y hy => hx y (List.mem_cons_of_mem _ hy)
      obtain ⟨j1, j2⟩ := (hx x List.mem_cons_self).norm (H := Heap.empty)
      refine ⟨by simp only [normArgs, j1, i1, Bool.or_self], fun y hy => ?_⟩
      rcases List.mem_cons.1 hy with rfl | hy
      · exact j2
      · exact i2 y hy
  obtain ⟨h1, h2⟩ := hs xs hx
  have hc := con_ofG hm hnum hl h h2 trivial
  exact (hc Heap.empty xs false h1 (fun e => by cases e)).law ha

end

/-- An entry for a function that always gives the same. -/
theorem ent_const {P : Program} {g : FuncId} {y : AV} (hy : LeafOk (.v y)) (hc : ∀ H, CallOk P (fun _ => none) g [] H y H) (f : Ent) (hf : ∀ args' R K, f args' R K = match args' with | [] => K [.v y] | _ => none) : EntOk P g f := by
  intro args' R K r ha h
  rw [hf] at h
  split at h
  · refine ⟨[.v y], fun R' K' => hf _ _ _, fun l hl => by simp only [List.mem_singleton] at hl; subst hl; exact hy, ?_⟩
    intro H args bor hn hb
    have : args = [] := by
      cases args with
      | nil => rfl
      | cons x xs =>
        simp only [normArgs] at hn
        split at hn
        · simp at hn
        · cases hn
    subst this
    exact hc H
  · cases h

end Go.Abs
end

