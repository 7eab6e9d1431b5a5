/- Part 13 of the library that the proof of the statement uses: an abstract run of the program, proved right, and what its functions give. -/
import Derived.Test.YtaejnfdlolfpkaaGreatDoorBlk2
set_option linter.unusedVariables false
set_option linter.unusedSimpArgs false

section
/- From a law's symbolic run to the call. -/
set_option linter.unusedVariables false
set_option linter.unusedSimpArgs false
namespace Go.Abs
open Go.Proofs Classical Go.RowKit

/-- Values that are their own reading. -/
theorem normArg_self {H : Heap} {s : Sh} {x : AV} (h : ShR s x) : normArg H x = some (x, false) := by
  have hc := h.cell
  have hp := hc.pure
  cases hc <;> simp only [normArg, normCell] <;> rw [if_pos ⟨hp, fun cs e => by cases e⟩]

/-- A law whose arguments are single cells: from the symbolic run to the call. -/
theorem law_of {l : List (FuncId × Ent)} (hl : TabLOk Tryz.prog l) {N k : Nat} {g : FuncId} {ss : List Sh} {xs : List AV} (hx : ShRs ss xs)
    (h : (fsZ l N k).call (List RLeaf) g (xs.map symA) [] (resK [false]) = some [.v (.bool true)]) {w : World} {args : Array Value} (ha : VRels ⟨Old w, w.heap, id, 0⟩ xs args.toList) :
    Calls Tryz.prog g args w fun e w' => e = .returned (.bool true) ∧ Below w.heap.size w w' := by
  have hs : ∀ (ss : List Sh) (xs : List AV), ShRs ss xs → normArgs Heap.empty xs = some (xs, false) ∧ ∀ x ∈ xs, ArgOk x := by
    intro ss xs
    induction xs generalizing ss with
    | nil => intro _; exact ⟨rfl, fun x h => by cases h⟩
    | cons x xs ih =>
      intro hx
      match ss, hx with
      | [], hx => have := hx.1; simp at this
      | s :: ss, hx =>
        have h0 := hx.2 0 s x rfl rfl
        obtain ⟨i1, i2⟩ := ih ss ⟨by have := hx.1; simpa using this, fun j s x a b => hx.2 (j + 1) s x (by simpa using a) (by simpa using b)⟩
        refine ⟨by simp only [normArgs, normArg_self h0, i1, Bool.or_self], fun y hy => ?_⟩
        rcases List.mem_cons.1 hy with rfl | hy
        · exact h0.arg
        · exact i2 y hy
  obtain ⟨h1, h2⟩ := hs ss xs hx
  have hc := con_of hl h h2 trivial
  exact (hc Heap.empty xs false h1 (fun e => by cases e)).law ha

end Go.Abs
end

