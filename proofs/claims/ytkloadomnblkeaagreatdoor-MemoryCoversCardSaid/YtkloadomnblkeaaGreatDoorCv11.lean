/- Part 11 of the library that the proof of the statement uses: an abstract run of the program, proved right, and what its functions give. -/
import Derived.Test.YtkloadomnblkeaaGreatDoorCv10
set_option linter.unusedVariables false
set_option linter.unusedSimpArgs false

section
/- Arguments of laws. -/
set_option linter.unusedVariables false
set_option linter.unusedSimpArgs false
namespace Go.Abs
open Classical Go.RowKit

theorem ShR.cell {s : Sh} {x : AV} (h : ShR s x) : Cell x := by
  induction h with
  | bool b => exact .bool b
  | int k z _ => exact .int k z
  | flo k o _ => exact .flo k o
  | str s _ => exact .string s
  | sl es n els hn hl he hv ih =>
    refine .list _ _ fun x hx => ?_
    obtain ⟨e, h1, h2⟩ := List.mem_flatten.1 hx
    obtain ⟨j, hj⟩ := List.getElem?_of_mem h2
    have hlt := (List.getElem?_eq_some_iff.1 hj).1
    rw [he e h1] at hlt
    exact ih e h1 j _ x (List.getElem?_eq_getElem hlt) hj

theorem ShR.arg {s : Sh} {x : AV} (h : ShR s x) : ArgOk x := by
  have hc := h.cell
  cases hc <;> first | trivial | (rename_i h; exact h)

theorem ShR.flat1 {es : List (List AV)} (h : ∀ e ∈ es, e.length = 1) : ∀ {x : AV}, x ∈ es.flatten → [x] ∈ es := by
  intro x hx
  obtain ⟨e, h1, h2⟩ := List.mem_flatten.1 hx
  have := h e h1
  match e, this with
  | [y], _ => simp only [List.mem_singleton] at h2; subst h2; exact h1

theorem ints_of {x : AV} (h : ShR (.sl [.int .i64]) x) : ∃ n cs, x = .list n cs ∧ Ints n cs := by
  cases h with
  | sl es n els hn hl he hv =>
    refine ⟨n, els.flatten, rfl, by unfold maxLen at hn; omega, ?_, by rw [flat_len he]; simp [hl]⟩
    have : ∀ x ∈ els.flatten, AV.int .i64 (toI x) = x := by
      intro x hx
      have := hv [x] (ShR.flat1 he hx) 0 _ x rfl rfl
      cases this; rfl
    unfold intsOf
    rw [List.map_map]
    exact (List.map_congr_left (g := id) this |>.trans (List.map_id _)).symm

theorem flos_of {x : AV} (h : ShR (.sl [.flo .f32]) x) : ∃ n cs, x = .list n cs ∧ Flos n cs := by
  cases h with
  | sl es n els hn hl he hv =>
    refine ⟨n, els.flatten, rfl, by unfold maxLen at hn; omega, ?_, by rw [flat_len he]; simp [hl]⟩
    have : ∀ x ∈ els.flatten, AV.flo .f32 (toF x) = x := by
      intro x hx
      have := hv [x] (ShR.flat1 he hx) 0 _ x rfl rfl
      cases this; rfl
    unfold flosOf
    rw [List.map_map]
    exact (List.map_congr_left (g := id) this |>.trans (List.map_id _)).symm

def toLi : AV → Nat × List AV
  | .list n cs => (n, cs)
  | _ => (0, [])

/-- Values that are their own reading. -/
theorem normArg_self {H : Heap} {s : Sh} {x : AV} (h : ShR s x) : normArg H x = some (x, false) := by
  have hc := h.cell
  have hp := hc.pure
  cases hc <;> simp only [normArg, normCell] <;> rw [if_pos ⟨hp, fun cs e => by cases e⟩]

/-- An argument: a cell, or a struct of cells. -/
inductive ArgR : AV → Prop
  | cell {s : Sh} {x : AV} (h : ShR s x) : ArgR x
  | agg {ss : List Sh} {xs : List AV} (h : ShRs ss xs) : ArgR (.agg xs)

theorem normCell_self {H : Heap} {s : Sh} {x : AV} (h : ShR s x) : normCell H x = some (x, false) := by
  have hc := h.cell
  have hp := hc.pure
  cases hc <;> simp only [normCell] <;> rw [if_pos ⟨hp, fun cs e => by cases e⟩]

theorem normCells_self {H : Heap} : ∀ (ss : List Sh) (xs : List AV), ShRs ss xs → normCells H xs = some (xs, false) ∧ ∀ x ∈ xs, ArgOk1 x
  | ss, [], _ => ⟨rfl, fun x h => by cases h⟩
  | [], x :: xs, hx => by have := hx.1; simp at this
  | s :: ss, x :: xs, hx => by
    have h0 := hx.2 0 s x rfl rfl
    obtain ⟨i1, i2⟩ := normCells_self (H := H) ss xs ⟨by have := hx.1; simpa using this, fun j s x a b => hx.2 (j + 1) s x (by simpa using a) (by simpa using b)⟩
    refine ⟨by simp only [normCells, normCell_self h0, i1, Bool.or_self], fun y hy => ?_⟩
    rcases List.mem_cons.1 hy with rfl | hy
    · have := h0.cell
      cases this <;> first | trivial | (rename_i h; exact h)
    · exact i2 y hy

theorem ArgR.norm {H : Heap} {x : AV} (h : ArgR x) : normArg H x = some (x, false) ∧ ArgOk x := by
  cases h with
  | cell h => exact ⟨normArg_self h, h.arg⟩
  | agg h =>
    obtain ⟨a, b⟩ := normCells_self (H := H) _ _ h
    exact ⟨by simp only [normArg, a], b⟩

section
variable {H : Type} {enc : TypeId × Value → H} {P : Program} {w : World} {base : Nat} {spare : Nat → Bool} {held : Bool}
/-- One argument that is a struct of cells. -/
theorem open_argS {d : Nat} {t : TypeId} {ss : List Sh} {cs : Array Value} {y : DataW H} {ps : List MemPlace} (hs : shOf P d t = some ss) (h : DataW.Trod enc P w base spare held t (.agg cs) y ps) :
    ∃ xs : List AV, ShRs ss xs ∧ VRel ⟨Old w, w.heap, id, 0⟩ (.agg xs) (.agg cs) := by
  obtain ⟨fuel, hf⟩ := h
  have hv : (Value.agg cs).cells.toList = cs.toList := rfl
  rw [hv] at hf
  obtain ⟨xs, h1, h2⟩ := open_cells d fuel t ss _ _ hs hf
  refine ⟨xs, h1, .agg xs cs ?_ fun j x v a b => h2.2 j x v a (by simpa using b)⟩
  have := h2.1; simpa using this
end

end Go.Abs
end

