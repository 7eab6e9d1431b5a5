/- Part 38 of the library that the proof of the statement uses: an abstract run of the program, proved right, and what its functions give. -/
import Derived.Test.YtkloadomnblkeaaGreatDoorBd37
set_option linter.unusedVariables false
set_option linter.unusedSimpArgs false

section
/- MemoryBuilds: from its arguments to the call. -/
set_option linter.unusedVariables false
set_option linter.unusedSimpArgs false
namespace Go.Abs
open Go.Proofs Classical Go.RowKit

theorem prs_of {x : AV} (h : ShR (.sl [.flo .f32, .flo .f32]) x) : ∃ k cs, x = AV.list k cs ∧ cs = (flosOf cs).map (AV.flo .f32) ∧ cs.length = 2 * k := by
  cases h with
  | sl es n els hn hl he hv =>
    refine ⟨n, els.flatten, rfl, ?_, by rw [flat_len he, hl]; simp [Nat.mul_comm]⟩
    have : ∀ x ∈ els.flatten, AV.flo .f32 (toF x) = x := by
      intro x hx
      obtain ⟨e, h1, h2⟩ := List.mem_flatten.1 hx
      have hle := he e h1
      obtain ⟨j, hj, hxe⟩ := List.mem_iff_getElem.1 h2
      have hj2 : j < 2 := by rw [hle] at hj; exact hj
      have hs : ([Sh.flo .f32, Sh.flo .f32])[j]? = some (Sh.flo .f32) := by
        match j, hj2 with
        | 0, _ => rfl
        | 1, _ => rfl
      have := hv e h1 j _ x hs (by rw [List.getElem?_eq_getElem hj, hxe])
      cases this with
      | flo k o h => rfl
    unfold flosOf
    rw [List.map_map]
    exact (List.map_congr_left (g := id) this |>.trans (List.map_id _)).symm

theorem lvsw_of {x : AV} (h : ShR (.sl [.sl [.flo .f32, .flo .f32]]) x) : ∃ m ls, x = .list m ls ∧ LvsW m ls := by
  cases h with
  | sl es n els hn hl he hv =>
    refine ⟨n, els.flatten, rfl, by rw [flat_len he]; simp [hl], fun c hc => ?_⟩
    exact prs_of (hv [c] (ShR.flat1 he hc) 0 _ c rfl rfl)

theorem tree_of {xs : List AV} (h : ShRs [.int .i64, .sl [.sl [.flo .f32, .flo .f32]]] xs) : ∃ b m ls, xs = [.int .i64 b, .list m ls] ∧ LvsW m ls := by
  match xs, h.1 with
  | [x0, x1], _ =>
    have h0 := h.2 0 _ x0 rfl rfl
    obtain ⟨m, ls, rfl, h1⟩ := lvsw_of (h.2 1 _ x1 rfl rfl)
    cases h0
    exact ⟨_, m, ls, rfl, h1⟩

theorem deep_of {xs : List AV} (h : ShRs [.sl [.flo .f32], .int .i64] xs) : ∃ n cs b, xs = [.list n cs, .int .i64 b] ∧ Flos n cs := by
  match xs, h.1 with
  | [x0, x1], _ =>
    obtain ⟨n, cs, rfl, h0⟩ := flos_of (h.2 0 _ x0 rfl rfl)
    have h1 := h.2 1 _ x1 rfl rfl
    cases h1
    exact ⟨n, cs, _, rfl, h0⟩

theorem builds_walk {y0 y1 : List AV} (s0 : ShRs [.sl [.flo .f32], .int .i64] y0) (s1 : ShRs [.int .i64, .sl [.sl [.flo .f32, .flo .f32]]] y1) {w : World} {v0 v1 : Value}
    (r0 : VRel ⟨Old w, w.heap, id, 0⟩ (.agg y0) v0) (r1 : VRel ⟨Old w, w.heap, id, 0⟩ (.agg y1) v1) :
    Calls Tryz.prog 3 #[v0, v1] w fun e w' => e = .returned (.bool true) ∧ Below w.heap.size w w' := by
  obtain ⟨n, cs, b, rfl, h0⟩ := deep_of s0
  obtain ⟨c, m, ls, rfl, h1⟩ := tree_of s1
  exact law_ofG tryz_orders tryz_noNum mzO_ok (M := mmMasks) (W := waysQ) (N := 1) (k := 12) (xs := [.agg [.list n cs, .int .i64 b], .agg [.int .i64 c, .list m ls]])
    (fun x hx => by
      rcases List.mem_cons.1 hx with rfl | hx
      · exact .agg s0
      rcases List.mem_cons.1 hx with rfl | hx
      · exact .agg s1
      cases hx) (run_3' h0 h1) ((VRels.of_one r0).app (VRels.of_one r1))

end Go.Abs
end

