/- Part 13 of the library that the proof of the statement uses: an abstract run of the program, proved right, and what its functions give. -/
import Derived.Test.YtaejnfdlolfpkaaGreatDoorStr12
set_option linter.unusedVariables false
set_option linter.unusedSimpArgs false

section
/- Arguments that are set-ups and streams. -/
set_option linter.unusedVariables false
set_option linter.unusedSimpArgs false
namespace Go.Abs
open Go.Proofs Classical Go.RowKit
theorem bls_of {x : AV} (h : ShR (.sl [.bool]) x) : ∃ n cs, x = .list n cs ∧ Bls n cs := by
 cases h with
 | sl es n els hn hl he hv =>
  refine ⟨n, els.flatten, rfl, by unfold maxLen at hn; omega, ?_, by rw [flat_len he]; simp [hl]⟩
  have : ∀ x ∈ els.flatten, AV.bool (toB x) = x := by
   intro x hx
   have := hv [x] (ShR.flat1 he hx) 0 _ x rfl rfl
   cases this; rfl
  unfold boolsL boolsOf
  rw [List.map_map]
  exact (List.map_congr_left (g := id) this |>.trans (List.map_id _)).symm
theorem setup_of {xs : List AV} (h : ShRs [.int .i64, .int .i64, .int .i64, .int .i64] xs) : ∃ a b c d, xs = [.int .i64 a, .int .i64 b, .int .i64 c, .int .i64 d] := by
 match xs, h.1 with
 | [x0, x1, x2, x3], _ =>
  have h0 := h.2 0 _ x0 rfl rfl
  have h1 := h.2 1 _ x1 rfl rfl
  have h2 := h.2 2 _ x2 rfl rfl
  have h3 := h.2 3 _ x3 rfl rfl
  cases h0; cases h1; cases h2; cases h3
  exact ⟨_, _, _, _, rfl⟩
theorem stream_of {xs : List AV} (h : ShRs [.sl [.flo .f32], .sl [.bool], .sl [.int .i64]] xs) : ∃ n cs m fs q ar, xs = [.list n cs, .list m fs, .list q ar] ∧ Flos n cs ∧ Bls m fs ∧ Ints q ar := by
 match xs, h.1 with
 | [x0, x1, x2], _ =>
  obtain ⟨n, cs, rfl, h0⟩ := flos_of (h.2 0 _ x0 rfl rfl)
  obtain ⟨m, fs, rfl, h1⟩ := bls_of (h.2 1 _ x1 rfl rfl)
  obtain ⟨q, ar, rfl, h2⟩ := ints_of (h.2 2 _ x2 rfl rfl)
  exact ⟨n, cs, m, fs, q, ar, rfl, h0, h1, h2⟩
theorem streams_walk {y0 y1 : List AV} (s0 : ShRs [.int .i64, .int .i64, .int .i64, .int .i64] y0) (s1 : ShRs [.sl [.flo .f32], .sl [.bool], .sl [.int .i64]] y1) {w : World} {v0 v1 : Value}
  (r0 : VRel ⟨Old w, w.heap, id, 0⟩ (.agg y0) v0) (r1 : VRel ⟨Old w, w.heap, id, 0⟩ (.agg y1) v1) :
  Calls Tryz.prog 4 #[v0, v1] w fun e w' => e = .returned (.bool true) ∧ Below w.heap.size w w' := by
 obtain ⟨a, b, c, d, rfl⟩ := setup_of s0
 obtain ⟨n, cs, m, fs, q, ar, rfl, hF, hB, hI⟩ := stream_of s1
 exact law_ofA tzs_ok (W := waysN) (N := 1) (k := 8) (xs := [.agg [.int .i64 a, .int .i64 b, .int .i64 c, .int .i64 d], .agg [.list n cs, .list m fs, .list q ar]])
  (fun x hx => by
   rcases List.mem_cons.1 hx with rfl | hx
   ·exact .agg s0
   rcases List.mem_cons.1 hx with rfl | hx
   ·exact .agg s1
   cases hx) (run_4' (by omega) hF hB hI) ((VRels.of_one r0).app (VRels.of_one r1))
end Go.Abs
end

