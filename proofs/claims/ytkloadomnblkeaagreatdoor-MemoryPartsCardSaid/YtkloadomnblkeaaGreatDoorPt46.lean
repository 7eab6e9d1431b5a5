/- Part 46 of the library that the proof of the statement uses: an abstract run of the program, proved right, and what its functions give. -/
import Derived.Test.YtkloadomnblkeaaGreatDoorPt44
import Derived.Test.YtkloadomnblkeaaGreatDoorPt45
set_option linter.unusedVariables false
set_option linter.unusedSimpArgs false

noncomputable section
namespace Go.Abs
open Go.Proofs Classical Go.RowKit
theorem parts_walk {y0 y1:List AV} (s0:ShRs [.sl [.flo .f32],.int .i64] y0) (s1:ShRs [.int .i64,.int .i64,.int .i64,.flo .f32] y1) {w:World} {v0 v1:Value}
  (r0:VRel ⟨Old w,w.heap,id,0⟩ (.agg y0) v0) (r1:VRel ⟨Old w,w.heap,id,0⟩ (.agg y1) v1):
  Calls Tryz.prog 12 #[v0,v1] w fun e w'=>e=.returned (.bool true)/\Below w.heap.size w w':=by
 obtain ⟨n,cs,b,rfl,h0⟩:=deep_of s0
 obtain ⟨f,t,c,o,rfl⟩:=askN_of s1
 exact law_ofG tryz_orders tryz_noNum mzS_ok (M:=mmMasks) (W:=waysQ) (N:=n+5021) (k:=12) (xs:=[.agg [.list n cs,.int .i64 b],.agg [.int .i64 f,.int .i64 t,.int .i64 c,.flo .f32 o]])
  (fun x hx=>by
   rcases List.mem_cons.1 hx with rfl | hx
   ·exact .agg s0
   rcases List.mem_cons.1 hx with rfl | hx
   ·exact .agg s1
   cases hx) (run_12' h0 (by omega)) ((VRels.of_one r0).app (VRels.of_one r1))
end Go.Abs
end
