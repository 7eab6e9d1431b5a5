/- Part 44 of the library of the proof: an abstract run of the program. -/
import Derived.Test.YtkloadomnblkeaaGreatDoorAp42
import Derived.Test.YtkloadomnblkeaaGreatDoorAp43
set_option linter.unusedVariables false
set_option linter.unusedSimpArgs false

noncomputable section
namespace Go.Abs
open Go.Proofs Classical Go.RowKit
theorem appends_walk {x0 x2:AV} {y1:List AV} (s0:ShR (.sl [.flo .f32]) x0) (s1:ShRs [.int .i64,.sl [.sl [.flo .f32,.flo .f32]]] y1) (s2:ShR (.sl [.flo .f32]) x2) {w:World} {v0 v1 v2:Value}
  (r0:VRel ⟨Old w,w.heap,id,0⟩ x0 v0) (r1:VRel ⟨Old w,w.heap,id,0⟩ (.agg y1) v1) (r2:VRel ⟨Old w,w.heap,id,0⟩ x2 v2):
  Calls Tryz.prog 15 #[v0,v1,v2] w fun e w'=>e=.returned (.bool true)/\Below w.heap.size w w':=by
 obtain ⟨n,cs,rfl,h0⟩:=flos_of s0
 obtain ⟨b,m,ls,rfl,h1⟩:=tree_of s1
 obtain ⟨q,ds,rfl,h2⟩:=flos_of s2
 exact law_ofG tryz_orders tryz_noNum mzAq_ok (M:=mmMasks) (W:=waysA) (N:=n+q+100) (k:=12) (xs:=[.list n cs,.agg [.int .i64 b,.list m ls],.list q ds])
  (fun x hx=>by
   rcases List.mem_cons.1 hx with rfl | hx
   ·exact .cell s0
   rcases List.mem_cons.1 hx with rfl | hx
   ·exact .agg s1
   rcases List.mem_cons.1 hx with rfl | hx
   ·exact .cell s2
   cases hx) (run_15' h0 h1 h2 (by omega)) (((VRels.of_one r0).app (VRels.of_one r1)).app (VRels.of_one r2))
end Go.Abs
end
