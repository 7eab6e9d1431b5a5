/- Part 45 of the library that the proof of the statement uses: an abstract run of the program, proved right, and what its functions give. -/
import Derived.Test.YtkloadomnblkeaaGreatDoorPt9
import Derived.Test.YtkloadomnblkeaaGreatDoorPt30
set_option linter.unusedVariables false
set_option linter.unusedSimpArgs false

noncomputable section
namespace Go.Abs
open Go.Proofs Classical Go.RowKit
theorem deep_of {xs:List AV} (h:ShRs [.sl [.flo .f32],.int .i64] xs):∃ n cs b,xs=[.list n cs,.int .i64 b]/\Flos n cs:=by
 match xs,h.1 with
 | [x0,x1],_=>
  obtain ⟨n,cs,rfl,h0⟩:=flos_of (h.2 0 _ x0 rfl rfl)
  have h1:=h.2 1 _ x1 rfl rfl
  cases h1
  exact ⟨n,cs,_,rfl,h0⟩
theorem askN_of {xs:List AV} (h:ShRs [.int .i64,.int .i64,.int .i64,.flo .f32] xs):∃ f t c o,xs=[.int .i64 f,.int .i64 t,.int .i64 c,.flo .f32 o]:=by
 match xs,h.1 with
 | [x0,x1,x2,x3],_=>
  have h0:=h.2 0 _ x0 rfl rfl
  have h1:=h.2 1 _ x1 rfl rfl
  have h2:=h.2 2 _ x2 rfl rfl
  have h3:=h.2 3 _ x3 rfl rfl
  cases h0;cases h1;cases h2;cases h3
  all_goals exact ⟨_,_,_,_,rfl⟩
end Go.Abs
end
