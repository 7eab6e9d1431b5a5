/- Part 46 of the library of the proof: an abstract run of the program. -/
import Derived.Test.YtkloadomnblkeaaGreatDoorHt8
import Derived.Test.YtkloadomnblkeaaGreatDoorHt30
set_option linter.unusedVariables false
set_option linter.unusedSimpArgs false

noncomputable section
namespace Go.Abs
open Go.Proofs Classical Go.RowKit
theorem TJ {xs:List AV} (h:m6 [.sl [.aL .f32],.int .i64] xs):∃ n cs b,xs=[.list n cs,.int .i64 b]/\bu n cs:=by
 match xs,h.1 with
 | [x0,x1],_=>
  obtain ⟨n,cs,rfl,h0⟩:=TE (h.2 0 _ x0 rfl rfl)
  have h1:=h.2 1 _ x1 rfl rfl
  cases h1
  exact ⟨n,cs,_,rfl,h0⟩
theorem TK {xs:List AV} (h:m6 [.int .i64,.int .i64,.int .i64,.aL .f32] xs):∃ f t c o,xs=[.int .i64 f,.int .i64 t,.int .i64 c,.aL .f32 o]:=by
 match xs,h.1 with
 | [x0,x1,x2,x3],_=>
  have h0:=h.2 0 _ x0 rfl rfl
  have h1:=h.2 1 _ x1 rfl rfl
  have h2:=h.2 2 _ x2 rfl rfl
  have h3:=h.2 3 _ x3 rfl rfl
  cases h0;cases h1;cases h2;cases h3
  all_goals exact ⟨_,_,_,_,rfl⟩
end Go.Abs
end
