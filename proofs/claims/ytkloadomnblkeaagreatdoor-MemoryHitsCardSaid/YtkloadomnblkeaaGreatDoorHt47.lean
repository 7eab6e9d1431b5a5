/- Part 47 of the library of the proof: an abstract run of the program. -/
import Derived.Test.YtkloadomnblkeaaGreatDoorHt45
import Derived.Test.YtkloadomnblkeaaGreatDoorHt46
set_option linter.unusedVariables false
set_option linter.unusedSimpArgs false

noncomputable section
namespace Go.Abs
open Go.Proofs Classical Go.RowKit
theorem M8 {y0 y1:List AV} (s0:m6 [.sl [.aL .f32],.int .i64] y0) (s1:m6 [.int .i64,.int .i64,.int .i64,.aL .f32] y1) {w:World} {v0 v1:Value}
  (r0:ao ⟨Old w,w.heap,id,0⟩ (.agg y0) v0) (r1:ao ⟨Old w,w.heap,id,0⟩ (.agg y1) v1):
  Calls Tryz.prog 13 #[v0,v1] w fun e w'=>e=.returned (.bool true)/\Below w.heap.size w w':=by
 obtain ⟨n,cs,b,rfl,h0⟩:=TJ s0
 obtain ⟨f,t,c,o,rfl⟩:=TK s1
 exact TH jd ka Xk (M:=Lk) (W:=PT) (N:=n+3) (k:=12) (xs:=[.agg [.list n cs,.int .i64 b],.agg [.int .i64 f,.int .i64 t,.int .i64 c,.aL .f32 o]])
  (fun x hx=>by
   rcases List.mem_cons.1 hx with rfl | hx
   ·exact .agg s0
   rcases List.mem_cons.1 hx with rfl | hx
   ·exact .agg s1
   cases hx) (TL h0 (by omega)) ((ay.m7 r0).app (ay.m7 r1))
end Go.Abs
end
