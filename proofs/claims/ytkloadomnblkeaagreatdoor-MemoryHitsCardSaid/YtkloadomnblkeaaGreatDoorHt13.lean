/- Part 13 of the library of the proof: an abstract run of the program. -/
import Derived.Test.YtkloadomnblkeaaGreatDoorHt11
import Derived.Laws.Bits64b
set_option linter.unusedVariables false
set_option linter.unusedSimpArgs false

noncomputable section
namespace Go.Abs
open Classical
theorem M5 {a b m:Int} (ha:0<=a) (hb:0<=b) (h1:a<=m) (h2:b<=m):0<=a*b/\a*b<=m*m:=
 ⟨Int.mul_nonneg ha hb,Int.mul_le_mul h1 h2 hb (by omega)⟩
end Go.Abs
end
noncomputable section
namespace Go.Abs
open Go.Proofs Classical
theorem abZ (x:AV) (n:Nat):aX [x] n=List.replicate n x:=by
 unfold aX
 apply List.ext_getElem
 ·simp
 ·intro i h1 h2
  simp [Nat.mod_one]
end Go.Abs
end
noncomputable section
namespace Go.Abs
open Go.Proofs Classical
theorem mG (a b:Int):bR (aB [AV.int .i64 a,AV.int .i64 b])=if a=0 then b else a:=by
 simp only [aB,List.map_cons,List.map_nil,toI,bR]
 by_cases h:a=0<;>by_cases h2:b=0<;>simp [h,h2]
theorem Ln (u v w:Int):ag (ag (ag (aX (cM (Go.Value.int IntKind.i64 (0:Int))).cells 3) 0 [AV.int IntKind.i64 u]) 1 [AV.int IntKind.i64 v]) 2 [AV.int IntKind.i64 w]=[AV.int .i64 u,AV.int .i64 v,AV.int .i64 w]:=by
 rfl
theorem Eg (u v w:Int):jD 3 [AV.int IntKind.i64 u,AV.int IntKind.i64 v,AV.int IntKind.i64 w]:=⟨by omega,rfl,rfl⟩
theorem qa (a b c:Int):bR (aB [AV.int .i64 a,AV.int .i64 b,AV.int .i64 c])=if a=0 then (if b=0 then c else b) else a:=by
 simp only [aB,List.map_cons,List.map_nil,toI,bR]
 by_cases h:a=0<;>by_cases h2:b=0<;>by_cases h3:c=0<;>simp [h,h2,h3]
end Go.Abs
end
noncomputable section
namespace Go.Abs
open Classical
theorem PL {p a:Bool}:cO p (some true) (some a)=some (p||a):=by cases p<;>rfl
theorem oK {p a:Bool}:cO p (some a) (some false)=some (p&&a):=by cases p<;>rfl
theorem bH {R:Type} {x y:Option R}:cO false x y=y:=rfl
theorem ct {R:Type} {x y:Option R}:cO true x y=x:=rfl
theorem j_ {cs:List AV} (h:∀ c∈cs,Cell c):gT (.v (.agg cs)):=
 ⟨.agg cs fun c hc=>(h c hc).pure,(fun _ _ e=>by cases e),fun dE e c hc=>by cases e;exact h c hc⟩
theorem PM (a b:Int):∀ c∈[AV.int .i64 a,AV.int .i64 b],Cell c:=by
 intro c hc
 rcases List.mem_cons.1 hc with rfl | hc
 ·exact .int _ _
 rcases List.mem_cons.1 hc with rfl | hc
 ·exact .int _ _
 cases hc
theorem tC (a b:Option Nat):∀ c∈[AV.aL .f32 a,AV.aL .f32 b],Cell c:=by
 intro c hc
 rcases List.mem_cons.1 hc with rfl | hc
 ·exact .aL _ _
 rcases List.mem_cons.1 hc with rfl | hc
 ·exact .aL _ _
 cases hc
end Go.Abs
end
