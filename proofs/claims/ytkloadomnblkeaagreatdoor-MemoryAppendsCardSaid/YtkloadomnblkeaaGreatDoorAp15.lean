/- Part 15 of the library of the proof: an abstract run of the program. -/
import Derived.Test.YtkloadomnblkeaaGreatDoorAp13
import Derived.Laws.Bits64b
set_option linter.unusedVariables false
set_option linter.unusedSimpArgs false

noncomputable section
namespace Go.Abs
open Classical
theorem mul_le_sq {a b m:Int} (ha:0<=a) (hb:0<=b) (h1:a<=m) (h2:b<=m):0<=a*b/\a*b<=m*m:=
 ⟨Int.mul_nonneg ha hb,Int.mul_le_mul h1 h2 hb (by omega)⟩
end Go.Abs
end
noncomputable section
namespace Go.Abs
open Go.Proofs Classical
theorem putCells_mid:∀ (xs pre mid post:List AV),mid.length=xs.length->putCells (pre++mid++post) pre.length xs=pre++xs++post
 | [],pre,mid,post,h=>by
  have:mid=[]:=List.eq_nil_of_length_eq_zero h
  subst this;simp [putCells]
 | x::xs,pre,[],post,h=>by simp at h
 | x::xs,pre,y::mid,post,h=>by
  simp only [putCells]
  have e:(pre++y::mid++post).set pre.length x=(pre++[x])++mid++post:=by simp
  rw [e,show pre.length+1=(pre++[x]).length by simp,putCells_mid xs (pre++[x]) mid post (by simpa using h)]
  simp
theorem zrow1 (x:AV) (n:Nat):zrow [x] n=List.replicate n x:=by
 unfold zrow
 apply List.ext_getElem
 ·simp
 ·intro i h1 h2
  simp [Nat.mod_one]
end Go.Abs
end
noncomputable section
namespace Go.Abs
open Go.Proofs Classical
theorem firstNZ_2 (a b:Int):firstNZ (intsOf [AV.int .i64 a,AV.int .i64 b])=if a=0 then b else a:=by
 simp only [intsOf,List.map_cons,List.map_nil,toI,firstNZ]
 by_cases h:a=0<;>by_cases h2:b=0<;>simp [h,h2]
theorem put3n (u v w:Int):putCells (putCells (putCells (zrow (ofV (Go.Value.int IntKind.i64 (0:Int))).cells 3) 0 [AV.int IntKind.i64 u]) 1 [AV.int IntKind.i64 v]) 2 [AV.int IntKind.i64 w]=[AV.int .i64 u,AV.int .i64 v,AV.int .i64 w]:=by
 rfl
theorem ints3n (u v w:Int):Ints 3 [AV.int IntKind.i64 u,AV.int IntKind.i64 v,AV.int IntKind.i64 w]:=⟨by omega,rfl,rfl⟩
theorem firstNZ_3 (a b c:Int):firstNZ (intsOf [AV.int .i64 a,AV.int .i64 b,AV.int .i64 c])=if a=0 then (if b=0 then c else b) else a:=by
 simp only [intsOf,List.map_cons,List.map_nil,toI,firstNZ]
 by_cases h:a=0<;>by_cases h2:b=0<;>by_cases h3:c=0<;>simp [h,h2,h3]
end Go.Abs
end
noncomputable section
namespace Go.Abs
open Classical
theorem condO_ts {p a:Bool}:cO p (some true) (some a)=some (p||a):=by cases p<;>rfl
theorem condO_fx {R:Type} {x y:Option R}:cO false x y=y:=rfl
theorem condO_tx {R:Type} {x y:Option R}:cO true x y=x:=rfl
theorem leaf_agg {cs:List AV} (h:∀ c∈cs,Cell c):LeafOk (.v (.agg cs)):=
 ⟨.agg cs fun c hc=>(h c hc).pure,(fun _ _ e=>by cases e),fun cs' e c hc=>by cases e;exact h c hc⟩
theorem cells_ff (a b:Option Nat):∀ c∈[AV.flo .f32 a,AV.flo .f32 b],Cell c:=by
 intro c hc
 rcases List.mem_cons.1 hc with rfl | hc
 ·exact .flo _ _
 rcases List.mem_cons.1 hc with rfl | hc
 ·exact .flo _ _
 cases hc
end Go.Abs
end
