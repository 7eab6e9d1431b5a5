/- Part 17 of the library that the proof of the statement uses: an abstract run of the program, proved right, and what its functions give. -/
import Derived.Test.YtkloadomnblkeaaGreatDoorCv16
set_option linter.unusedVariables false
set_option linter.unusedSimpArgs false

section
/- Folded differences. -/
set_option linter.unusedVariables false
set_option linter.unusedSimpArgs false
namespace Go.Abs
open Go.Proofs Classical

def zigW (d : Int) : Int := if d < 0 then IntKind.i64.wrap (IntKind.i64.wrap (-2 * d) - 1) else IntKind.i64.wrap (2 * d)
def unzW (z : Int) : Int := if z.tmod 2 = 1 then IntKind.i64.wrap ((IntKind.i64.wrap (0 - IntKind.i64.wrap (z + 1))).tdiv 2) else IntKind.i64.wrap (z.tdiv 2)

noncomputable def eZig : Ent := fun args' R K => match args' with
  | [.int .i64 a] => K [.v (.int .i64 (shut (zigW a)))]
  | _ => none

theorem eZig_118 : EntOk Tryz.prog 118 eZig := by
  intro args' R K r ha h
  unfold eZig at h
  split at h
  · rename_i a
    refine ⟨[.v (.int .i64 (zigW a))], fun _ _ => by simp only [eZig, shut_eq], ?_, con_of (l := []) trivial (W := waysP) (N := 1) (k := 6) (ms := [false]) ?_ ha trivial⟩
    · intro l hl; rcases List.mem_cons.1 hl with rfl | hl
      · exact leaf_int
      cases hl
    · refine (run_118 _ a).trans ?_; simp only [shut_eq, condO_dec, zigW]; by_cases h1 : a < 0 <;> simp [h1]
  · cases h

noncomputable def eUnz : Ent := fun args' R K => match args' with
  | [.int .i64 a] => K [.v (.int .i64 (shut (unzW a)))]
  | _ => none

theorem eUnz_119 : EntOk Tryz.prog 119 eUnz := by
  intro args' R K r ha h
  unfold eUnz at h
  split at h
  · rename_i a
    refine ⟨[.v (.int .i64 (unzW a))], fun _ _ => by simp only [eUnz, shut_eq], ?_, con_of (l := []) trivial (W := waysP) (N := 1) (k := 6) (ms := [false]) ?_ ha trivial⟩
    · intro l hl; rcases List.mem_cons.1 hl with rfl | hl
      · exact leaf_int
      cases hl
    · refine (run_119 _ a).trans ?_; simp only [shut_eq, condO_beq, guardO_dec, unzW]; by_cases h1 : a.tmod 2 = 1 <;> simp [h1]
  · cases h

noncomputable def mz2 : List (FuncId × Ent) := (118, eZig) :: (119, eUnz) :: mz1

theorem mz2_ok : TabLOk Tryz.prog mz2 := ⟨eZig_118, eUnz_119, mz1_ok⟩

/-! Packed codes. -/

def zig (d : Int) : Int := if d < 0 then -2 * d - 1 else 2 * d

def packL : Int → List Int → List Int
  | _, [] => []
  | b, c :: cs => (if zig (c - b) < 128 then [zig (c - b)] else [zig (c - b) % 128 + 128, zig (c - b) / 128]) ++ packL c cs

def codeB (z : Int) : Bool := decide (0 ≤ z ∧ z ≤ 4095)

theorem zigW_eq {d : Int} (h1 : -5000 ≤ d) (h2 : d ≤ 5000) : zigW d = zig d := by
  unfold zigW zig
  split
  · rw [wrap64 (z := -2 * d) (by omega) (by omega), wrap64 (by omega) (by omega)]
  · rw [wrap64 (by omega) (by omega)]

theorem zig_range {d : Int} (h1 : -4095 ≤ d) (h2 : d ≤ 4095) : 0 ≤ zig d ∧ zig d ≤ 8190 := by
  unfold zig; split <;> omega

theorem wrap8 {z : Int} (h1 : 0 ≤ z) (h2 : z < 256) : IntKind.u8.wrap z = z := by
  simp [IntKind.wrap, IntKind.signed, IntKind.bits]; omega

theorem wrap16 {z : Int} (h1 : 0 ≤ z) (h2 : z < 65536) : IntKind.u16.wrap z = z := by
  simp [IntKind.wrap, IntKind.signed, IntKind.bits]; omega

theorem packL_len {b : Int} {cs : List Int} : (packL b cs).length ≤ 2 * cs.length := by
  induction cs generalizing b with
  | nil => simp [packL]
  | cons c cs ih => have := ih (b := c); simp only [packL, List.length_append, List.length_cons]; split <;> simp <;> omega

theorem putU1 (a : Int) : putCells (zrow (ofV (Go.Value.int IntKind.u8 (0 : Int))).cells 1) 0 [AV.int IntKind.u8 a] = numsL .u8 [a] := rfl
theorem putU2 (a b : Int) : putCells (putCells (zrow (ofV (Go.Value.int IntKind.u8 (0 : Int))).cells 2) 0 [AV.int IntKind.u8 a]) 1 [AV.int IntKind.u8 b] = numsL .u8 [a, b] := rfl
theorem putU3 (a b c : Int) : putCells (putCells (putCells (zrow (ofV (Go.Value.int IntKind.u8 (0 : Int))).cells 3) 0 [AV.int IntKind.u8 a]) 1 [AV.int IntKind.u8 b]) 2 [AV.int IntKind.u8 c] = numsL .u8 [a, b, c] := rfl
theorem putW1 (a : Int) : putCells (zrow (ofV (Go.Value.int IntKind.u16 (0 : Int))).cells 1) 0 [AV.int IntKind.u16 a] = numsL .u16 [a] := rfl
theorem putI1 (a : Int) : putCells (zrow (ofV (Go.Value.int IntKind.i64 (0 : Int))).cells 1) 0 [AV.int IntKind.i64 a] = numsL .i64 [a] := rfl
theorem putI2 (a b : Int) : putCells (putCells (zrow (ofV (Go.Value.int IntKind.i64 (0 : Int))).cells 2) 0 [AV.int IntKind.i64 a]) 1 [AV.int IntKind.i64 b] = numsL .i64 [a, b] := rfl

end Go.Abs
end

