/- Part 25 of the library that the proof of the statement uses: an abstract run of the program, proved right, and what its functions give. -/
import Derived.Test.YtkloadomnblkeaaGreatDoorCv24
import Derived.Laws.Bits64b
set_option linter.unusedVariables false
set_option linter.unusedSimpArgs false

section
/- Words of 64 bits. -/
set_option linter.unusedVariables false
set_option linter.unusedSimpArgs false
namespace Go.Abs
open Classical

theorem wrapu64 {z : Int} (h1 : 0 ≤ z) (h2 : z < 18446744073709551616) : IntKind.u64.wrap z = z := by
  simp [IntKind.wrap, IntKind.signed, IntKind.bits]; omega

theorem wrapu64' (z : Int) : IntKind.u64.wrap z = z % 18446744073709551616 := by
  simp [IntKind.wrap, IntKind.signed, IntKind.bits]

theorem bits_and32 {a : Int} (h1 : 0 ≤ a) (h2 : a < 18446744073709551616) : Go.bits .and .u64 a 4294967295 = a % 4294967296 := by
  obtain ⟨n, rfl⟩ := Int.eq_ofNat_of_zero_le h1
  have e : n &&& 4294967295 = n % 4294967296 := Nat.and_two_pow_sub_one_eq_mod n 32
  have := Go.bits_and_u64_nat n 4294967295 (by omega) (by omega)
  rw [e] at this
  rw [show (4294967295 : Int) = ((4294967295 : Nat) : Int) from rfl, this]; rfl

theorem mul_le_sq {a b m : Int} (ha : 0 ≤ a) (hb : 0 ≤ b) (h1 : a ≤ m) (h2 : b ≤ m) : 0 ≤ a * b ∧ a * b ≤ m * m :=
  ⟨Int.mul_nonneg ha hb, Int.mul_le_mul h1 h2 hb (by omega)⟩

/-- The upper word of a product, as the library makes it. -/
theorem mul64_hi {a b : Int} (ha : 0 ≤ a) (ha' : a < 18446744073709551616) (hb : 0 ≤ b) (hb' : b < 18446744073709551616) :
    IntKind.u64.wrap (IntKind.u64.wrap (IntKind.u64.wrap (a.fdiv ((2 : Int) ^ 32) * b.fdiv ((2 : Int) ^ 32)) + (IntKind.u64.wrap (IntKind.u64.wrap (a.fdiv ((2 : Int) ^ 32) * Go.bits Go.BinOp.and IntKind.u64 b (4294967295 : Int)) + (IntKind.u64.wrap (Go.bits Go.BinOp.and IntKind.u64 a (4294967295 : Int) * Go.bits Go.BinOp.and IntKind.u64 b (4294967295 : Int))).fdiv ((2 : Int) ^ 32))).fdiv ((2 : Int) ^ 32)) + (IntKind.u64.wrap (Go.bits Go.BinOp.and IntKind.u64 (IntKind.u64.wrap (IntKind.u64.wrap (a.fdiv ((2 : Int) ^ 32) * Go.bits Go.BinOp.and IntKind.u64 b (4294967295 : Int)) + (IntKind.u64.wrap (Go.bits Go.BinOp.and IntKind.u64 a (4294967295 : Int) * Go.bits Go.BinOp.and IntKind.u64 b (4294967295 : Int))).fdiv ((2 : Int) ^ 32))) (4294967295 : Int) + IntKind.u64.wrap (Go.bits Go.BinOp.and IntKind.u64 a (4294967295 : Int) * b.fdiv ((2 : Int) ^ 32)))).fdiv ((2 : Int) ^ 32)) = a * b / 18446744073709551616 := by
  rw [bits_and32 ha ha', bits_and32 hb hb', show ((2 : Int) ^ 32) = 4294967296 from rfl]
  simp only [Int.fdiv_eq_ediv_of_nonneg _ (show (0 : Int) ≤ 4294967296 by omega)]
  have hm : a * b = (a / 4294967296) * (b / 4294967296) * 18446744073709551616 + ((a / 4294967296) * (b % 4294967296) + (a % 4294967296) * (b / 4294967296)) * 4294967296 + (a % 4294967296) * (b % 4294967296) := by
    have e1 : a = (a / 4294967296) * 4294967296 + a % 4294967296 := by omega
    have e2 : b = (b / 4294967296) * 4294967296 + b % 4294967296 := by omega
    generalize a / 4294967296 = x1 at e1 ⊢
    generalize a % 4294967296 = x0 at e1 ⊢
    generalize b / 4294967296 = y1 at e2 ⊢
    generalize b % 4294967296 = y0 at e2 ⊢
    subst e1; subst e2
    grind
  rw [hm]
  have b1 : 0 ≤ a / 4294967296 ∧ a / 4294967296 ≤ 4294967295 := by omega
  have b2 : 0 ≤ a % 4294967296 ∧ a % 4294967296 ≤ 4294967295 := by omega
  have b3 : 0 ≤ b / 4294967296 ∧ b / 4294967296 ≤ 4294967295 := by omega
  have b4 : 0 ≤ b % 4294967296 ∧ b % 4294967296 ≤ 4294967295 := by omega
  generalize a / 4294967296 = x1 at b1 ⊢
  generalize a % 4294967296 = x0 at b2 ⊢
  generalize b / 4294967296 = y1 at b3 ⊢
  generalize b % 4294967296 = y0 at b4 ⊢
  have p11 := mul_le_sq b1.1 b3.1 b1.2 b3.2
  have p10 := mul_le_sq b1.1 b4.1 b1.2 b4.2
  have p01 := mul_le_sq b2.1 b3.1 b2.2 b3.2
  have p00 := mul_le_sq b2.1 b4.1 b2.2 b4.2
  generalize x1 * y1 = q11 at *
  generalize x1 * y0 = q10 at *
  generalize x0 * y1 = q01 at *
  generalize x0 * y0 = q00 at *
  rw [wrapu64 (z := q00) (by omega) (by omega), wrapu64 (z := q10) (by omega) (by omega), wrapu64 (z := q11) (by omega) (by omega), wrapu64 (z := q01) (by omega) (by omega), wrapu64 (z := q10 + q00 / 4294967296) (by omega) (by omega),
    bits_and32 (by omega) (by omega), wrapu64 (z := (q10 + q00 / 4294967296) % 4294967296 + q01) (by omega) (by omega), wrapu64 (z := q11 + (q10 + q00 / 4294967296) / 4294967296) (by omega) (by omega), wrapu64 (by omega) (by omega)]
  omega

end Go.Abs
end

