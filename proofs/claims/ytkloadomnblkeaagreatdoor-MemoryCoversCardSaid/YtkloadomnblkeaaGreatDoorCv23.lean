/- Part 23 of the library that the proof of the statement uses: an abstract run of the program, proved right, and what its functions give. -/
import Derived.Test.YtkloadomnblkeaaGreatDoorCv22
set_option linter.unusedVariables false
set_option linter.unusedSimpArgs false

section
/- Words that are unpacked. -/
set_option linter.unusedVariables false
set_option linter.unusedSimpArgs false
namespace Go.Abs
open Go.Proofs Classical

/-- What is unpacked behind a run of a length and a word, and so many words. -/
def unpW : Int → Int → Nat → List Int → Except Int (List Int)
  | pl, pw, c, a :: b :: d :: rest =>
    if a = 0 then .error 6
    else if pl < 255 ∧ pw = b + 256 * d then .error 1
    else if (c : Int) + a > 4096 then .error 5
    else (unpW a (b + 256 * d) (c + a.toNat) rest).map (List.replicate a.toNat (b + 256 * d) ++ ·)
  | _, _, _, _ => .ok []

def unpWR (n : Nat) (xs : List Int) : Except Int (List Int) := if n > 12288 then .error 26 else if n % 3 ≠ 0 then .error 28 else unpW 255 0 0 xs

def outW (acc : List Int) : Except Int (List Int) → Option (List RLeaf)
  | .ok l => some [.fz (acc ++ l).length (numsL .u16 (acc ++ l)), .v (.int .i64 0)]
  | .error e => some [.fz 0 [], .v (.int .i64 e)]

theorem outW_map {acc l : List Int} {r : Except Int (List Int)} : outW acc (r.map (l ++ ·)) = outW (acc ++ l) r := by
  cases r <;> simp [Except.map, outW]

theorem outW_nil {r : Except Int (List Int)} : outW [] r = some [.fz (okL r).length (numsL .u16 (okL r)), .v (.int .i64 (erE r))] := by
  cases r <;> rfl

theorem unpW_len : ∀ (xs : List Int) (pl pw : Int) (c : Nat), c ≤ 4096 → (∀ z ∈ xs, 0 ≤ z) → c + (okL (unpW pl pw c xs)).length ≤ 4096
  | [], _, _, _, h, _ => by simp [unpW, okL]; omega
  | [_], _, _, _, h, _ => by simp [unpW, okL]; omega
  | [_, _], _, _, _, h, _ => by simp [unpW, okL]; omega
  | a :: b :: d :: rest, pl, pw, c, h, hz => by
    have ha := hz a (by simp)
    simp only [unpW]
    split
    · simp [okL]; omega
    · split
      · simp [okL]; omega
      · split
        · simp [okL]; omega
        · have := unpW_len rest a (b + 256 * d) (c + a.toNat) (by omega) (fun z hz' => hz z (by simp [hz']))
          cases hu : unpW a (b + 256 * d) (c + a.toNat) rest with
          | error e => simp [okL, Except.map]; omega
          | ok l => rw [hu] at this; simp [okL, Except.map] at this ⊢; omega

end Go.Abs
end

