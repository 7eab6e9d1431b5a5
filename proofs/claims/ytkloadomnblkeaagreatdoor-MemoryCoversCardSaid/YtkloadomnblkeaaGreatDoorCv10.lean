/- Part 10 of the library that the proof of the statement uses: an abstract run of the program, proved right, and what its functions give. -/
import Derived.Test.YtkloadomnblkeaaGreatDoorCv9
set_option linter.unusedVariables false
set_option linter.unusedSimpArgs false

section
/- Loops, lists of integers and of samples: what lifted functions are made of. -/
set_option linter.unusedVariables false
set_option linter.unusedSimpArgs false
namespace Go.Abs
open Classical

theorem loopC_succ {A : Type} (N : Nat) (F : A → A) (bot : A) : loopC (N + 1) F bot = F (loopC N F bot) := rfl

/-- A loop by a measure. -/
theorem loopC_rule {A : Type} {F : A → A} {bot : A} (Q : Nat → A → Prop) (h : ∀ k r, (∀ j, j < k → Q j r) → Q k (F r)) : ∀ N k, k < N → Q k (loopC N F bot)
  | 0, k, hk => absurd hk (Nat.not_lt_zero k)
  | N + 1, k, hk => h k _ fun j hj => loopC_rule Q h N j (by omega)

section
variable {R : Type} {x y : Option R}

theorem condO_dec {p : Prop} [Decidable p] : condO (decide p) x y = if p then x else y := by
  by_cases h : p <;> simp [condO, h]

theorem condO_bool {b : Bool} : condO b x y = if b = true then x else y := by cases b <;> rfl

theorem condO_bne {α : Type} [DecidableEq α] {a b : α} : condO (a != b) x y = if a = b then y else x := by
  by_cases h : a = b
  · subst h; simp [condO, bne]
  · rw [if_neg h]; simp only [condO, bne, beq_eq_false_iff_ne.mpr h, Bool.not_false]

theorem condO_beq {α : Type} [DecidableEq α] {a b : α} : condO (a == b) x y = if a = b then x else y := by
  by_cases h : a = b
  · subst h; simp [condO]
  · rw [if_neg h]; simp only [condO, beq_eq_false_iff_ne.mpr h]

theorem condO_not {b : Bool} : condO (!b) x y = if b = true then y else x := by cases b <;> rfl

theorem guardO_dec {p : Prop} [Decidable p] : guardO (decide p) x = if p then x else none := by
  by_cases h : p <;> simp [guardO, h]

theorem bindO_ok {α : Type} {a : α} {f : α → Option R} : bindO (some a) f = f a := rfl

end

theorem wrap64 {z : Int} (h1 : -9223372036854775808 ≤ z) (h2 : z < 9223372036854775808) : IntKind.i64.wrap z = z := by
  simp [IntKind.wrap, IntKind.signed, IntKind.bits]
  omega

def toI : AV → Int
  | .int _ z => z
  | _ => 0

def intsOf (cs : List AV) : List Int := cs.map toI

/-- A list of integers. -/
def Ints (n : Nat) (cs : List AV) : Prop := n < 9223372036854775808 ∧ cs = (intsOf cs).map (AV.int .i64) ∧ cs.length = n

theorem Ints.get {n : Nat} {cs : List AV} (h : Ints n cs) {i : Nat} (hi : i < n) : asInt .i64 (cs.getD i .top) = some ((intsOf cs).getD i 0) := by
  obtain ⟨h1, h2, h3⟩ := h
  rw [h2]
  have : i < (intsOf cs).length := by simp [intsOf, h3, hi]
  simp [List.getD, this, asInt]
  simp [intsOf, List.getElem?_map]
  have h4 : i < cs.length := by omega
  simp [h4, toI]

theorem Ints.len {n : Nat} {cs : List AV} (h : Ints n cs) : (intsOf cs).length = n := by
  simp [intsOf, h.2.2]

theorem drop_cons {α : Type} {xs : List α} {i : Nat} {d : α} (h : i < xs.length) : xs.drop i = xs.getD i d :: xs.drop (i + 1) := by
  rw [List.drop_eq_getElem_cons h]; simp [List.getD, h]

def firstNZ : List Int → Int
  | [] => 0
  | x :: xs => if x = 0 then firstNZ xs else x

theorem idx64 {n i : Nat} (h : n < 9223372036854775808) (hi : i < n) : IntKind.i64.wrap ((i : Int) + 1) = ((i + 1 : Nat) : Int) := by
  rw [wrap64] <;> omega

theorem leaf_int {k : IntKind} {z : Int} : LeafOk (.v (.int k z)) := ⟨.int k z, (fun _ _ h => by cases h), (fun _ h => by cases h)⟩

theorem leaf_bool {b : Bool} : LeafOk (.v (.bool b)) := ⟨.bool b, (fun _ _ h => by cases h), (fun _ h => by cases h)⟩

/-- A number that is finite, as the program tests it. -/
def finB (o : Option Nat) : Bool := ordO .f32 (arithO .sub .f32 o o) (some 0) == some .eq

def toF : AV → Option Nat
  | .flo _ o => o
  | _ => none

def flosOf (cs : List AV) : List (Option Nat) := cs.map toF

/-- A list of samples. -/
def Flos (n : Nat) (cs : List AV) : Prop := n < 9223372036854775808 ∧ cs = (flosOf cs).map (AV.flo .f32) ∧ cs.length = n

theorem Flos.len {n : Nat} {cs : List AV} (h : Flos n cs) : (flosOf cs).length = n := by
  simp [flosOf, h.2.2]

theorem Flos.get {n : Nat} {cs : List AV} (h : Flos n cs) {i : Nat} (hi : i < n) : asFloat .f32 (cs.getD i .top) = some ((flosOf cs).getD i none) := by
  have h4 := h.len
  obtain ⟨h1, h2, h3⟩ := h
  have h5 : i < (flosOf cs).length := by omega
  rw [List.getD_eq_getElem?_getD, List.getD_eq_getElem?_getD]
  conv => lhs; rw [h2]
  simp [h5, asFloat]

def sampErr (n : Nat) (xs : List (Option Nat)) : Int := if n > 4096 then 5 else if xs.all finB then 0 else 1

def intsL (xs : List Int) : List AV := xs.map (AV.int .i64)

theorem intsL_len {acc : List Int} : (intsL acc).length = acc.length := by simp [intsL]

theorem intsL_get {acc : List Int} {i : Nat} (h : i < acc.length) : asInt .i64 ((intsL acc).getD i .top) = some (acc.getD i 0) := by
  simp [intsL, List.getD, h, asInt]

theorem put2 (v w : Int) : putCells (putCells (zrow (ofV (Go.Value.int IntKind.i64 (0 : Int))).cells 2) 0 [AV.int IntKind.i64 v]) 1 [AV.int IntKind.i64 w] = [AV.int .i64 v, AV.int .i64 w] := by
  rfl

theorem ints2 (v w : Int) : Ints 2 [AV.int .i64 v, AV.int .i64 w] := ⟨by omega, rfl, rfl⟩

theorem intsL_app {xs ys : List Int} : intsL (xs ++ ys) = intsL xs ++ intsL ys := by simp [intsL]

theorem intsL_plain {xs : List Int} : ∀ c ∈ intsL xs, PlainC c := by
  intro c hc
  obtain ⟨z, _, rfl⟩ := List.mem_map.1 hc
  exact .int _ _

theorem leaf_fz {n : Nat} {cs : List AV} (h : ∀ c ∈ cs, PlainC c) : LeafOk (.fz n cs) := fun c hc => (h c hc).cell

theorem leaf_flo {k : FloatKind} {o : Option Nat} : LeafOk (.v (.flo k o)) := ⟨(Cell.flo k o).pure, (fun _ _ h => by cases h), (fun _ h => by cases h)⟩

/-- A sample without the sign of 0. -/
noncomputable def clean1 (o : Option Nat) : Option Nat := if ordO .f32 o (some 0) = some .eq then some 0 else o

/-- Whether a sample is -0. -/
noncomputable def negz (o : Option Nat) : Bool := (ordO .f32 o (some 0) == some .eq) && (ordO .f32 (arithO .quo .f32 (some 1065353216) o) (some 0) == some .lt)

def flosL (xs : List (Option Nat)) : List AV := xs.map (AV.flo .f32)

def sameF (xs ys : List (Option Nat)) : Bool := (xs.length == ys.length) && (List.range xs.length).all fun i => ordO .f32 (xs.getD i none) (ys.getD i none) == some .eq

def shortN (n : Nat) (b : Int) : Bool := decide ((n : Int) ≤ b ∨ ((n : Int) > 4096 ∧ (n : Int) ≤ 4098))

theorem flosOf_L {xs : List (Option Nat)} : flosOf (flosL xs) = xs := by
  simp [flosOf, flosL, List.map_map, Function.comp_def, toF]

theorem flosL_len {xs : List (Option Nat)} : (flosL xs).length = xs.length := by simp [flosL]

theorem flosL_app {xs ys : List (Option Nat)} : flosL (xs ++ ys) = flosL xs ++ flosL ys := by simp [flosL]

theorem Flos_L {xs : List (Option Nat)} (h : xs.length < 9223372036854775808) : Flos xs.length (flosL xs) := ⟨h, by rw [flosOf_L]; rfl, flosL_len⟩

theorem flosL_plain {xs : List (Option Nat)} : ∀ c ∈ flosL xs, PlainC c := by
  intro c hc
  obtain ⟨z, _, rfl⟩ := List.mem_map.1 hc
  exact .flo _ _

theorem flosL_get {xs : List (Option Nat)} {i : Nat} (h : i < xs.length) : asFloat .f32 ((flosL xs).getD i .top) = some (xs.getD i none) := by
  simp [flosL, List.getD, h, asFloat]

theorem putF (o : Option Nat) : putCells (zrow (ofV (Go.Value.float Go.FloatKind.f32 0)).cells 1) 0 [AV.flo Go.FloatKind.f32 o] = [AV.flo .f32 o] := rfl

theorem condO_ord {R : Type} {a b : Option Nat} {c : Ordering} {x y : Option R} : condO (ordO .f32 a b == some c) x y = if ordO .f32 a b = some c then x else y := by
  by_cases h : ordO .f32 a b = some c
  · rw [if_pos h, h, beq_self_eq_true]; rfl
  · rw [if_neg h, beq_eq_false_iff_ne.mpr h]; rfl

theorem condO_ordne {R : Type} {a b : Option Nat} {c : Ordering} {x y : Option R} : condO (ordO .f32 a b != some c) x y = if ordO .f32 a b = some c then y else x := by
  have e : (ordO .f32 a b != some c) = !(ordO .f32 a b == some c) := rfl
  by_cases h : ordO .f32 a b = some c
  · rw [if_pos h, e, h, beq_self_eq_true]; rfl
  · rw [if_neg h, e, beq_eq_false_iff_ne.mpr h]; rfl

theorem range_all_drop {n i : Nat} {p : Nat → Bool} (h : i < n) : ((List.range n).drop i).all p = (p i && ((List.range n).drop (i + 1)).all p) := by
  rw [List.drop_eq_getElem_cons (by simpa using h)]; simp

end Go.Abs
end

