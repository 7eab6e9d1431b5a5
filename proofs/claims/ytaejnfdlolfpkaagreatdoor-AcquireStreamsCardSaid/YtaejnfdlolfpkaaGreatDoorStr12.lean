/- Part 12 of the library that the proof of the statement uses: an abstract run of the program, proved right, and what its functions give. -/
import Derived.Test.YtaejnfdlolfpkaaGreatDoorStr11
set_option linter.unusedVariables false
set_option linter.unusedSimpArgs false

section
/- The law AcquireStreams. -/
set_option linter.unusedVariables false
set_option linter.unusedSimpArgs false
namespace Go.Abs
open Go.Proofs Classical Go.Mach
section
variable {a b c d : Int} {n m q : Nat} {cs fs ar : List AV}
theorem segsP_len (h : ShotsOk a b c d n fs q ar (n : Int)) : (segsP a b c d n cs fs ar).length ≤ n := by
 have hg := h.good
 rw [Int.toNat_natCast] at hg
 unfold segsP
 rw [segL_len]
 generalize wholes (shotsP a b c d fs ar (n : Int)) = W at hg
 rcases W with _ | ⟨t, l⟩
 ·simp
 ·have := GoodW.many hg (su_ok h.setup).1.post0 (by simp)
  omega
theorem segsP_mem (hf : (flosOf cs).all finB = true) {s : SegO} (hs : s ∈ segsP a b c d n cs fs ar) {o : Option Nat} (ho : o ∈ s.smp) : ordO .f32 o o = some .eq ∧ negz o = false := by
 obtain ⟨t, e⟩ := segL_smp s hs
 rw [e] at ho
 obtain ⟨p, hp, rfl⟩ := List.mem_map.1 ho
 have hp2 : p ∈ flosOf cs := List.mem_of_mem_take (List.mem_of_mem_drop hp)
 have hp3 := List.all_eq_true.1 hf p hp2
 exact ⟨Fin.ord_clean hp3, Fin.negz_clean p⟩
theorem segsP_clean (hf : (flosOf cs).all finB = true) : ((segsOf (segsP a b c d n cs fs ar).length (segCells (segsP a b c d n cs fs ar))).all fun s => (flosOf s.fs).all fun o => !negz o) = true := by
 rw [List.all_eq_true]
 intro s hs
 unfold segsOf at hs
 obtain ⟨i, hi0, rfl⟩ := List.mem_map.1 hs
 have hi := List.mem_range.1 hi0
 rw [segAt_C hi, List.all_eq_true]
 intro o ho
 have ho : o ∈ flosOf (flosL (segsP a b c d n cs fs ar)[i].smp) := ho
 rw [flosOf_L] at ho
 rw [(segsP_mem hf (List.getElem_mem _) ho).2]; rfl
theorem segsP_self (hf : (flosOf cs).all finB = true) : SelfF (segsP a b c d n cs fs ar).length (segCells (segsP a b c d n cs fs ar)) := by
 intro i hi
 rw [segAt_C hi]
 show sameF (flosOf (flosL (segsP a b c d n cs fs ar)[i].smp)) (flosOf (flosL (segsP a b c d n cs fs ar)[i].smp)) = true
 rw [flosOf_L]
 exact Fin.sameF_self fun o ho => (segsP_mem hf (List.getElem_mem _) ho).1
theorem put3 (a b c : Int) : putCells (putCells (putCells (zrow (ofV (Go.Value.int IntKind.i64 (0 : Int))).cells 3) 0 [AV.int IntKind.i64 a]) 1 [AV.int IntKind.i64 b]) 2 [AV.int IntKind.i64 c] = [AV.int .i64 a, AV.int .i64 b, AV.int .i64 c] := rfl
theorem ints3' (a b c : Int) : Ints 3 [AV.int .i64 a, AV.int .i64 b, AV.int .i64 c] := ⟨by omega, rfl, rfl⟩
theorem intsOf4 (a b c d : Int) : intsOf [AV.int .i64 a, AV.int .i64 b, AV.int .i64 c, AV.int .i64 d] = [a, b, c, d] := rfl
theorem intsOf3 (a b c : Int) : intsOf [AV.int .i64 a, AV.int .i64 b, AV.int .i64 c] = [a, b, c] := rfl
theorem Ints_L {l : List Int} (h : l.length < 9223372036854775808) : Ints l.length (intsL l) := by
 refine ⟨h, ?_, by simp [intsL]⟩
 simp [intsL, intsOf, List.map_map, Function.comp_def, toI]
theorem tot_cond {p : Bool} {x y : Option Bool} (hx : ∃ b, x = some b) (hy : ∃ b, y = some b) : ∃ b, condO p x y = some b := by cases p <;> assumption
theorem tot_some (b : Bool) : ∃ b', some b = some b' := ⟨b, rfl⟩
theorem half (hB : Bls m fs) (hI : Ints q ar) :
  condO (accE a b c d m q ar != 0)
   (bindO (condO (((accL a b c d m fs q ar).length : Int) == 0) (some (accE a b c d m q ar == accE a b c d m q ar)) (some false)) fun v => some [RLeaf.v (AV.bool v)])
   (bindO (condO (accE a b c d m q ar == 0)
    (if ShotsOk a b c d m fs q ar (m : Int) then
     if Ints (accL a b c d m fs q ar).length (intsL (accL a b c d m fs q ar)) ∧ Ints (timesP a b c d m fs ar).length (intsL (timesP a b c d m fs ar)) then
      some (decide (intsOf (intsL (accL a b c d m fs q ar)) = intsOf (intsL (timesP a b c d m fs ar)))) else none
    else none) (some false)) fun v => some [RLeaf.v (AV.bool v)]) = some [RLeaf.v (AV.bool true)] := by
 rw [condO_bne]
 by_cases h : accE a b c d m q ar = 0
 ·have hS := acc_ok hI hB h
  have e : accL a b c d m fs q ar = timesP a b c d m fs ar := if_pos h
  have hl : (timesP a b c d m fs ar).length < 9223372036854775808 := by
   have := hS.len
   unfold timesP
   rw [List.length_map]; omega
  rw [if_pos h, condO_beq, if_pos h, if_pos hS, e, if_pos ⟨Ints_L hl, Ints_L hl⟩, bindO_ok, decide_eq_true rfl]
 ·have e : accL a b c d m fs q ar = [] := if_neg h
  rw [if_neg h, e]
  rw [List.length_nil, condO_beq, Int.natCast_zero, if_pos rfl, bindO_ok, beq_self_eq_true]
theorem run_4' {N : Nat} (hN : 0 < N) (hF : Flos n cs) (hB : Bls m fs) (hI : Ints q ar) : (fsW tzs waysN N 8).call (List RLeaf) 4 [.s (.agg [.b (.int .i64 a), .b (.int .i64 b), .b (.int .i64 c), .b (.int .i64 d)]), .s (.agg [.b (.list n cs), .b (.list m fs), .b (.list q ar)])] [] (resK [false]) = some [.v (.bool true)] := by
 rw [run_4]
 have o1 : firstNZ [setupE a b c d, sampErr n (flosOf cs), if ((m : Int) != (n : Int)) = true then (2 : Int) else (0 : Int), armsE q (intsOf ar) (n : Int)] = acqE a b c d n cs m q ar := by
  unfold acqE
  by_cases h : m = n
  ·subst h; simp
  ·have h2 : ¬ (m : Int) = (n : Int) := by omega
   simp [h, h2]
 have o2 : firstNZ [setupE a b c d, if decide ((m : Int) > (4096 : Int)) = true then (5 : Int) else (0 : Int), armsE q (intsOf ar) (m : Int)] = accE a b c d m q ar := by
  unfold accE
  have : ((m : Int) > 4096) ↔ m > 4096 := by omega
  simp only [decide_eq_true_eq, this]
 simp only [joinC_pos hN, shut_eq, put4, put3, ints4, intsOf4, intsOf3, guardO_dec, hF, hB, hI, and_true, if_true, o1, o2]
 have dead : condO (setupE a b c d != 0) (condO (deadV a b c d != 0) (some true) (some (setupE a b c d != setupE a b c d))) (some false) = some false := by
  rw [condO_bne]
  by_cases h : setupE a b c d = 0
  ·rw [if_pos h]
  ·have : deadV a b c d = 0 := by unfold deadV; rw [if_neg h]
   rw [if_neg h, condO_bne, if_pos this, bne_self_eq_false]
 have dead2 : condO (setupE a b c d == 0) (if setupE a b c d = 0 then condO (deadV a b c d != deadV a b c d) (some true) (some (setupE a b c d != 0)) else none) (some false) = some false := by
  rw [condO_beq]
  by_cases h : setupE a b c d = 0
  ·rw [if_pos h, if_pos h, condO_bne, if_pos rfl, h]; rfl
  ·rw [if_neg h]
 obtain ⟨b0, e0⟩ := tot_cond (p := !shortN n 60) (tot_some true) (tot_cond (p := decide ((m : Int) > 60)) (tot_some (decide ((m : Int) ≤ 4096))) (tot_some false))
 rw [e0, bindO_ok]
 obtain ⟨b1, e1⟩ := tot_cond (p := b0) (tot_some true) (tot_some (decide ((m : Int) > 4098)))
 rw [e1, bindO_ok]
 obtain ⟨b2, e2⟩ := tot_cond (p := b1) (tot_some true) (tot_cond (p := decide ((q : Int) > 8)) (tot_some (decide ((q : Int) ≤ 256))) (tot_some false))
 rw [e2, bindO_ok]
 obtain ⟨b3, e3⟩ := tot_cond (p := b2) (tot_some true) (tot_some (decide ((q : Int) > 258)))
 rw [e3, bindO_ok]
 cases b3 with
 | true => rfl
 | false =>
  have cf : ∀ {x y : Option (List RLeaf)}, condO false x y = y := rfl
  have ct : ∀ {x y : Option (List RLeaf)}, condO true x y = x := rfl
  have cfb : ∀ {x y : Option Bool}, condO false x y = y := rfl
  rw [cf, if_pos (ints3' _ _ _), dead, bindO_ok, cfb, dead2, bindO_ok, cf]
  have hh := half (a := a) (b := b) (c := c) (d := d) hB hI
  simp only [hh]
  rw [condO_bne]
  by_cases h : acqE a b c d n cs m q ar = 0
  ·obtain ⟨h1, h2, rfl, hS⟩ := acq_ok hI hB h
   have e : acqL a b c d m cs m fs q ar = segsP a b c d m cs fs ar := if_pos h
   have hs := segsP_ok hS hF
   have hl := segsP_len (cs := cs) hS
   rw [if_pos h, condO_beq, if_pos h, condO_bne, if_pos h, e, if_pos hs, segsP_clean h2, Bool.not_true, cf, if_pos ⟨hs, by omega⟩, if_pos ⟨hS, trivial, rfl⟩, if_pos ⟨hs, rfl, rfl, segsP_self h2⟩, cf]
  ·have e : acqL a b c d n cs m fs q ar = [] := if_neg h
   rw [if_neg h, e, condO_bne, List.length_nil, Int.natCast_zero, if_pos rfl, condO_bne, if_pos rfl, condO_beq, if_neg h, cf]
end
end Go.Abs
end

