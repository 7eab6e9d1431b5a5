/- Part 17 of the library of the proof: an abstract run of the program. -/
import Derived.Test.YtkloadomnblkeaaGreatDoorHt16
set_option linter.unusedVariables false
set_option linter.unusedSimpArgs false

noncomputable section
namespace Go.Abs
open Go.Proofs Classical Go.Abs.Fin
def gY (acc : List (Option Nat)) (x : Option Nat × Option Nat) : List (Option Nat) :=
  (acc.set (acc.length - 2) (gJ (acc.getD (acc.length - 2) none) x.1)).set (acc.length - 1) (gV (acc.getD (acc.length - 1) none) x.2)
def cY (a : Nat) : Nat → List (Option Nat) → List (Option Nat × Option Nat) → List (Option Nat)
  | _, acc, [] => acc
  | i, acc, x :: l => if i % a = 0 then cY a (i + 1) (acc ++ [x.1, x.2]) l else cY a (i + 1) (gY acc x) l
def fP (xs : List (Option Nat)) : List (Option Nat × Option Nat) := xs.map fun x => (az x, az x)
def b_ : List (Option Nat) → List (Option Nat × Option Nat)
  | a :: b :: l => (a, b) :: b_ l
  | _ => []
def cG (l : List (Option Nat)) : Prop := ∀ x ∈ l, aJ x = true
theorem cG.get {l : List (Option Nat)} (h : cG l) {i : Nat} (hi : i < l.length) : aJ (l.getD i none) = true := by
  rw [List.getD_eq_getElem?_getD, List.getElem?_eq_getElem hi]; exact h _ (List.getElem_mem _)
theorem cG.app {l l' : List (Option Nat)} (h : cG l) (h' : cG l') : cG (l ++ l') := fun x hx => (List.mem_append.1 hx).elim (h x) (h' x)
theorem cG.set {l : List (Option Nat)} (h : cG l) {i : Nat} {x : Option Nat} (hx : aJ x = true) : cG (l.set i x) := fun y hy => by
  rcases List.mem_or_eq_of_mem_set hy with hy | rfl
  · exact h y hy
  · exact hx
theorem gF {acc : List (Option Nat)} {x : Option Nat × Option Nat} : (gY acc x).length = acc.length := by simp [gY]
theorem oR {acc : List (Option Nat)} {x : Option Nat × Option Nat} (h : cG acc) (h2 : 2 ≤ acc.length) (h1 : aJ x.1 = true) (h3 : aJ x.2 = true) : cG (gY acc x) :=
  (h.set (oH (h.get (by omega)) h1).2.1).set (oI (h.get (by omega)) h3).2.1
theorem GH {acc : List (Option Nat)} {i : Nat} {a b : Option Nat} : ag (bU acc) i [AV.aL .f32 a, AV.aL .f32 b] = bU ((acc.set i a).set (i + 1) b) := by
  simp [bU, ag, List.map_set]
theorem mI (a b : Option Nat) : ag (aX (cM (Go.Value.agg #[Go.Value.float Go.FloatKind.f32 0, Go.Value.float Go.FloatKind.f32 0])).cells 2) 0 [AV.aL Go.FloatKind.f32 a, AV.aL Go.FloatKind.f32 b] = bU [a, b] := rfl
theorem GI {i a : Nat} (ha : 1 ≤ a) : (((i : Int).tmod (a : Int)) == 0) = decide (i % a = 0) := by
  rw [Int.tmod_eq_emod_of_nonneg (by omega), ← Int.natCast_emod]
  by_cases h : i % a = 0
  · rw [h]; rfl
  · rw [decide_eq_false h]; exact beq_eq_false_iff_ne.2 (by omega)
theorem P9 {n a : Nat} {cs : List AV} (h : bu n cs) (hn : n ≤ 100000) (hf : cG (fO cs)) (ha : 1 ≤ a) (V4 : a ≤ 100000) :
    (dA V3 aK (n + 1) 12).call (List aa) 128 [.aT (.list n cs), .aT (.int .i64 (a : Int)), .s (.o (.fn 129 [] [])), .s (.o (.fn 130 [] []))] [] (bp [true]) =
    some [.fz ((cY a 0 [] (fP (fO cs))).length / 2) (bU (cY a 0 [] (fP (fO cs))))] := by
  rw [Ul]
  have hl := h.len
  have xW := h.2.2
  refine au (fun k (r : Int → Nat → List AV → Int → Int → Nat → List AV → Nat → List AV → Option (List aa)) => ∀ (i c : Nat) (acc : List (Option Nat)) (x5 : Nat) (x6 : List AV), i + k = n → acc.length = 2 * c → c ≤ i → (0 < i → 0 < c) → cG acc →
    r (a : Int) n cs (n : Int) (i : Int) x5 x6 c (bU acc) = some [.fz ((cY a i acc ((fP (fO cs)).drop i)).length / 2) (bU (cY a i acc ((fP (fO cs)).drop i)))]) ?_ (n + 1) n (by omega) 0 0 [] _ _ (by omega) rfl (by omega) (by omega) (fun x hx => by cases hx)
  intro k r ih i c acc x5 x6 hi xK hci ly Um
  by_cases hk : i < n
  · have cC : i < (fP (fO cs)).length := by rw [fP, List.length_map, hl]; exact hk
    rw [drop_cons (d := (none, none)) cC, cY]
    have hx : (fP (fO cs)).getD i (none, none) = (az ((fO cs).getD i none), az ((fO cs).getD i none)) := by
      rw [fP, List.getD_eq_getElem?_getD, List.getD_eq_getElem?_getD, List.getElem?_map, List.getElem?_eq_getElem (by omega)]; rfl
    have hfx := hf.get (i := i) (by omega)
    rw [hx]
    have Fw := bn hfx
    have wi := lF h.1 hk
    have p0 : 0 < cs.length := by omega
    have nz : ((a : Int) ≠ 0) = True := eq_true (by omega)
    have nx : cY a (i + 1) = cY a (i + 1) := rfl
    simp only [ab, ae, aj, Int.ofNat_lt, hk, p0, if_true, Int.natCast_nonneg, true_and, and_true, Nat.mul_one, Int.toNat_natCast, h.get hk, ak, nz, GI ha, wi]
    by_cases hm : i % a = 0
    · have g5 : ((c + 1) * 9 ≤ 549755813888) = True := eq_true (by omega)
      simp only [hm, if_true, g5, mI, ← mE]
      exact ih (k - 1) (by omega) (i + 1) (c + 1) (acc ++ [az ((fO cs).getD i none), az ((fO cs).getD i none)]) _ _ (by omega) (by simp [xK]; omega) (by omega) (by omega) (Um.app (by intro y hy; simp only [List.mem_cons, List.not_mem_nil, or_false, or_self] at hy; subst hy; exact Fw))
    · have VP : 0 < i := Nat.pos_of_ne_zero fun h0 => by subst h0; simp at hm
      have SE := ly VP
      have wc : IntKind.i64.wrap ((c : Int) - 1) = ((c - 1 : Nat) : Int) := by rw [wrap64 (by omega) (by omega)]; omega
      have hb : (c.beq 0) = false := by cases c with | zero => omega | succ c => rfl
      have q1 : (((c - 1 : Nat) : Int) < (c : Int)) = True := eq_true (by omega)
      have q2 : (acc.length - 2 + 2 ≤ (bU acc).length) = True := eq_true (by rw [p9]; omega)
      have e1 : (c - 1) * 2 = acc.length - 2 := by omega
      have e2 : acc.length - 2 + 1 = acc.length - 1 := by omega
      have f1 := Um.get (i := acc.length - 2) (by omega)
      have f2 := Um.get (i := acc.length - 1) (by omega)
      have g1 := jO (xs := acc) (i := acc.length - 2) (by omega)
      have g2 := jO (xs := acc) (i := acc.length - 1) (by omega)
      simp only [hm, if_false, wc, hb, q1, q2, Bool.and_false, Bool.not_false, gO, if_true, Int.natCast_nonneg, true_and, Int.toNat_natCast, e1, e2, g1, g2, ak, f1, f2, Fw, and_self, decide_true, GH]
      exact ih (k - 1) (by omega) (i + 1) c (gY acc (az ((fO cs).getD i none), az ((fO cs).getD i none))) _ _ (by omega) (by rw [gF]; exact xK) (by omega) (by omega) (oR Um (by omega) Fw Fw)
  · have oP : (fP (fO cs)).drop i = [] := by rw [List.drop_eq_nil_iff, fP, List.length_map, hl]; omega
    rw [oP, cY]
    simp only [ab, ae, Int.ofNat_lt, hk, if_false]
    rw [xK, Nat.mul_div_cancel_left _ (by omega)]
theorem kb : ∀ (l : List (Option Nat)), (b_ l).length = l.length / 2
  | [] => rfl
  | [_] => by simp [b_]
  | a :: b :: l => by rw [b_, List.length_cons, kb l]; simp only [List.length_cons]; omega
theorem rn : ∀ (l : List (Option Nat)) (i : Nat), 2 * i + 1 < l.length → (b_ l).getD i (none, none) = (l.getD (2 * i) none, l.getD (2 * i + 1) none)
  | [], i, h => by simp at h
  | [_], i, h => by simp at h
  | a :: b :: l, 0, h => rfl
  | a :: b :: l, i + 1, h => by
    have := rn l i (by simp only [List.length_cons] at h; omega)
    simp only [List.getD_eq_getElem?_getD] at this ⊢
    rw [b_, List.getElem?_cons_succ, this, show 2 * (i + 1) = 2 * i + 1 + 1 by omega]
    simp
theorem P' {n a : Nat} {cs : List AV} (h : bu (2 * n) cs) (hn : n ≤ 100000) (hf : cG (fO cs)) (ha : 1 ≤ a) (V4 : a ≤ 100000) :
    (dA V3 aK (n + 1) 12).call (List aa) 131 [.aT (.list n cs), .aT (.int .i64 (a : Int)), .s (.o (.fn 132 [] [])), .s (.o (.fn 130 [] []))] [] (bp [true]) =
    some [.fz ((cY a 0 [] (b_ (fO cs))).length / 2) (bU (cY a 0 [] (b_ (fO cs))))] := by
  rw [Un]
  have hl := h.len
  have xW := h.2.2
  refine au (fun k (r : Int → Nat → List AV → Int → Int → Nat → List AV → Nat → List AV → Option (List aa)) => ∀ (i c : Nat) (acc : List (Option Nat)) (x5 : Nat) (x6 : List AV), i + k = n → acc.length = 2 * c → c ≤ i → (0 < i → 0 < c) → cG acc →
    r (a : Int) n cs (n : Int) (i : Int) x5 x6 c (bU acc) = some [.fz ((cY a i acc ((b_ (fO cs)).drop i)).length / 2) (bU (cY a i acc ((b_ (fO cs)).drop i)))]) ?_ (n + 1) n (by omega) 0 0 [] _ _ (by omega) rfl (by omega) (by omega) (fun x hx => by cases hx)
  intro k r ih i c acc x5 x6 hi xK hci ly Um
  by_cases hk : i < n
  · have cC : i < (b_ (fO cs)).length := by rw [kb, hl]; omega
    rw [drop_cons (d := (none, none)) cC, cY]
    have hx := rn (fO cs) i (by omega)
    have I2 := hf.get (i := 2 * i) (by omega)
    have MU := hf.get (i := 2 * i + 1) (by omega)
    rw [hx]
    have GJ := h.get (i := 2 * i) (by omega)
    have GK := h.get (i := 2 * i + 1) (by omega)
    have wi : IntKind.i64.wrap ((i : Int) + 1) = ((i + 1 : Nat) : Int) := by rw [wrap64] <;> omega
    have p1 : (2 * i + 2 ≤ cs.length) = True := eq_true (by omega)
    have GL : i * 2 = 2 * i := by omega
    have p0 : 0 < cs.length := by omega
    have nz : ((a : Int) ≠ 0) = True := eq_true (by omega)
    have nx : cY a (i + 1) = cY a (i + 1) := rfl
    simp only [ab, ae, aj, Int.ofNat_lt, hk, p0, if_true, Int.natCast_nonneg, true_and, and_true, Nat.mul_one, Int.toNat_natCast, GL, p1, GJ, GK, ak, nz, GI ha, wi]
    by_cases hm : i % a = 0
    · have g5 : ((c + 1) * 9 ≤ 549755813888) = True := eq_true (by omega)
      simp only [hm, if_true, g5, mI, ← mE]
      exact ih (k - 1) (by omega) (i + 1) (c + 1) (acc ++ [(fO cs).getD (2 * i) none, (fO cs).getD (2 * i + 1) none]) _ _ (by omega) (by simp [xK]; omega) (by omega) (by omega) (Um.app (by intro y hy; simp only [List.mem_cons, List.not_mem_nil, or_false] at hy; rcases hy with rfl | rfl; exact I2; exact MU))
    · have VP : 0 < i := Nat.pos_of_ne_zero fun h0 => by subst h0; simp at hm
      have SE := ly VP
      have wc : IntKind.i64.wrap ((c : Int) - 1) = ((c - 1 : Nat) : Int) := by rw [wrap64 (by omega) (by omega)]; omega
      have hb : (c.beq 0) = false := by cases c with | zero => omega | succ c => rfl
      have q1 : (((c - 1 : Nat) : Int) < (c : Int)) = True := eq_true (by omega)
      have q2 : (acc.length - 2 + 2 ≤ (bU acc).length) = True := eq_true (by rw [p9]; omega)
      have e1 : (c - 1) * 2 = acc.length - 2 := by omega
      have e2 : acc.length - 2 + 1 = acc.length - 1 := by omega
      have f1 := Um.get (i := acc.length - 2) (by omega)
      have f2 := Um.get (i := acc.length - 1) (by omega)
      have g1 := jO (xs := acc) (i := acc.length - 2) (by omega)
      have g2 := jO (xs := acc) (i := acc.length - 1) (by omega)
      simp only [hm, if_false, wc, hb, q1, q2, Bool.and_false, Bool.not_false, gO, if_true, Int.natCast_nonneg, true_and, Int.toNat_natCast, e1, e2, g1, g2, ak, f1, f2, I2, MU, and_self, decide_true, GH]
      exact ih (k - 1) (by omega) (i + 1) c (gY acc ((fO cs).getD (2 * i) none, (fO cs).getD (2 * i + 1) none)) _ _ (by omega) (by rw [gF]; exact xK) (by omega) (by omega) (oR Um (by omega) I2 MU)
  · have oP : (b_ (fO cs)).drop i = [] := by rw [List.drop_eq_nil_iff, kb, hl]; omega
    rw [oP, cY]
    simp only [ab, ae, Int.ofNat_lt, hk, if_false]
    rw [xK, Nat.mul_div_cancel_left _ (by omega)]
theorem Nr {n : Nat} {a : Int} {cs : List AV} (h : bu n cs) (hn : n ≤ 100000) (hf : cG (fO cs)) (ha : 1 ≤ a) (V4 : a ≤ 100000) :
    (dA V3 aK (n + 1) 12).call (List aa) 128 [.aT (.list n cs), .aT (.int .i64 a), .s (.o (.fn 129 [] [])), .s (.o (.fn 130 [] []))] [] (bp [true]) =
    some [.fz ((cY a.toNat 0 [] (fP (fO cs))).length / 2) (bU (cY a.toNat 0 [] (fP (fO cs))))] := by
  obtain ⟨A, rfl⟩ := Int.eq_ofNat_of_zero_le (show 0 ≤ a by omega)
  exact P9 h hn hf (by omega) (by omega)
theorem Ns {n : Nat} {a : Int} {cs : List AV} (h : bu (2 * n) cs) (hn : n ≤ 100000) (hf : cG (fO cs)) (ha : 1 ≤ a) (V4 : a ≤ 100000) :
    (dA V3 aK (n + 1) 12).call (List aa) 131 [.aT (.list n cs), .aT (.int .i64 a), .s (.o (.fn 132 [] [])), .s (.o (.fn 130 [] []))] [] (bp [true]) =
    some [.fz ((cY a.toNat 0 [] (b_ (fO cs))).length / 2) (bU (cY a.toNat 0 [] (b_ (fO cs))))] := by
  obtain ⟨A, rfl⟩ := Int.eq_ofNat_of_zero_le (show 0 ≤ a by omega)
  exact P' h hn hf (by omega) (by omega)
end Go.Abs
end
noncomputable section
namespace Go.Abs
open Go.Proofs Classical
def LF:fr:=fun ai R K=>match ai with
 | [.list n cs,.int .i64 a,.func 129 [] [],.func 130 [] []]=>gO (S_ (decide (bu n cs/\n<=100000/\cG (fO cs)/\1<=a/\a<=100000))) (K [.fz (S_ ((cY a.toNat 0 [] (fP (fO cs))).length / 2)) (S_ (bU (cY a.toNat 0 [] (fP (fO cs)))))])
 | _=>none
theorem NJ:bG Tryz.prog 128 LF:=by
 intro ai R K r ha h
 unfold LF at h
 split at h
 ·rename_i n cs a
  obtain ⟨h1,h2⟩:=aD h
  rw [ab] at h1
  have bM:=of_decide_eq_true h1
  refine ⟨[.fz ((cY a.toNat 0 [] (fP (fO cs))).length / 2) (bU (cY a.toNat 0 [] (fP (fO cs))))],fun _ _=>by simp only [LF,ab,decide_eq_true bM,gO],?_,bf Jo (W:=aK) (N:=n+1) (k:=12) (ms:=[true]) ?_ ha ⟨fF,trivial⟩⟩
  ·intro l hl;rcases List.mem_cons.1 hl with rfl | hl
   ·exact (pZ (fF))
   cases hl
  ·exact Nr bM.1 bM.2.1 bM.2.2.1 bM.2.2.2.1 bM.2.2.2.2
 ·cases h
def LG:fr:=fun ai R K=>match ai with
 | [.list n cs,.int .i64 a,.func 132 [] [],.func 130 [] []]=>gO (S_ (decide (bu (2*n) cs/\n<=100000/\cG (fO cs)/\1<=a/\a<=100000))) (K [.fz (S_ ((cY a.toNat 0 [] (b_ (fO cs))).length / 2)) (S_ (bU (cY a.toNat 0 [] (b_ (fO cs)))))])
 | _=>none
theorem NK:bG Tryz.prog 131 LG:=by
 intro ai R K r ha h
 unfold LG at h
 split at h
 ·rename_i n cs a
  obtain ⟨h1,h2⟩:=aD h
  rw [ab] at h1
  have bM:=of_decide_eq_true h1
  refine ⟨[.fz ((cY a.toNat 0 [] (b_ (fO cs))).length / 2) (bU (cY a.toNat 0 [] (b_ (fO cs))))],fun _ _=>by simp only [LG,ab,decide_eq_true bM,gO],?_,bf Jo (W:=aK) (N:=n+1) (k:=12) (ms:=[true]) ?_ ha ⟨fF,trivial⟩⟩
  ·intro l hl;rcases List.mem_cons.1 hl with rfl | hl
   ·exact (pZ (fF))
   cases hl
  ·exact Ns bM.1 bM.2.1 bM.2.2.1 bM.2.2.2.1 bM.2.2.2.2
 ·cases h
def mzI:List (FuncId × fr):=(128,LF)::(131,LG)::V3
theorem Q_:eZ Tryz.prog mzI:=⟨NJ,NK,Jo⟩
end Go.Abs
end
