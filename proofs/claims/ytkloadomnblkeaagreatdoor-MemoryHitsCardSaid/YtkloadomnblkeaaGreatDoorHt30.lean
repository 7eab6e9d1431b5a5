/- Part 30 of the library of the proof: an abstract run of the program. -/
import Derived.Test.YtkloadomnblkeaaGreatDoorHt27
import Derived.Test.YtkloadomnblkeaaGreatDoorHt28
import Derived.Test.YtkloadomnblkeaaGreatDoorHt29
set_option linter.unusedVariables false
set_option linter.unusedSimpArgs false

noncomputable section
namespace Go.Abs
open Go.Proofs Classical Go.Abs.Fin
def Std (f : Nat → Int) (a b : Option Nat) (lo hi : Nat) : Prop :=
  aJ a = true ∧ aJ b = true ∧ (∃ k, lo ≤ k ∧ k < hi ∧ f k = aU a) ∧ (∃ k, lo ≤ k ∧ k < hi ∧ f k = aU b) ∧ ∀ k, lo ≤ k → k < hi → aU a ≤ f k ∧ f k ≤ aU b
theorem Std.join {f : Nat → Int} {a b c d : Option Nat} {lo mid hi : Nat} (h : Std f a b lo mid) (h' : Std f c d mid hi) : Std f (gJ a c) (gV b d) lo hi := by
  obtain ⟨h1, h2, ⟨k1, h3, h4, h5⟩, ⟨k2, h6, h7, h8⟩, h9⟩ := h
  obtain ⟨g1, g2, ⟨j1, g3, g4, g5⟩, ⟨j2, g6, g7, g8⟩, g9⟩ := h'
  obtain ⟨_, m2, m3⟩ := oH h1 g1
  obtain ⟨_, n2, n3⟩ := oI h2 g2
  refine ⟨m2, n2, ?_, ?_, ?_⟩
  · rw [m3]
    rcases Int.le_total (aU a) (aU c) with h | h
    · exact ⟨k1, by omega, by omega, by omega⟩
    · exact ⟨j1, by omega, by omega, by omega⟩
  · rw [n3]
    rcases Int.le_total (aU b) (aU d) with h | h
    · exact ⟨j2, by omega, by omega, by omega⟩
    · exact ⟨k2, by omega, by omega, by omega⟩
  · intro k SC iC
    rw [m3, n3]
    by_cases hm : k < mid
    · have := h9 k SC hm; omega
    · have := g9 k (by omega) iC; omega
theorem Std.keys {f : Nat → Int} {a b c d : Option Nat} {lo hi : Nat} (h : Std f a b lo hi) (h' : Std f c d lo hi) : aU a = aU c ∧ aU b = aU d := by
  obtain ⟨h1, h2, ⟨k1, h3, h4, h5⟩, ⟨k2, h6, h7, h8⟩, h9⟩ := h
  obtain ⟨g1, g2, ⟨j1, g3, g4, g5⟩, ⟨j2, g6, g7, g8⟩, g9⟩ := h'
  have a1 := h9 j1 g3 g4
  have a2 := h9 j2 g6 g7
  have a3 := g9 k1 h3 h4
  have a4 := g9 k2 h6 h7
  omega
theorem tK {l m : List (Option Nat)} {i : Nat} (h : i < l.length) : (l ++ m).getD i none = l.getD i none := by
  rw [List.getD_eq_getElem?_getD, List.getD_eq_getElem?_getD, List.getElem?_append_left h]
theorem tL {l m : List (Option Nat)} {i : Nat} (h : l.length ≤ i) : (l ++ m).getD i none = m.getD (i - l.length) none := by
  rw [List.getD_eq_getElem?_getD, List.getD_eq_getElem?_getD, List.getElem?_append_right h]
theorem CZ {l : List (Option Nat)} {i j : Nat} {x : Option Nat} (h : i < l.length) : (l.set i x).getD j none = if i = j then x else l.getD j none := by
  rw [List.getD_eq_getElem?_getD, List.getD_eq_getElem?_getD, List.getElem?_set]
  split
  · rename_i hij; subst hij; simp [h]
  · rfl
theorem GQ {acc : List (Option Nat)} {x : Option Nat × Option Nat} {c : Nat} (hc : acc.length = 2 * (c + 1)) (j : Nat) :
    (gY acc x).getD (2 * j) none = (if j = c then gJ (acc.getD (2 * c) none) x.1 else acc.getD (2 * j) none) ∧
    (gY acc x).getD (2 * j + 1) none = (if j = c then gV (acc.getD (2 * c + 1) none) x.2 else acc.getD (2 * j + 1) none) := by
  have e1 : acc.length - 2 = 2 * c := by omega
  have e2 : acc.length - 1 = 2 * c + 1 := by omega
  unfold gY
  rw [e1, e2]
  simp only [CZ (show 2 * c + 1 < (acc.set (2 * c) (gJ (acc.getD (2 * c) none) x.1)).length by rw [List.length_set]; omega), CZ (show 2 * c < acc.length by omega)]
  constructor
  · rw [if_neg (by omega)]
    by_cases h : j = c
    · rw [if_pos (by omega), if_pos h]
    · rw [if_neg (by omega), if_neg h]
  · by_cases h : j = c
    · rw [if_pos (by omega), if_pos h]
    · rw [if_neg (by omega), if_neg h, if_neg (by omega)]
def Qm (f : Nat → Int) (n w : Nat) (L : List (Option Nat)) : Prop :=
  ∃ c, L.length = 2 * c ∧ n ≤ c * w ∧ c * w < n + w ∧ ∀ j, j < c → Std f (L.getD (2 * j) none) (L.getD (2 * j + 1) none) (j * w) (min ((j + 1) * w) n)
theorem tM {f : Nat → Int} {n w a : Nat} (hw : 1 ≤ w) (ha : 1 ≤ a) (hn : 0 < n) : ∀ (l : List (Option Nat × Option Nat)) (i c : Nat) (acc : List (Option Nat)),
    acc.length = 2 * c → i ≤ c * a → c * a < i + a → (i = 0 ∨ (i - 1) * w < n) → n ≤ (i + l.length) * w → (0 < l.length → (i + l.length - 1) * w < n) →
    (∀ k, k < l.length → Std f (l.getD k (none, none)).1 (l.getD k (none, none)).2 ((i + k) * w) (min ((i + k + 1) * w) n)) →
    (∀ j, j < c → Std f (acc.getD (2 * j) none) (acc.getD (2 * j + 1) none) (j * (a * w)) (min ((j + 1) * (a * w)) (min (i * w) n))) →
    Qm f n (a * w) (cY a i acc l)
  | [], i, c, acc, h1, h2, h3, h4, h5, h6, h7, h8 => by
    simp only [List.length_nil, Nat.add_zero] at h5
    have e1 : i * w ≤ c * (a * w) := by rw [← Nat.mul_assoc]; exact Nat.mul_le_mul_right _ h2
    have hi0 : i ≠ 0 := by rintro rfl; simp at h5; omega
    have e2 : c * (a * w) < n + a * w := by
      have h4' : (i - 1) * w < n := by rcases h4 with h | h <;> first | exact h | omega
      have : c * a ≤ (i - 1) + a := by omega
      have := Nat.mul_le_mul_right w this
      rw [Nat.add_mul, Nat.mul_assoc] at this
      omega
    refine ⟨c, h1, by omega, e2, fun j hj => ?_⟩
    have := h8 j hj
    rwa [Nat.min_eq_right (show n ≤ i * w from h5)] at this
  | x :: l, i, c, acc, h1, h2, h3, h4, h5, h6, h7, h8 => by
    have h70 : Std f x.1 x.2 (i * w) (min ((i + 1) * w) n) := h7 0 (by simp)
    have h6' := h6 (by simp)
    simp only [List.length_cons] at h5 h6' h7
    have Jx : i * w < n := by
      have : i * w ≤ (i + (l.length + 1) - 1) * w := Nat.mul_le_mul_right _ (by omega)
      omega
    have es : (i + 1) * w = i * w + w := Nat.succ_mul i w
    have h7' : ∀ k, k < l.length → Std f (l.getD k (none, none)).1 (l.getD k (none, none)).2 ((i + 1 + k) * w) (min ((i + 1 + k + 1) * w) n) := by
      intro k hk
      have := h7 (k + 1) (by omega)
      rw [show i + (k + 1) = i + 1 + k by omega] at this
      exact this
    have h5' : n ≤ (i + 1 + l.length) * w := by rw [show i + 1 + l.length = i + (l.length + 1) by omega]; exact h5
    have acj : 0 < l.length → (i + 1 + l.length - 1) * w < n := by
      intro _; rw [show i + 1 + l.length - 1 = i + (l.length + 1) - 1 by omega]; exact h6'
    rw [cY]
    split
    · rename_i h0
      have hic : i = c * a := by
        obtain ⟨q, hq⟩ := Nat.dvd_of_mod_eq_zero h0
        rw [Nat.mul_comm a q] at hq
        have hqc : q = c := by
          rcases Nat.lt_trichotomy q c with h | h | h
          · have := Nat.mul_le_mul_right a (show q + 1 ≤ c from h)
            rw [Nat.succ_mul] at this; omega
          · exact h
          · have := Nat.mul_le_mul_right a (show c + 1 ≤ q from h)
            rw [Nat.succ_mul] at this; omega
        rw [hq, hqc]
      have ec : (c + 1) * a = c * a + a := Nat.succ_mul c a
      have ecw : c * (a * w) = i * w := by rw [hic, Nat.mul_assoc]
      have aix : (c + 1) * (a * w) = c * (a * w) + a * w := Nat.succ_mul _ _
      have haw : w ≤ a * w := Nat.le_mul_of_pos_left _ (by omega)
      refine tM hw ha hn l (i + 1) (c + 1) (acc ++ [x.1, x.2]) (by simp [h1]; omega) (by omega) (by omega) (.inr (by simpa using Jx)) h5' acj h7' fun j hj => ?_
      by_cases Ye : j = c
      · subst Ye
        rw [tL (by omega), tL (by omega), show 2 * j - acc.length = 0 by omega, show 2 * j + 1 - acc.length = 1 by omega]
        have em : min ((j + 1) * (a * w)) (min ((i + 1) * w) n) = min ((i + 1) * w) n := by omega
        rw [em, ecw]
        exact h70
      · have UK : j < c := by omega
        rw [tK (by omega), tK (by omega)]
        have := h8 j UK
        have ej : (j + 1) * (a * w) ≤ c * (a * w) := Nat.mul_le_mul_right _ UK
        have em : min ((j + 1) * (a * w)) (min ((i + 1) * w) n) = min ((j + 1) * (a * w)) (min (i * w) n) := by omega
        rw [em]
        exact this
    · rename_i h0
      obtain ⟨c, rfl⟩ : ∃ c', c = c' + 1 := by
        cases c with
        | zero => exact absurd (by rw [show i = 0 by omega]; exact Nat.zero_mod a) h0
        | succ c => exact ⟨c, rfl⟩
      have ek : i ≠ (c + 1) * a := by rintro rfl; exact h0 (Nat.mul_mod_left _ _)
      have ei : i + 1 ≤ (c + 1) * a := by omega
      have ei2 : (i + 1) * w ≤ (c + 1) * (a * w) := by rw [← Nat.mul_assoc]; exact Nat.mul_le_mul_right _ ei
      refine tM hw ha hn l (i + 1) (c + 1) (gY acc x) (by rw [gF]; exact h1) (by omega) (by omega) (.inr (by simpa using Jx)) h5' acj h7' fun j hj => ?_
      obtain ⟨s1, s2⟩ := GQ (x := x) h1 j
      rw [s1, s2]
      have := h8 j hj
      by_cases Ye : j = c
      · subst Ye
        rw [if_pos rfl, if_pos rfl]
        have em : min ((j + 1) * (a * w)) (min ((i + 1) * w) n) = min ((i + 1) * w) n := by omega
        have em2 : min ((j + 1) * (a * w)) (min (i * w) n) = i * w := by omega
        rw [em]; rw [em2] at this
        exact this.join h70
      · rw [if_neg Ye, if_neg Ye]
        have UK : j + 1 ≤ c := by omega
        have ej : (j + 1) * (a * w) ≤ c * (a * w) := Nat.mul_le_mul_right _ UK
        have ec : (c + 1) * a = c * a + a := Nat.succ_mul c a
        have ej2 : c * (a * w) ≤ i * w := by rw [← Nat.mul_assoc]; exact Nat.mul_le_mul_right _ (by omega)
        have em : min ((j + 1) * (a * w)) (min ((i + 1) * w) n) = min ((j + 1) * (a * w)) (min (i * w) n) := by omega
        rw [em]
        exact this
def bF (xs : List (Option Nat)) (i : Nat) : Int := aU (xs.getD i none)
theorem UL {xs : List (Option Nat)} {b : Nat} (hb : 1 ≤ b) (h0 : 0 < xs.length) (hf : cG xs) : Qm (bF xs) xs.length b (cY b 0 [] (fP xs)) := by
  have hl : (fP xs).length = xs.length := by simp [fP]
  have := tM (f := bF xs) (n := xs.length) (w := 1) (a := b) (by omega) hb h0 (fP xs) 0 0 [] rfl (by omega) (by omega) (.inl rfl) (by omega) (by omega) (fun k hk => ?_) (fun j hj => by omega)
  · rwa [Nat.mul_one] at this
  · rw [hl] at hk
    have hx : (fP xs).getD k (none, none) = (az (xs.getD k none), az (xs.getD k none)) := by
      rw [fP, List.getD_eq_getElem?_getD, List.getD_eq_getElem?_getD, List.getElem?_map, List.getElem?_eq_getElem hk]; rfl
    have hfk := hf.get hk
    have he : aU (az (xs.getD k none)) = bF xs k := p_ hfk
    rw [hx, show min ((0 + k + 1) * 1) xs.length = k + 1 by omega, show (0 + k) * 1 = k by omega]
    refine ⟨bn hfk, bn hfk, ⟨k, by omega, by omega, he.symm⟩, ⟨k, by omega, by omega, he.symm⟩, fun j h1 h2 => ?_⟩
    have : j = k := by omega
    subst this
    simp only [he]
    omega
theorem Qn {f : Nat → Int} {n w : Nat} {L : List (Option Nat)} (hw : 1 ≤ w) (hn : 0 < n) (h : Qm f n w L) : Qm f n (2 * w) (cY 2 0 [] (b_ L)) := by
  obtain ⟨c, h1, h2, h3, h4⟩ := h
  have hl : (b_ L).length = c := by rw [kb]; omega
  have hc : 0 < c := by cases c with | zero => rw [Nat.zero_mul] at h2; omega | succ c => omega
  refine tM hw (by omega) hn (b_ L) 0 0 [] rfl (by omega) (by omega) (.inl rfl) (by rw [hl, Nat.zero_add]; exact h2) (fun _ => ?_) (fun k hk => ?_) (fun j hj => by omega)
  · rw [hl, Nat.zero_add]
    obtain ⟨c, rfl⟩ : ∃ c', c = c' + 1 := ⟨c - 1, by omega⟩
    rw [Nat.succ_mul] at h3
    simp only [Nat.add_sub_cancel]
    omega
  · rw [hl] at hk
    rw [rn L k (by omega), Nat.zero_add]
    exact h4 k hk
theorem Er : ∀ (l : List (Option Nat)) (p : Option Nat), aJ p = true → cG l → aJ (gK .lt p l) = true ∧ aU (gK .lt p l) ≤ aU p ∧ (∀ x ∈ l, aU (gK .lt p l) ≤ aU x) ∧ (aU (gK .lt p l) = aU p ∨ ∃ x ∈ l, aU x = aU (gK .lt p l))
  | [], p, hp, _ => ⟨hp, Int.le_refl _, (fun x hx => by cases hx), .inl rfl⟩
  | x :: l, p, hp, h => by
    have hx := h x List.mem_cons_self
    rw [gK]
    by_cases h0 : aM .f32 x p = some .lt
    · rw [if_pos h0]
      have hk := (D6 hx hp).1 h0
      obtain ⟨a1, a2, a3, a4⟩ := Er l x hx (fun y hy => h y (List.mem_cons_of_mem _ hy))
      refine ⟨a1, by omega, fun y hy => ?_, ?_⟩
      · rcases List.mem_cons.1 hy with rfl | hy
        · exact a2
        · exact a3 y hy
      · rcases a4 with a4 | ⟨y, hy, a4⟩
        · exact .inr ⟨x, List.mem_cons_self, a4.symm⟩
        · exact .inr ⟨y, List.mem_cons_of_mem _ hy, a4⟩
    · rw [if_neg h0]
      have hk : ¬ aU x < aU p := fun hc => h0 ((D6 hx hp).2 hc)
      obtain ⟨a1, a2, a3, a4⟩ := Er l p hp (fun y hy => h y (List.mem_cons_of_mem _ hy))
      refine ⟨a1, a2, fun y hy => ?_, ?_⟩
      · rcases List.mem_cons.1 hy with rfl | hy
        · omega
        · exact a3 y hy
      · rcases a4 with a4 | ⟨y, hy, a4⟩
        · exact .inl a4
        · exact .inr ⟨y, List.mem_cons_of_mem _ hy, a4⟩
theorem Es : ∀ (l : List (Option Nat)) (p : Option Nat), aJ p = true → cG l → aJ (gK .gt p l) = true ∧ aU p ≤ aU (gK .gt p l) ∧ (∀ x ∈ l, aU x ≤ aU (gK .gt p l)) ∧ (aU (gK .gt p l) = aU p ∨ ∃ x ∈ l, aU x = aU (gK .gt p l))
  | [], p, hp, _ => ⟨hp, Int.le_refl _, (fun x hx => by cases hx), .inl rfl⟩
  | x :: l, p, hp, h => by
    have hx := h x List.mem_cons_self
    rw [gK]
    by_cases h0 : aM .f32 x p = some .gt
    · rw [if_pos h0]
      have hk := (D7 hx hp).1 h0
      obtain ⟨a1, a2, a3, a4⟩ := Es l x hx (fun y hy => h y (List.mem_cons_of_mem _ hy))
      refine ⟨a1, by omega, fun y hy => ?_, ?_⟩
      · rcases List.mem_cons.1 hy with rfl | hy
        · exact a2
        · exact a3 y hy
      · rcases a4 with a4 | ⟨y, hy, a4⟩
        · exact .inr ⟨x, List.mem_cons_self, a4.symm⟩
        · exact .inr ⟨y, List.mem_cons_of_mem _ hy, a4⟩
    · rw [if_neg h0]
      have hk : ¬ aU p < aU x := fun hc => h0 ((D7 hx hp).2 hc)
      obtain ⟨a1, a2, a3, a4⟩ := Es l p hp (fun y hy => h y (List.mem_cons_of_mem _ hy))
      refine ⟨a1, a2, fun y hy => ?_, ?_⟩
      · rcases List.mem_cons.1 hy with rfl | hy
        · omega
        · exact a3 y hy
      · rcases a4 with a4 | ⟨y, hy, a4⟩
        · exact .inl a4
        · exact .inr ⟨y, List.mem_cons_of_mem _ hy, a4⟩
theorem Qo {xs : List (Option Nat)} {w p : Nat} (hp : p < xs.length) : (oT xs w p).length = min (p + w) xs.length - p := by
  rw [oT, List.length_take, List.length_drop]; omega
theorem Qp {xs : List (Option Nat)} {w p k : Nat} (hp : p < xs.length) (hk : p + k < min (p + w) xs.length) : (oT xs w p).getD k none = xs.getD (p + k) none := by
  rw [oT, List.getD_eq_getElem?_getD, List.getD_eq_getElem?_getD, List.getElem?_take, if_pos (by omega), List.getElem?_drop]
theorem oW {l : List (Option Nat)} {x : Option Nat} (h : x ∈ l) : ∃ k, k < l.length ∧ l.getD k none = x := by
  obtain ⟨k, hk, rfl⟩ := List.mem_iff_getElem.1 h
  exact ⟨k, hk, by rw [List.getD_eq_getElem?_getD, List.getElem?_eq_getElem hk]; rfl⟩
theorem UM {xs : List (Option Nat)} {w p : Nat} (hw : 1 ≤ w) (hp : p < xs.length) (hf : cG xs) :
    Std (bF xs) (gK .lt ((oT xs w p).getD 0 none) (oT xs w p)) (gK .gt ((oT xs w p).getD 0 none) (oT xs w p)) p (min (p + w) xs.length) := by
  have hl := Qo (w := w) hp
  have hg : ∀ k, p + k < min (p + w) xs.length → (oT xs w p).getD k none = xs.getD (p + k) none := fun k hk => Qp hp hk
  have Fw : cG (oT xs w p) := fun x hx => by
    obtain ⟨k, hk, rfl⟩ := oW hx
    rw [hg k (by omega)]
    exact hf.get (by omega)
  generalize oT xs w p = l at hl hg Fw
  have hf0 : aJ (l.getD 0 none) = true := Fw.get (by omega)
  have h0m : l.getD 0 none ∈ l := by rw [List.getD_eq_getElem?_getD, List.getElem?_eq_getElem (by omega)]; exact List.getElem_mem _
  have wit : ∀ x ∈ l, ∃ k, p ≤ k ∧ k < min (p + w) xs.length ∧ bF xs k = aU x := by
    intro x hx
    obtain ⟨k, hk, rfl⟩ := oW hx
    exact ⟨p + k, by omega, by omega, by rw [hg k (by omega)]; rfl⟩
  obtain ⟨a1, a2, a3, a4⟩ := Er l _ hf0 Fw
  obtain ⟨b1, b2, b3, b4⟩ := Es l _ hf0 Fw
  refine ⟨a1, b1, ?_, ?_, ?_⟩
  · rcases a4 with a4 | ⟨x, hx, a4⟩
    · rw [a4]; exact wit _ h0m
    · rw [← a4]; exact wit _ hx
  · rcases b4 with b4 | ⟨x, hx, b4⟩
    · rw [b4]; exact wit _ h0m
    · rw [← b4]; exact wit _ hx
  · intro k SC iC
    clear a4 b4 wit
    have VE := hg (k - p) (by omega)
    rw [show p + (k - p) = k by omega] at VE
    have hm : xs.getD k none ∈ l := by
      rw [← VE, List.getD_eq_getElem?_getD, List.getElem?_eq_getElem (by omega)]; exact List.getElem_mem _
    exact ⟨a3 _ hm, b3 _ hm⟩
theorem Et {xs : List (Option Nat)} {w : Nat} (hw : 1 ≤ w) (hf : cG xs) : ∀ (k c p : Nat) (acc : List (Option Nat)), p = c * w → acc.length = 2 * c → xs.length ≤ p + k → p < xs.length + w →
    (∀ j, j < c → Std (bF xs) (acc.getD (2 * j) none) (acc.getD (2 * j + 1) none) (j * w) (min ((j + 1) * w) xs.length)) → Qm (bF xs) xs.length w (acc ++ kd xs w k p)
  | 0, c, p, acc, hpc, ha, hk, hp, h => by
    rw [kd, List.append_nil]
    exact ⟨c, ha, by omega, by omega, h⟩
  | k + 1, c, p, acc, hpc, ha, hk, hp, h => by
    rw [kd]
    by_cases Mw : p < xs.length
    · rw [if_pos Mw, ← List.append_assoc]
      have es : (c + 1) * w = c * w + w := Nat.succ_mul c w
      refine Et hw hf k (c + 1) (p + w) _ (by omega) (by simp [ha]; omega) (by omega) (by omega) fun j hj => ?_
      by_cases Ye : j = c
      · subst Ye
        rw [tL (by omega), tL (by omega), show 2 * j - acc.length = 0 by omega, show 2 * j + 1 - acc.length = 1 by omega, es, ← hpc]
        exact UM hw Mw hf
      · rw [tK (by omega), tK (by omega)]
        exact h j (by omega)
    · rw [if_neg Mw, List.append_nil]
      exact ⟨c, ha, by omega, by omega, h⟩
structure Qd (L M : List (Option Nat)) : Prop where
  len : L.length = M.length
  two : L.length % 2 = 0
  UB : L.length ≤ 10000
  ab8 : cG L
  Jr : cG M
  key : ∀ i, i < L.length → aU (L.getD i none) = aU (M.getD i none)
theorem Qm.same {f : Nat → Int} {n w : Nat} {L M : List (Option Nat)} (hw : 1 ≤ w) (hn : n ≤ 5000) (h : Qm f n w L) (h' : Qm f n w M) : Qd L M := by
  obtain ⟨c, h1, h2, h3, h4⟩ := h
  obtain ⟨d, g1, g2, g3, g4⟩ := h'
  have hcd : c = d := by
    rcases Nat.lt_trichotomy c d with h | h | h
    · have := Nat.mul_le_mul_right w (show c + 1 ≤ d from h)
      rw [Nat.succ_mul] at this; omega
    · exact h
    · have := Nat.mul_le_mul_right w (show d + 1 ≤ c from h)
      rw [Nat.succ_mul] at this; omega
  subst hcd
  have hcn : c ≤ n := by
    rcases Nat.lt_or_ge n c with h | h
    · have e := Nat.mul_le_mul_right w (show n + 1 ≤ c from h)
      rw [Nat.succ_mul] at e
      have : n ≤ n * w := Nat.le_mul_of_pos_right _ (by omega)
      omega
    · exact h
  have fin : ∀ (K : List (Option Nat)), K.length = 2 * c → (∀ j, j < c → Std f (K.getD (2 * j) none) (K.getD (2 * j + 1) none) (j * w) (min ((j + 1) * w) n)) → cG K := by
    intro K hK hs x hx
    obtain ⟨k, hk, rfl⟩ := oW hx
    have := hs (k / 2) (by omega)
    rcases Nat.mod_two_eq_zero_or_one k with h | h
    · rw [show k = 2 * (k / 2) by omega]; exact this.1
    · rw [show k = 2 * (k / 2) + 1 by omega]; exact this.2.1
  refine ⟨by omega, by omega, by omega, fin L h1 h4, fin M g1 g4, fun i hi => ?_⟩
  obtain ⟨k1, k2⟩ := (h4 (i / 2) (by omega)).keys (g4 (i / 2) (by omega))
  rcases Nat.mod_two_eq_zero_or_one i with h | h
  · rw [show i = 2 * (i / 2) by omega]; exact k1
  · rw [show i = 2 * (i / 2) + 1 by omega]; exact k2
def di : List (List (Option Nat)) → List (List (Option Nat)) → Prop
  | [], [] => True
  | L :: Ls, M :: Ms => Qd L M ∧ di Ls Ms
  | _, _ => False
theorem GR {xs : List (Option Nat)} (h0 : 0 < xs.length) (hn : xs.length ≤ 5000) (hf : cG xs) : ∀ (k k' w : Nat) (L : List (Option Nat)), 1 ≤ w → Qm (bF xs) xs.length w L → L.length / 2 ≤ k → xs.length ≤ w * 2 ^ k' → di (vb k L) (iJ xs k' w)
  | k, k', w, L, hw, hL, hk, VE => by
    have hR : Qm (bF xs) xs.length w (kd xs w xs.length 0) := by
      have := Et hw hf xs.length 0 0 [] (by simp) rfl (by omega) (by omega) (fun j hj => by omega)
      simpa using this
    have hs := hL.same hw hn hR
    have B0 := hs.len
    have CE := hs.two
    obtain ⟨c, h1, h2, h3, h4⟩ := hL
    have hc : 0 < c := by cases c with | zero => rw [Nat.zero_mul] at h2; omega | succ c => omega
    have hcL : L.length / 2 = c := by omega
    by_cases SE : c = 1
    · have e1 : vb k L = [L] := by
        cases k with
        | zero => rfl
        | succ k => rw [vb, if_neg (by omega)]
      have e2 : iJ xs k' w = [kd xs w xs.length 0] := by
        cases k' with
        | zero => rfl
        | succ k' => rw [iJ, if_pos (by omega)]
      rw [e1, e2]
      exact ⟨hs, trivial⟩
    · have hwn : w < xs.length := by
        obtain ⟨c, rfl⟩ : ∃ c', c = c' + 2 := ⟨c - 2, by omega⟩
        have : 2 * w ≤ (c + 2) * w := Nat.mul_le_mul_right _ (by omega)
        omega
      obtain ⟨k, rfl⟩ : ∃ j, k = j + 1 := ⟨k - 1, by omega⟩
      obtain ⟨k', rfl⟩ : ∃ j, k' = j + 1 := by
        cases k' with
        | zero => simp at VE; omega
        | succ k' => exact ⟨k', rfl⟩
      have hh := GM L
      have hL2 := Qn hw h0 ⟨c, h1, h2, h3, h4⟩
      have e1 : vb (k + 1) L = L :: vb k (cY 2 0 [] (b_ L)) := by rw [vb, if_pos (by omega)]
      have e2 : iJ xs (k' + 1) w = kd xs w xs.length 0 :: iJ xs k' (2 * w) := by rw [iJ, if_neg (by omega)]
      have iC : xs.length ≤ 2 * w * 2 ^ k' := by
        rw [Nat.pow_succ, Nat.mul_comm (2 ^ k') 2, ← Nat.mul_assoc, Nat.mul_comm w 2] at VE; exact VE
      rw [e1, e2]
      exact ⟨hs, GR h0 hn hf k k' (2 * w) _ (by omega) hL2 (by omega) iC⟩
theorem Eu {xs ys : List (Option Nat)} {b : Nat} (hb : 1 ≤ b) (hn : xs.length ≤ 5000) (hf : cG xs) (hfy : cG ys) (hl : ys.length = xs.length) (hk : bF ys = bF xs) : di (aN ys b) (eG xs b) := by
  unfold aN eG
  rw [hl]
  by_cases h0 : xs.length = 0
  · rw [if_pos h0, if_pos h0]; trivial
  rw [if_neg h0, if_neg h0]
  have dg := CW (xs := ys) hb
  rw [hl] at dg
  have hcb : (xs.length + b - 1) / b ≤ xs.length := by
    rw [Nat.div_le_iff_le_mul_add_pred (by omega)]
    have : xs.length ≤ b * xs.length := Nat.le_mul_of_pos_left _ (by omega)
    omega
  have hd := UL hb (by omega) hfy
  rw [hk, hl] at hd
  exact GR (by omega) hn hf _ _ b _ hb hd (by omega) (by omega)
theorem jf {xs : List (Option Nat)} {b : Nat} (hb : 1 ≤ b) (hn : xs.length ≤ 5000) (hf : cG xs) : di (aN xs b) (eG xs b) := Eu hb hn hf hf rfl rfl
theorem di.len : ∀ {Ls Ms : List (List (Option Nat))}, di Ls Ms → Ls.length = Ms.length
  | [], [], _ => rfl
  | _ :: _, _ :: _, h => by simp only [List.length_cons, di.len h.2]
  | [], _ :: _, h => h.elim
  | _ :: _, [], h => h.elim
theorem di.at : ∀ {Ls Ms : List (List (Option Nat))} (i : Nat), di Ls Ms → i < Ls.length → Qd (Ls.getD i []) (Ms.getD i [])
  | [], [], i, _, hi => by simp at hi
  | L :: Ls, M :: Ms, 0, h, hi => h.1
  | L :: Ls, M :: Ms, i + 1, h, hi => di.at i h.2 (by simpa using hi)
  | [], _ :: _, _, h, _ => h.elim
  | _ :: _, [], _, h, _ => h.elim
theorem GS (xs : List (Option Nat)) : ∀ (k w : Nat), (iJ xs k w).length ≤ k + 1
  | 0, w => by simp [iJ]
  | k + 1, w => by
    rw [iJ]
    split
    · simp
    · have := GS xs k (2 * w)
      simp only [List.length_cons]; omega
theorem vd (xs : List (Option Nat)) (b : Nat) : (eG xs b).length ≤ 14 := by
  unfold eG
  split
  · simp
  · exact GS xs 13 b
theorem je {Ls : List (List (Option Nat))} {i : Nat} (hi : i < Ls.length) : (an Ls).getD i .top = AV.list ((Ls.getD i []).length / 2) (bU (Ls.getD i [])) := by
  rw [an, List.getD_eq_getElem?_getD, List.getD_eq_getElem?_getD, List.getElem?_map, List.getElem?_eq_getElem hi]; rfl
theorem Qq {Ls : List (List (Option Nat))} (h : Ls.length ≤ 5000) (h2 : ∀ i, i < Ls.length → (Ls.getD i []).length % 2 = 0 ∧ (Ls.getD i []).length ≤ 10000) : qd Ls.length (an Ls) := by
  refine ⟨h, by simp [an], fun c hc => ?_⟩
  obtain ⟨i, hi, rfl⟩ := List.mem_iff_getElem.1 hc
  have fR : i < Ls.length := by simpa [an] using hi
  have e := je fR
  rw [List.getD_eq_getElem?_getD, List.getElem?_eq_getElem hi] at e
  obtain ⟨e1, e2⟩ := h2 i fR
  refine ⟨_, _, e, ?_, by omega⟩
  have : 2 * ((Ls.getD i []).length / 2) = (Ls.getD i []).length := by omega
  rw [this]
  exact PH (by omega)
section
variable {Ls Ms : List (List (Option Nat))} (h : di Ls Ms)
include h
theorem di.ab6 (hn : Ls.length ≤ 5000) : qd Ls.length (an Ls) := Qq hn fun i hi => ⟨(di.at i h hi).two, (di.at i h hi).UB⟩
theorem di.aeX (hn : Ms.length ≤ 5000) : qd Ms.length (an Ms) := Qq hn fun i hi => by
  have := di.at i h (by rw [h.len]; exact hi)
  rw [← this.len]; exact ⟨this.two, this.UB⟩
end
end Go.Abs
end
noncomputable section
namespace Go.Abs
open Go.Proofs Classical Go.Abs.Fin
def Nu (L:List (Option Nat)):Bool:=(List.range L.length).all fun j=>aJ (L.getD j none)
def nh (L M:List (Option Nat)):Bool:=(List.range M.length).all fun j=>decide (aU (M.getD j none)=aU (L.getD j none))
def ma (W:List (List (Option Nat))) (m:Nat) (ls:List AV):Bool:=(List.range m).all fun i=>decide ((W.getD i []).length=(fu ls i).length)
def oU (m:Nat) (ls:List AV):Bool:=(List.range m).all fun i=>Nu (fu ls i)
def lI (W:List (List (Option Nat))) (m:Nat) (ls:List AV):Bool:=(List.range m).all fun i=>nh (W.getD i []) (fu ls i)
def lJ (W:List (List (Option Nat))) (m:Nat) (ls:List AV):Int:=
 if W.length=m then (if ma W m ls=true then (if oU m ls=true then (if lI W m ls=true then 0 else 21) else 1) else 2) else 2
def iK (n:Nat) (xs:List (Option Nat)) (b:Int) (m:Nat) (ls:List AV):Int:=
 if aY n xs=0 then (if b<1\/b>256 then 3 else lJ (eG xs b.toNat) m ls) else aY n xs
theorem bT {n:Nat} {p:Nat->Bool}:(List.range n).all p=true↔∀ i,i<n->p i=true:=by
 rw [List.all_eq_true]
 exact ⟨fun h i hi=>h i (List.mem_range.2 hi),fun h i hi=>h i (List.mem_range.1 hi)⟩
theorem fe {n:Nat} {p q:Nat->Bool} (h:∀ i,i<n->p i=q i):(List.range n).all p=(List.range n).all q:=by
 rw [Bool.eq_iff_iff,bT,bT]
 exact ⟨fun hp i hi=>by rw [←h i hi];exact hp i hi,fun hp i hi=>by rw [h i hi];exact hp i hi⟩
theorem oV {L:List (Option Nat)}:Nu L=true↔cG L:=by
 unfold Nu
 rw [bT]
 exact ⟨fun h x hx=>by obtain ⟨k,hk,rfl⟩:=oW hx;exact h k hk,fun h i hi=>h.get hi⟩
theorem Jq {L M:List (Option Nat)} (hl:L.length=M.length) (hL:cG L) (hM:cG M):mD L M=nh L M:=by
 unfold mD nh
 rw [beq_iff_eq.2 hl,Bool.true_and,hl]
 refine fe fun i hi=>?_
 rw [M1 (hL.get (by omega)) (hM.get hi)]
 exact decide_eq_decide.2 ⟨Eq.symm,Eq.symm⟩
theorem Eo {L L' M:List (Option Nat)} (h:Qd L L') (hl:L.length=M.length):nh L M=nh L' M:=by
 unfold nh
 refine fe fun i hi=>?_
 rw [h.key i (by omega)]
theorem qP {W W':List (List (Option Nat))} {m:Nat} {ls:List AV} (h:di W W'):lJ W m ls=lJ W' m ls:=by
 unfold lJ
 rw [h.len]
 by_cases hm:W'.length=m
 case neg=>rw [if_neg hm,if_neg hm]
 rw [if_pos hm,if_pos hm]
 have hW:W.length=m:=by rw [h.len];exact hm
 have e1:ma W m ls=ma W' m ls:=by
  unfold ma
  refine fe fun i hi=>?_
  rw [(di.at i h (by omega)).len]
 rw [e1]
 by_cases h1:ma W' m ls=true
 case neg=>rw [if_neg h1,if_neg h1]
 rw [if_pos h1,if_pos h1]
 have e2:lI W m ls=lI W' m ls:=by
  unfold lI
  refine fe fun i hi=>?_
  have hs:=di.at i h (by omega)
  have:=of_decide_eq_true (bT.1 (e1.trans h1) i hi)
  exact Eo hs this
 rw [e2]
theorem lK {ls:List AV} {i k:Nat} {cs:List AV} (h:ls.getD i .top=.list k cs):fu ls i=fO cs:=by unfold fu;rw [h]
theorem ni {Ls:List (List (Option Nat))} {i:Nat} (hi:i<Ls.length):fu (an Ls) i=Ls.getD i []:=by
 rw [lK (je hi),zE]
theorem Ux {n m N:Nat} {cs ls:List AV} {b:Int} (h:bu n cs) (h':qd m ls) (hN:n+m+5020<N):
  (dA mzM cQ N 12).call (List aa) 29 [.aT (.list n cs),.s (.agg [.b (.int .i64 b),.b (.list m ls)])] [] (bp [false])=
  some [.v (.int .i64 (iK n (fO cs) b m ls))]:=by
 rw [X1]
 have hl:=h'.2.1
 have hm:=h'.1
 simp only [ab,aj,h,if_true,jN,cr]
 unfold iK
 by_cases hs:aY n (fO cs)=0
 case neg=>rw [if_neg hs,if_neg hs,if_neg hs]
 rw [if_pos hs,if_pos hs]
 by_cases hb:b<1\/b>256
 case pos=>simp only [hb,if_true];rfl
 obtain ⟨hn,hf⟩:=gW hs
 have CX:=h.len
 have dH:=jf (xs:=fO cs) (b:=b.toNat) (by omega) (by omega) hf
 have g1:(n<=5000/\(1:Int)<=b/\b<=10000)=True:=eq_true ⟨by omega,by omega,by omega⟩
 have hwl:=vd (fO cs) b.toNat
 simp only [hb,if_false,if_true,true_and,g1]
 generalize eG (fO cs) b.toNat=W at dH hwl
 have hLW:=dH.aeX (by omega)
 unfold lJ
 by_cases X2:W.length=m
 case neg=>rw [if_neg (by omega),if_neg X2]
 rw [if_pos (by omega),if_pos X2]
 subst X2
 refine au (fun k (r:Int->Int->Nat->List AV->Nat->List AV->Int->Nat->List AV->Option (List aa))=>∀ (i:Nat),i+k=W.length->(∀ t,t<i->(W.getD t []).length=(fu ls t).length)->
  r (i:Int) b W.length ls 0 [] b W.length (an W)=some [.v (.int .i64 (if ma W W.length ls=true then (if oU W.length ls=true then (if lI W W.length ls=true then 0 else 21) else 1) else 2))]) ?_ N W.length (by omega) 0 (by omega) (fun t ht=>by omega)
 intro k r ih i hi hlen
 by_cases hk:i<W.length
 ·obtain ⟨q,ds,e1,e2,e3⟩:=h'.get hk
  have eL:=lK e1
  have eW:=je hk
  have p0:0<ls.length:=by omega
  have p1:0<(an W).length:=by rw [hLW.2.1];omega
  have wi:IntKind.i64.wrap ((i:Int)+1)=((i+1:Nat):Int):=by rw [wrap64]<;>omega
  have xX:(W.getD i []).length%2=0:=by
   have:=di.at i dH (by rw [dH.len];exact hk)
   rw [←this.len];exact this.two
  have hle:=e2.len
  simp only [ae,cr,aj,Int.ofNat_lt,hk,p0,p1,if_true,Int.natCast_nonneg,true_and,and_true,Int.toNat_natCast,Nat.mul_one,e1,eW,cJ,ak,Int.ofNat_inj,wi]
  by_cases hq:(W.getD i []).length / 2=q
  ·rw [if_pos hq]
   exact ih (k-1) (by omega) (i+1) (by omega) fun t ht=>by
    by_cases hti:t=i
    ·subst hti;rw [eL,hle];omega
    ·exact hlen t (by omega)
  ·rw [if_neg hq,if_neg]
   intro hc
   have:=of_decide_eq_true (bT.1 hc i hk)
   rw [eL,hle] at this
   omega
 have Qe:ma W W.length ls=true:=bT.2 fun i hi=>decide_eq_true (hlen i (by omega))
 have Nv:¬ ((i:Int)<(W.length:Int)):=by omega
 rw [if_pos Qe]
 simp only [ae,Nv,if_false]
 clear ih hlen
 refine au (fun k (r:Int->Int->Nat->List AV->Nat->List AV->Int->Nat->List AV->Option (List aa))=>∀ (i:Nat),i+k=W.length->(∀ t,t<i->cG (fu ls t))->
  r (i:Int) b W.length ls 0 [] b W.length (an W)=some [.v (.int .i64 (if oU W.length ls=true then (if lI W W.length ls=true then 0 else 21) else 1))]) ?_ N W.length (by omega) 0 (by omega) (fun t ht=>by omega)
 intro k r ih i hi MC
 by_cases hk:i<W.length
 ·obtain ⟨q,ds,e1,e2,e3⟩:=h'.get hk
  have eL:=lK e1
  have p0:0<ls.length:=by omega
  have wi:IntKind.i64.wrap ((i:Int)+1)=((i+1:Nat):Int):=by rw [wrap64]<;>omega
  have hle:=e2.len
  have hdl:=e2.2.2
  simp only [ae,Int.ofNat_lt,hk,if_true]
  refine au (fun k2 (r2:Int->Int->Int->Nat->List AV->Nat->List AV->Int->Nat->List AV->Option (List aa))=>∀ (j:Nat),j+k2=q->(∀ t,t<2*j->aJ ((fO ds).getD t none)=true)->
   r2 (i:Int) (j:Int) b W.length ls 0 [] b W.length (an W)=some [.v (.int .i64 (if oU W.length ls=true then (if lI W W.length ls=true then 0 else 21) else 1))]) ?_ N q (by omega) 0 (by omega) (fun t ht=>by omega)
  intro k2 r2 tr j hj hfj
  simp only [bP (show 0<N by omega),ae,fN,aj,Int.ofNat_lt,hk,p0,if_true,Int.natCast_nonneg,true_and,and_true,Int.toNat_natCast,Nat.mul_one,e1,cJ,ak]
  by_cases iC:j<q
  ·have GJ:=e2.get (i:=2*j) (by omega)
   have GK:=e2.get (i:=2*j+1) (by omega)
   have wj:IntKind.i64.wrap ((j:Int)+1)=((j+1:Nat):Int):=by rw [wrap64]<;>omega
   have q0:0<ds.length:=by omega
   have GL:j*2=2*j:=by omega
   simp only [iC,q0,if_true,true_and,and_true,GL,Nat.add_zero,GJ,GK,ak,wj]
   cases I2:aJ ((fO ds).getD (2*j) none) with
   | false=>
    have hnf:¬ oU W.length ls=true:=fun hc=>by
     have:=oV.1 (bT.1 hc i hk)
     rw [eL] at this
     rw [this.get (by omega)] at I2;cases I2
    rw [if_neg hnf];rfl
   | true=>
    cases MU:aJ ((fO ds).getD (2*j+1) none) with
    | false=>
     have hnf:¬ oU W.length ls=true:=fun hc=>by
      have:=oV.1 (bT.1 hc i hk)
      rw [eL] at this
      rw [this.get (by omega)] at MU;cases MU
     rw [if_neg hnf];rfl
    | true=>
     exact tr (k2-1) (by omega) (j+1) (by omega) fun t ht=>by
      by_cases h1:t=2*j
      ·subst h1;exact I2
      by_cases h2:t=2*j+1
      ·subst h2;exact MU
      exact hfj t (by omega)
  ·simp only [iC,if_false,wi]
   refine ih (k-1) (by omega) (i+1) (by omega) fun t ht=>?_
   by_cases hti:t=i
   ·subst hti
    rw [eL]
    intro x hx
    obtain ⟨p,hp,rfl⟩:=oW hx
    exact hfj p (by omega)
   ·exact MC t (by omega)
 ·have hF:oU W.length ls=true:=bT.2 fun t ht=>oV.2 (MC t (by omega))
  have hS:wZ W.length (an W) ls=lI W W.length ls:=by
   unfold wZ lI
   refine fe fun t ht=>?_
   rw [ni ht]
   have hs:=di.at t dH (by rw [dH.len];exact ht)
   exact Jq (of_decide_eq_true (bT.1 Qe t ht)) hs.Jr (MC t (by omega))
  have g2:(qd W.length (an W)/\qd W.length ls)=True:=eq_true ⟨hLW,h'⟩
  rw [if_pos hF]
  simp only [ae,fN,aj,Int.ofNat_lt,hk,if_false,g2,if_true,decide_true,Bool.true_and,hS]
  cases lI W W.length ls<;>rfl
end Go.Abs
end
noncomputable section
namespace Go.Abs
open Go.Proofs Classical Go.Abs.Fin
def zP (W:List (List (Option Nat))) (m:Nat) (ls:List AV) (pr:Int) (i:Nat):Int:=
 if (((List.range m).drop i).all fun t=>Nu (fu ls t))=true then (if pr=0/\(((List.range m).drop i).all fun t=>nh (W.getD t []) (fu ls t))=true then 0 else 21) else 1
def zQ (W:List (List (Option Nat))) (m:Nat) (ls:List AV) (pr:Int) (i j:Nat) (L M:List (Option Nat)):Int:=
 if (((List.range M.length).drop (2*j)).all fun t=>aJ (M.getD t none))=true/\(((List.range m).drop (i+1)).all fun t=>Nu (fu ls t))=true then
  (if pr=0/\(((List.range M.length).drop (2*j)).all fun t=>decide (aU (M.getD t none)=aU (L.getD t none)))=true/\(((List.range m).drop (i+1)).all fun t=>nh (W.getD t []) (fu ls t))=true then 0 else 21) else 1
theorem Uy {n m N:Nat} {cs ls:List AV} {b:Int} (h:bu n cs) (h':qd m ls) (hN:n+m+5020<N):
  (dA H8 cQ N 12).call (List aa) 27 [.aT (.list n cs),.s (.agg [.b (.int .i64 b),.b (.list m ls)])] [] (bp [false])=
  some [.v (.int .i64 (iK n (fO cs) b m ls))]:=by
 rw [X3]
 have hl:=h'.2.1
 have hm:=h'.1
 simp only [ab,aj,h,if_true,PF,Gu,mG,jN,cr]
 unfold iK
 by_cases hs:aY n (fO cs)=0
 case neg=>rw [if_neg hs,if_neg hs,if_neg hs]
 rw [if_pos hs,if_pos hs]
 by_cases hb:b<1\/b>256
 case pos=>simp only [hb,if_true];rfl
 obtain ⟨hn,hf⟩:=gW hs
 have CX:=h.len
 have dH:=jf (xs:=fO cs) (b:=b.toNat) (by omega) (by omega) hf
 have g1:(n<=5000/\cG (fO cs)/\(1:Int)<=b/\b<=100000)=True:=eq_true ⟨by omega,hf,by omega,by omega⟩
 have hwl:(aN (fO cs) b.toNat).length<=14:=by rw [dH.len];exact vd _ _
 rw [←qP dH]
 simp only [hb,if_false,if_true,true_and,g1]
 generalize aN (fO cs) b.toNat=W at dH hwl
 generalize eG (fO cs) b.toNat=W' at dH
 have hLW:=dH.ab6 (by omega)
 unfold lJ
 by_cases X2:W.length=m
 case neg=>rw [if_neg (by omega),if_neg X2]
 rw [if_pos (by omega),if_pos X2]
 subst X2
 generalize ag (aX (cM (Go.Value.int IntKind.i64 0)).cells 2) 0 _=pc
 refine au (fun k (r:Nat->List AV->Nat->List AV->Int->Int->Int->Nat->List AV->Nat->List AV->Option (List aa))=>∀ (i:Nat) (x9:Nat) (H7:List AV),i+k=W.length->(∀ t,t<i->(W.getD t []).length=(fu ls t).length)->
  r W.length (an W) W.length (an W) (W.length:Int) (i:Int) b W.length ls x9 H7=some [.v (.int .i64 (if ma W W.length ls=true then (if oU W.length ls=true then (if lI W W.length ls=true then 0 else 21) else 1) else 2))]) ?_ N W.length (by omega) 0 _ _ (by omega) (fun t ht=>by omega)
 intro k r ih i x9 H7 hi hlen
 by_cases hk:i<W.length
 ·obtain ⟨q,ds,e1,e2,e3⟩:=h'.get hk
  have eL:=lK e1
  have eW:=je hk
  have p0:0<ls.length:=by omega
  have p1:0<(an W).length:=by rw [hLW.2.1];omega
  have wi:IntKind.i64.wrap ((i:Int)+1)=((i+1:Nat):Int):=by rw [wrap64]<;>omega
  have xX:(W.getD i []).length%2=0:=(di.at i dH hk).two
  have hle:=e2.len
  simp only [ae,cr,aj,Int.ofNat_lt,hk,p0,p1,if_true,Int.natCast_nonneg,true_and,and_true,Int.toNat_natCast,Nat.mul_one,e1,eW,cJ,ak,Int.ofNat_inj,wi]
  by_cases hq:q=(W.getD i []).length / 2
  ·rw [if_pos hq]
   exact ih (k-1) (by omega) (i+1) _ _ (by omega) fun t ht=>by
    by_cases hti:t=i
    ·subst hti;rw [eL,hle];omega
    ·exact hlen t (by omega)
  ·rw [if_neg hq,if_neg]
   intro hc
   have:=of_decide_eq_true (bT.1 hc i hk)
   rw [eL,hle] at this
   omega
 have Qe:ma W W.length ls=true:=bT.2 fun i hi=>decide_eq_true (hlen i (by omega))
 have Nv:¬ ((i:Int)<(W.length:Int)):=by omega
 rw [if_pos Qe]
 simp only [ae,Nv,if_false]
 have Gd:(if oU W.length ls=true then (if lI W W.length ls=true then (0:Int) else 21) else 1)=zP W W.length ls 0 0:=by
  unfold zP oU lI;simp only [List.drop_zero,true_and]
 rw [Gd]
 clear ih hlen Gd
 refine au (fun k (r:Int->Nat->List AV->Int->Int->Int->Nat->List AV->Nat->List AV->Option (List aa))=>∀ (i:Nat) (pr:Int) (x8:Nat) (x9:List AV),i+k=W.length->pr=0\/pr=21->
  r pr W.length (an W) (W.length:Int) (i:Int) b W.length ls x8 x9=some [.v (.int .i64 (zP W W.length ls pr i))]) ?_ N W.length (by omega) 0 0 _ _ (by omega) (.inl rfl)
 intro k r ih i pr x8 x9 hi hpr
 by_cases hk:i<W.length
 ·obtain ⟨q,ds,e1,e2,e3⟩:=h'.get hk
  have eL:=lK e1
  have eW:=je hk
  have p0:0<ls.length:=by omega
  have p1:0<(an W).length:=by rw [hLW.2.1];omega
  have wi:IntKind.i64.wrap ((i:Int)+1)=((i+1:Nat):Int):=by rw [wrap64]<;>omega
  have hS:=di.at i dH hk
  have xX:=hS.two
  have hle:=e2.len
  have hdl:=e2.2.2
  have hLe:=of_decide_eq_true (bT.1 Qe i hk)
  rw [eL,hle] at hLe
  have hfW:=hS.ab8
  simp only [ae,aj,Int.ofNat_lt,hk,p0,p1,if_true,Int.natCast_nonneg,true_and,and_true,Int.toNat_natCast,Nat.mul_one,eW,cJ,ak]
  have cA:zP W W.length ls pr i=zQ W W.length ls pr i 0 (W.getD i []) (fO ds):=by
   unfold zP zQ
   rw [bV hk,bV hk,eL]
   unfold Nu nh
   simp only [Nat.mul_zero,List.drop_zero,Bool.and_eq_true]
  rw [cA,show (W.getD i []).length / 2=q by omega]
  have hWl:(bU (W.getD i [])).length=2*q:=by rw [p9];exact hLe
  generalize W.getD i []=L at hLe hfW hWl
  refine au (fun k2 (r2:Int->Int->Nat->List AV->Int->Int->Nat->List AV->Int->Int->Int->Nat->List AV->Nat->List AV->Option (List aa))=>∀ (j:Nat) (pr:Int),j+k2=q->pr=0\/pr=21->
   r2 pr (i:Int) W.length (an W) (W.length:Int) (i:Int) q (bU L) (q:Int) (j:Int) b W.length ls x8 x9=some [.v (.int .i64 (zQ W W.length ls pr i j L (fO ds)))]) ?_ N q (by omega) 0 pr (by omega) hpr
  intro k2 r2 tr j pr hj hpr
  by_cases iC:j<q
  ·have GJ:=e2.get (i:=2*j) (by omega)
   have GK:=e2.get (i:=2*j+1) (by omega)
   have gw1:=jO (xs:=L) (i:=2*j) (by omega)
   have gw2:=jO (xs:=L) (i:=2*j+1) (by omega)
   have wj:IntKind.i64.wrap ((j:Int)+1)=((j+1:Nat):Int):=by rw [wrap64]<;>omega
   have q0:0<ds.length:=by omega
   have q1:(2*j+2<=ds.length)=True:=eq_true (by omega)
   have q2:0<(bU L).length:=by omega
   have q3:(2*j+2<=(bU L).length)=True:=eq_true (by omega)
   have GL:j*2=2*j:=by omega
   have ae1:=hfW.get (i:=2*j) (by omega)
   have ae2:=hfW.get (i:=2*j+1) (by omega)
   have es:zQ W W.length ls pr i j L (fO ds)=if aJ ((fO ds).getD (2*j) none)=true/\aJ ((fO ds).getD (2*j+1) none)=true then
     zQ W W.length ls (if pr=0/\aU ((fO ds).getD (2*j) none)=aU (L.getD (2*j) none)/\aU ((fO ds).getD (2*j+1) none)=aU (L.getD (2*j+1) none) then 0 else 21) i (j+1) L (fO ds) else 1:=by
    unfold zQ
    rw [hle,bV (show 2*j<2*q by omega),bV (show 2*j+1<2*q by omega),bV (show 2*j<2*q by omega),bV (show 2*j+1<2*q by omega),show 2*j+1+1=2*(j+1) by omega]
    simp only [Bool.and_eq_true,decide_eq_true_eq]
    by_cases h1:aJ ((fO ds).getD (2*j) none)=true/\aJ ((fO ds).getD (2*j+1) none)=true
    ·rw [if_pos h1]
     simp only [h1.1,h1.2,true_and]
     split
     ·by_cases h2:pr=0/\aU ((fO ds).getD (2*j) none)=aU (L.getD (2*j) none)/\aU ((fO ds).getD (2*j+1) none)=aU (L.getD (2*j+1) none)
      ·rw [if_pos h2];simp only [h2.1,h2.2.1,h2.2.2,true_and]
      ·rw [if_neg h2,if_neg (fun hc=>h2 ⟨hc.1,hc.2.1.1,hc.2.1.2.1⟩),if_neg (fun hc=>by cases hc.1)]
     ·rfl
    ·rw [if_neg h1,if_neg (fun hc=>h1 ⟨hc.1.1,hc.1.2.1⟩)]
   rw [es]
   simp only [ae,fN,aj,Int.ofNat_lt,hk,iC,p0,q0,q1,q2,q3,if_true,Int.natCast_nonneg,true_and,and_true,Int.toNat_natCast,Nat.mul_one,GL,e1,cJ,GJ,GK,gw1,gw2,ak,wj]
   cases I2:aJ ((fO ds).getD (2*j) none) with
   | false=>rw [if_neg (show ¬(false=true/\aJ ((fO ds).getD (2*j+1) none)=true) from fun h=>by cases h.1)];rfl
   | true=>
    cases MU:aJ ((fO ds).getD (2*j+1) none) with
    | false=>rw [if_neg (show ¬(true=true/\false=true) from fun h=>by cases h.2)];rfl
    | true=>
     rw [if_pos (show true=true/\true=true from ⟨rfl,rfl⟩)]
     simp only [M1 I2 ae1,M1 MU ae2,ct,bH,ak,Bool.not_true,PF,Gu,mG,if_true,Bool.and_true]
     refine Eq.trans ?_ (tr (k2-1) (by omega) (j+1) _ (by omega) (by split<;>simp))
     congr 1
     by_cases h1:aU ((fO ds).getD (2*j) none)=aU (L.getD (2*j) none)<;>by_cases h2:aU ((fO ds).getD (2*j+1) none)=aU (L.getD (2*j+1) none)<;>rcases hpr with rfl | rfl<;>simp only [h1,h2,decide_true,decide_false,Bool.and_true,Bool.and_false,Bool.true_and,Bool.false_and,Bool.not_true,Bool.not_false,Bool.false_eq_true,if_true,if_false,and_true,and_false,and_self]<;>rfl
  ·have hz:(List.range (fO ds).length).drop (2*j)=[]:=by rw [List.drop_eq_nil_iff,List.length_range];omega
   simp only [ae,Int.ofNat_lt,iC,if_false,wi]
   rw [ih (k-1) (by omega) (i+1) pr _ _ (by omega) hpr]
   unfold zP zQ
   simp only [hz,List.all_nil,true_and]
 ·have hz:(List.range W.length).drop i=[]:=by rw [List.drop_eq_nil_iff,List.length_range];omega
  simp only [ae,Int.ofNat_lt,hk,if_false]
  unfold zP
  simp only [hz,List.all_nil,if_true,and_true]
  rcases hpr with rfl | rfl<;>rfl
end Go.Abs
end
set_option maxRecDepth 100000
noncomputable section
namespace Go.Abs
open Go.Proofs Classical
def yj:fr:=fun ai R K=>match ai with
 | [.agg [.int .i64 b,.list m ls]]=>gO (S_ (decide (Uv m ls))) (K [.v (.bool (S_ (Em m ls)))])
 | _=>none
theorem JY:bG Tryz.prog 18 yj:=by
 intro ai R K r ha h
 unfold yj at h
 split at h
 ·rename_i b m ls
  obtain ⟨h1,h2⟩:=aD h
  rw [ab] at h1
  have bM:=of_decide_eq_true h1
  refine ⟨[.v (.bool (Em m ls))],fun _ _=>by simp only [yj,ab,decide_eq_true bM,gO],?_,bf o5 (W:=cQ) (N:=m+1) (k:=12) (ms:=[false]) ?_ ha trivial⟩
  ·intro l hl;rcases List.mem_cons.1 hl with rfl | hl
   ·exact dz
   cases hl
  ·exact Uw bM
 ·cases h
def xd:fr:=fun ai R K=>match ai with
 | [.list n cs,.agg [.int .i64 b,.list m ls]]=>gO (S_ (decide (bu n cs/\qd m ls))) (K [.v (.int .i64 (S_ (iK n (fO cs) b m ls)))])
 | _=>none
theorem Re:bG Tryz.prog 29 xd:=by
 intro ai R K r ha h
 unfold xd at h
 split at h
 ·rename_i n cs b m ls
  obtain ⟨h1,h2⟩:=aD h
  rw [ab] at h1
  have bM:=of_decide_eq_true h1
  refine ⟨[.v (.int .i64 (iK n (fO cs) b m ls))],fun _ _=>by simp only [xd,ab,decide_eq_true bM,gO],?_,bf Rd (W:=cQ) (N:=n+m+5021) (k:=12) (ms:=[false]) ?_ ha trivial⟩
  ·intro l hl;rcases List.mem_cons.1 hl with rfl | hl
   ·exact bh
   cases hl
  ·exact Ux bM.1 bM.2 (by omega)
 ·cases h
theorem Rf:bG Tryz.prog 27 xd:=by
 intro ai R K r ha h
 unfold xd at h
 split at h
 ·rename_i n cs b m ls
  obtain ⟨h1,h2⟩:=aD h
  rw [ab] at h1
  have bM:=of_decide_eq_true h1
  refine ⟨[.v (.int .i64 (iK n (fO cs) b m ls))],fun _ _=>by simp only [xd,ab,decide_eq_true bM,gO],?_,bf o5 (W:=cQ) (N:=n+m+5021) (k:=12) (ms:=[false]) ?_ ha trivial⟩
  ·intro l hl;rcases List.mem_cons.1 hl with rfl | hl
   ·exact bh
   cases hl
  ·exact Uy bM.1 bM.2 (by omega)
 ·cases h
def mzN:List (FuncId × fr):=(18,yj)::(29,xd)::(27,xd)::mzM
theorem aau:eZ Tryz.prog mzN:=⟨JY,Re,Rf,Rd⟩
end Go.Abs
end
