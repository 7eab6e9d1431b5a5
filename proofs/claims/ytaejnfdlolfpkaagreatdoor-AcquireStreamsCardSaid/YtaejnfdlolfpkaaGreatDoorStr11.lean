/- Part 11 of the library that the proof of the statement uses: an abstract run of the program, proved right, and what its functions give. -/
import Derived.Test.YtaejnfdlolfpkaaGreatDoorStr10
set_option linter.unusedVariables false
set_option linter.unusedSimpArgs false

section
/- The table with the chapter's 'awake'. -/
namespace Go.Abs
open Go.Proofs Classical
noncomputable def eAwake : Ent := fun args' R K => match args' with
 | [] => K [.v (.bool true)]
 | _ => none
theorem eAwake_15 : EntOk Tryz.prog 15 eAwake := by
 intro args' R K r ha h
 unfold eAwake at h
 split at h
 ·refine ⟨[.v (.bool true)], fun _ _ => rfl, fun l hl => by simp only [List.mem_singleton] at hl; subst hl; exact leaf_bool, ?_⟩
  intro H args bor hn hb
  have : args = [] := by
   cases args with
   | nil => rfl
   | cons x xs =>
    simp only [normArgs] at hn
    split at hn
    ·simp at hn
    ·cases hn
  subst this
  exact awake_call H
 ·cases h
end Go.Abs
end

section
/- Entries: shots and segments (printed by mkent.py). -/
set_option linter.unusedVariables false
set_option linter.unusedSimpArgs false
namespace Go.Abs
open Go.Proofs Classical Go.Mach
theorem shotCells_plain {l : List (Nat × Bool)} : ∀ c ∈ shotCells l, PlainC c := by
 intro c hc
 unfold shotCells at hc
 obtain ⟨p, _, hp⟩ := List.mem_flatMap.1 hc
 rcases List.mem_cons.1 hp with rfl | hp
 ·exact .int _ _
 rcases List.mem_cons.1 hp with rfl | hp
 ·exact .bool _
 cases hp
def suOf (a b c d : Int) : SU := ⟨a.toNat, b.toNat, c.toNat, d.toNat⟩
structure ShotsOk (a b c d : Int) (m : Nat) (fs : List AV) (q : Nat) (ar : List AV) (e : Int) : Prop where
 setup : setupE a b c d = 0
 bls : Bls m fs
 mle : m ≤ 5000
 qle : q ≤ 256
 e0 : 0 ≤ e
 em : e ≤ (m : Int)
 arms : Arms q ar e.toNat
def shotsP (a b c d : Int) (fs ar : List AV) (e : Int) : List (Nat × Bool) := shotsArm (suOf a b c d) (boolsOf fs) e.toNat (armsN ar) 0 0 []
theorem su_ok {a b c d : Int} (h : setupE a b c d = 0) : SUok (suOf a b c d) ∧ ((suOf a b c d).pre : Int) = a ∧ ((suOf a b c d).post : Int) = b ∧ ((suOf a b c d).hold : Int) = c ∧ ((suOf a b c d).lim : Int) = d := by
 obtain ⟨h1, h2, h3, h4⟩ := setup_ok h
 refine ⟨⟨?_, ?_, ?_, ?_, ?_, ?_⟩, ?_, ?_, ?_, ?_⟩ <;> simp only [suOf] <;> omega
theorem run_101'' {a b c d : Int} {m q : Nat} {fs ar : List AV} {e : Int} (h : ShotsOk a b c d m fs q ar e) : (fsW tzm waysM (e.toNat + q + 2) 8).call (List RLeaf) 101 [setupS a b c d, .ofB (.list m fs), .ofB (.list q ar), .ofB (.int .i64 e)] [] (resK [true]) = some [.fz (shotsP a b c d fs ar e).length (shotCells (shotsP a b c d fs ar e))] := by
 obtain ⟨h1, h2, h3, h4, h5⟩ := su_ok h.setup
 have he : ((e.toNat : Nat) : Int) = e := Int.toNat_of_nonneg h.e0
 have := run_101' (N := e.toNat + q + 2) h1 h.bls h.arms h.qle (by have := h.em; omega) h.mle (by omega) (by omega)
 rw [h2, h3, h4, h5, he] at this
 exact this
theorem run_103'' {n : Nat} {cs : List AV} {a b : Int} (h : Bls n cs ∧ 0 ≤ a ∧ a ≤ b ∧ b ≤ (n : Int) ∧ n ≤ 100000) : (fsW tzm waysM (n + 1) 8).call (List RLeaf) 103 [.ofB (.list n cs), .ofB (.int .i64 a), .ofB (.int .i64 b)] [] (resK [false]) = some [.v (.int .i64 ((cnt (boolsOf cs) a.toNat b.toNat : Nat) : Int))] := by
 obtain ⟨h1, h2, h3, h4, h5⟩ := h
 have := run_103' (a := a.toNat) (b := b.toNat) h1 (by omega) (by omega) h5
 rw [Int.toNat_of_nonneg h2, Int.toNat_of_nonneg (by omega : 0 ≤ b)] at this
 exact this
theorem flos_cells {n : Nat} {cs : List AV} (h : Flos n cs) : ∀ c ∈ cs, Cell c := by
 rw [h.2.1]
 intro c hc
 obtain ⟨o, _, rfl⟩ := List.mem_map.1 hc
 exact .flo _ _
theorem segs_cells {n : Nat} {cs : List AV} (h : Segs n cs) : ∀ c ∈ cs, Cell c := by
 intro c hc
 obtain ⟨j, hj, e⟩ := List.getElem_of_mem hc
 have hl := h.len
 have hi : j / 5 < n := by omega
 have hd : cs.getD j .top = c := by rw [List.getD_eq_getElem?_getD, List.getElem?_eq_getElem hj, ← e]; rfl
 have hr : j = j / 5 * 5 + j % 5 := by omega
 have h5 : j % 5 < 5 := Nat.mod_lt _ (by omega)
 rw [← hd, hr]
 generalize j % 5 = r at h5
 match r, h5 with
 | 0, _ => rw [Nat.add_zero, h.c0 _ hi]; exact .int _ _
 | 1, _ => rw [h.c1 _ hi]; exact .int _ _
 | 2, _ => rw [h.c2 _ hi]; exact .list _ _ (flos_cells (h.fl _ hi))
 | 3, _ => rw [h.c3 _ hi]; exact .int _ _
 | 4, _ => rw [h.c4 _ hi]; exact .int _ _
theorem leaf_segs {n : Nat} {cs : List AV} (h : Segs n cs) : LeafOk (.v (.list n cs)) := ⟨(Cell.list n cs (segs_cells h)).pure, (fun _ _ e => by cases e; exact segs_cells h), (fun _ e => by cases e)⟩
def SelfF (n : Nat) (cs : List AV) : Prop := ∀ i, i < n → sameF (flosOf (segAt cs i).fs) (flosOf (segAt cs i).fs) = true
theorem run_32'' {n m : Nat} {cs ds : List AV} (h : Segs n cs ∧ n = m ∧ cs = ds ∧ SelfF n cs) : (fsW tzm waysM (n + 1) 8).call (List RLeaf) 32 [.ofB (.list n cs), .ofB (.list m ds)] [] (resK [false]) = some [.v (.bool true)] := by
 obtain ⟨h1, rfl, rfl, h4⟩ := h
 exact run_32' h1 h4
noncomputable def eShots : Ent := fun args' R K => match args' with
 | [.agg [.int .i64 a, .int .i64 b, .int .i64 c, .int .i64 d], .list m fs, .list q ar, .int .i64 e] => guardO (shut (decide (ShotsOk a b c d m fs q ar e))) (K [.fz (shut ((shotsP a b c d fs ar e).length)) (shut (shotCells (shotsP a b c d fs ar e)))])
 | _ => none
theorem eShots_101 : EntOk Tryz.prog 101 eShots := by
 intro args' R K r ha h
 unfold eShots at h
 split at h
 ·rename_i a b c d m fs q ar e
  obtain ⟨h1, h2⟩ := guardO_some h
  rw [shut_eq] at h1
  have h1' := of_decide_eq_true h1
  refine ⟨[.fz ((shotsP a b c d fs ar e).length) (shotCells (shotsP a b c d fs ar e))], fun _ _ => by simp only [eShots, shut_eq, decide_eq_true h1', guardO], ?_, con_ofW tzm_ok (W := waysM) (N := e.toNat + q + 2) (k := 8) (ms := [true]) ?_ ha ⟨shotCells_plain, trivial⟩⟩
  ·intro l hl; rcases List.mem_cons.1 hl with rfl | hl
   ·exact (leaf_fz (shotCells_plain))
   cases hl
  ·exact run_101'' h1'
 ·cases h
noncomputable def eCleanM : Ent := fun args' R K => match args' with
 | [.list n cs] => guardO (shut (decide (Flos n cs ∧ n ≤ 100000))) (K [.fz (shut (((flosOf cs).map clean1).length)) (shut (flosL ((flosOf cs).map clean1)))])
 | _ => none
theorem eCleanM_102 : EntOk Tryz.prog 102 eCleanM := by
 intro args' R K r ha h
 unfold eCleanM at h
 split at h
 ·rename_i n cs
  obtain ⟨h1, h2⟩ := guardO_some h
  rw [shut_eq] at h1
  have h1' := of_decide_eq_true h1
  refine ⟨[.fz (((flosOf cs).map clean1).length) (flosL ((flosOf cs).map clean1))], fun _ _ => by simp only [eCleanM, shut_eq, decide_eq_true h1', guardO], ?_, con_ofW tzm_ok (W := waysM) (N := n + 1) (k := 8) (ms := [true]) ?_ ha ⟨flosL_plain, trivial⟩⟩
  ·intro l hl; rcases List.mem_cons.1 hl with rfl | hl
   ·exact (leaf_fz (flosL_plain))
   cases hl
  ·exact run_102' h1'.1 h1'.2
 ·cases h
noncomputable def eCount : Ent := fun args' R K => match args' with
 | [.list n cs, .int .i64 a, .int .i64 b] => guardO (shut (decide (Bls n cs ∧ 0 ≤ a ∧ a ≤ b ∧ b ≤ (n : Int) ∧ n ≤ 100000))) (K [.v (.int .i64 (shut (((cnt (boolsOf cs) a.toNat b.toNat : Nat) : Int))))])
 | _ => none
theorem eCount_103 : EntOk Tryz.prog 103 eCount := by
 intro args' R K r ha h
 unfold eCount at h
 split at h
 ·rename_i n cs a b
  obtain ⟨h1, h2⟩ := guardO_some h
  rw [shut_eq] at h1
  have h1' := of_decide_eq_true h1
  refine ⟨[.v (.int .i64 (((cnt (boolsOf cs) a.toNat b.toNat : Nat) : Int)))], fun _ _ => by simp only [eCount, shut_eq, decide_eq_true h1', guardO], ?_, con_ofW tzm_ok (W := waysM) (N := n + 1) (k := 8) (ms := [false]) ?_ ha trivial⟩
  ·intro l hl; rcases List.mem_cons.1 hl with rfl | hl
   ·exact leaf_int
   cases hl
  ·exact run_103'' h1'
 ·cases h
noncomputable def eOwn : Ent := fun args' R K => match args' with
 | [.list n cs] => guardO (shut (decide (Segs n cs ∧ n ≤ 100000))) (K [.v (.list (shut (n)) (shut (cs)))])
 | _ => none
theorem eOwn_33 : EntOk Tryz.prog 33 eOwn := by
 intro args' R K r ha h
 unfold eOwn at h
 split at h
 ·rename_i n cs
  obtain ⟨h1, h2⟩ := guardO_some h
  rw [shut_eq] at h1
  have h1' := of_decide_eq_true h1
  refine ⟨[.v (.list (n) (cs))], fun _ _ => by simp only [eOwn, shut_eq, decide_eq_true h1', guardO], ?_, con_ofW tzm_ok (W := waysM) (N := n + 1) (k := 8) (ms := [false]) ?_ ha trivial⟩
  ·intro l hl; rcases List.mem_cons.1 hl with rfl | hl
   ·exact (leaf_segs h1'.1)
   cases hl
  ·exact run_33' h1'.1 h1'.2
 ·cases h
noncomputable def eClnS : Ent := fun args' R K => match args' with
 | [.list n cs] => guardO (shut (decide (Segs n cs))) (K [.v (.bool (shut ((segsOf n cs).all fun s => (flosOf s.fs).all fun o => !negz o)))])
 | _ => none
theorem eClnS_34 : EntOk Tryz.prog 34 eClnS := by
 intro args' R K r ha h
 unfold eClnS at h
 split at h
 ·rename_i n cs
  obtain ⟨h1, h2⟩ := guardO_some h
  rw [shut_eq] at h1
  have h1' := of_decide_eq_true h1
  refine ⟨[.v (.bool ((segsOf n cs).all fun s => (flosOf s.fs).all fun o => !negz o))], fun _ _ => by simp only [eClnS, shut_eq, decide_eq_true h1', guardO], ?_, con_ofW tzm_ok (W := waysM) (N := n + 1) (k := 8) (ms := [false]) ?_ ha trivial⟩
  ·intro l hl; rcases List.mem_cons.1 hl with rfl | hl
   ·exact leaf_bool
   cases hl
  ·exact run_34' h1'
 ·cases h
noncomputable def eSameS : Ent := fun args' R K => match args' with
 | [.list n cs, .list m ds] => guardO (shut (decide (Segs n cs ∧ n = m ∧ cs = ds ∧ SelfF n cs))) (K [.v (.bool (shut (true)))])
 | _ => none
theorem eSameS_32 : EntOk Tryz.prog 32 eSameS := by
 intro args' R K r ha h
 unfold eSameS at h
 split at h
 ·rename_i n cs m ds
  obtain ⟨h1, h2⟩ := guardO_some h
  rw [shut_eq] at h1
  have h1' := of_decide_eq_true h1
  refine ⟨[.v (.bool (true))], fun _ _ => by simp only [eSameS, shut_eq, decide_eq_true h1', guardO], ?_, con_ofW tzm_ok (W := waysM) (N := n + 1) (k := 8) (ms := [false]) ?_ ha trivial⟩
  ·intro l hl; rcases List.mem_cons.1 hl with rfl | hl
   ·exact leaf_bool
   cases hl
  ·exact run_32'' h1'
 ·cases h
noncomputable def tzn : List (FuncId × Ent) := (101, eShots) :: (102, eCleanM) :: (103, eCount) :: (33, eOwn) :: (34, eClnS) :: (32, eSameS) :: (15, eAwake) :: tzm
theorem tzn_ok : TabLOk Tryz.prog tzn := ⟨eShots_101, eCleanM_102, eCount_103, eOwn_33, eClnS_34, eSameS_32, eAwake_15, tzm_ok⟩
end Go.Abs
end

section
/- Segments and accepted triggers of the reference, lifted (printed by the tool gen.py). -/
set_option maxRecDepth 100000
set_option linter.unusedVariables false
namespace Go.Abs
open Go.Proofs Classical
theorem run_27 (N : Nat) (a b c d : Int) (n : Nat) (cs : List AV) (m : Nat) (fs : List AV) (q : Nat) (ar : List AV) (e : Int) : (fsW tzn waysM N 8).call (List RLeaf) 27 [.s (.agg [.b (.int .i64 a), .b (.int .i64 b), .b (.int .i64 c), .b (.int .i64 d)]), .ofB (.list n cs), .ofB (.list m fs), .ofB (.list q ar), .ofB (.int .i64 e)] [] (resK [false]) = (
 guardO (shut (decide (ShotsOk a b c d m fs q ar e))) <|
 loopC N (fun r_1 (x0_1 : Nat) (x1_1 : List AV) (x2_1 : Nat) (x3_1 : List AV) (x4_1 : Nat) (x5_1 : List AV) (x6_1 : Int) (x7_1 : Int) (x8_1 : Int) (x9_1 : Int) (x10_1 : Int) (x11_1 : Int) (x12_1 : Int) (x13_1 : Nat) (x14_1 : List AV) (x15_1 : Nat) (x16_1 : List AV) =>
  condO (shut (decide (x8_1 < (↑x4_1 : Int))))
  (
  guardO (shut (decide ((0 : Int) ≤ x8_1 ∧ x8_1 < (↑x4_1 : Int) ∧ 0 < x5_1.length))) <|
  bindO (asBool (x5_1.getD (x8_1.toNat * 2 + 1) AV.top)) fun v4 =>
  condO (!v4)
   (
   r_1 (x0_1) (x1_1) (x2_1) (x3_1) (x4_1) (x5_1) (x6_1) (x7_1) (shut (IntKind.i64.wrap (x8_1 + (1 : Int)))) (x9_1) (x10_1) (x11_1) (x12_1) (x13_1) (x14_1) (x15_1) (x16_1))
   (
   guardO (shut (decide ((0 : Int) ≤ x8_1 ∧ x8_1 < (↑x4_1 : Int) ∧ 0 < x5_1.length))) <|
   bindO (asInt IntKind.i64 (x5_1.getD (x8_1.toNat * 2 + 0) AV.top)) fun v7 =>
   guardO (shut (decide ((0 : Int) ≤ shut (IntKind.i64.wrap (v7 - x9_1)) ∧ shut (IntKind.i64.wrap (v7 - x9_1)) ≤ shut (IntKind.i64.wrap (v7 + x10_1)) ∧ shut (IntKind.i64.wrap (v7 + x10_1)) ≤ (↑x0_1 : Int)))) <|
   guardO (shut (decide (x0_1 * 1 = x1_1.length))) <|
   guardO (shut (decide (Flos ((shut (IntKind.i64.wrap (v7 + x10_1))).toNat - (shut (IntKind.i64.wrap (v7 - x9_1))).toNat) (List.take (((shut (IntKind.i64.wrap (v7 + x10_1))).toNat - (shut (IntKind.i64.wrap (v7 - x9_1))).toNat) * 1) (List.drop ((shut (IntKind.i64.wrap (v7 - x9_1))).toNat * 1) x1_1)) ∧ (shut (IntKind.i64.wrap (v7 + x10_1))).toNat - (shut (IntKind.i64.wrap (v7 - x9_1))).toNat ≤ 100000))) <|
   guardO (shut (decide (Bls x2_1 x3_1 ∧ (0 : Int) ≤ x7_1 ∧ x7_1 ≤ v7 ∧ v7 ≤ (↑x2_1 : Int) ∧ x2_1 ≤ 100000))) <|
   guardO (shut (decide ((x15_1 + 1) * 57 ≤ 549755813888))) <|
   r_1 (x0_1) (x1_1) (x2_1) (x3_1) (x4_1) (x5_1) (shut (IntKind.i64.wrap (v7 + x10_1))) (shut (IntKind.i64.wrap (v7 + (1 : Int)))) (shut (IntKind.i64.wrap (x8_1 + (1 : Int)))) (x9_1) (x10_1) (x11_1) (x12_1) (x13_1) (x14_1) (x15_1 + 1) (x16_1 ++ putCells (zrow (ofV (Go.Value.agg #[Go.Value.int IntKind.i64 (0 : Int), Go.Value.int IntKind.i64 (0 : Int), Go.Value.slice Option.none 0 0, Go.Value.int IntKind.i64 (0 : Int), Go.Value.int IntKind.i64 (0 : Int)])).cells 5) 0 [AV.int IntKind.i64 (shut (IntKind.i64.wrap (v7 - x9_1))), AV.int IntKind.i64 v7, AV.list (shut (List.map clean1 (flosOf (List.take (((shut (IntKind.i64.wrap (v7 + x10_1))).toNat - (shut (IntKind.i64.wrap (v7 - x9_1))).toNat) * 1) (List.drop ((shut (IntKind.i64.wrap (v7 - x9_1))).toNat * 1) x1_1)))).length) (shut (flosL (List.map clean1 (flosOf (List.take (((shut (IntKind.i64.wrap (v7 + x10_1))).toNat - (shut (IntKind.i64.wrap (v7 - x9_1))).toNat) * 1) (List.drop ((shut (IntKind.i64.wrap (v7 - x9_1))).toNat * 1) x1_1)))))), AV.int IntKind.i64 (shut (IntKind.i64.wrap (shut (IntKind.i64.wrap (v7 - x9_1)) - x6_1))), AV.int IntKind.i64 (shut (↑(Go.Mach.cnt (boolsOf x3_1) x7_1.toNat v7.toNat) : Int))])))
  (
  some ([RLeaf.v (AV.list x15_1 x16_1)])))
  (fun _ _ _ _ _ _ _ _ _ _ _ _ _ _ _ _ _ => none) (n) (cs) (m) (fs) (shut (shotsP a b c d fs ar e).length) (shut (shotCells (shotsP a b c d fs ar e))) ((0 : Int)) ((0 : Int)) ((0 : Int)) (a) (b) (c) (d) (0) ([]) (0) ([])) := by kernel_rfl
theorem run_41 (N : Nat) (a b c d : Int) (m : Nat) (fs : List AV) (q : Nat) (ar : List AV) : (fsW tzn waysM N 8).call (List RLeaf) 41 [.s (.agg [.b (.int .i64 a), .b (.int .i64 b), .b (.int .i64 c), .b (.int .i64 d)]), .ofB (.list m fs), .ofB (.list q ar)] [] (resK [true]) = (
 guardO (shut (decide (ShotsOk a b c d m fs q ar (↑m : Int)))) <|
 loopC N (fun r_1 (x0_1 : Nat) (x1_1 : List AV) (x2_1 : Int) (x3_1 : Int) (x4_1 : Int) (x5_1 : Int) (x6_1 : Int) (x7_1 : Nat) (x8_1 : List AV) (x9_1 : Nat) (x10_1 : List AV) =>
  condO (shut (decide (x2_1 < (↑x0_1 : Int))))
  (
  guardO (shut (decide ((0 : Int) ≤ x2_1 ∧ x2_1 < (↑x0_1 : Int) ∧ 0 < x1_1.length))) <|
  bindO (asInt IntKind.i64 (x1_1.getD (x2_1.toNat * 2 + 0) AV.top)) fun v4 =>
  guardO (shut (decide ((x9_1 + 1) * 9 ≤ 549755813888))) <|
  r_1 (x0_1) (x1_1) (shut (IntKind.i64.wrap (x2_1 + (1 : Int)))) (x3_1) (x4_1) (x5_1) (x6_1) (x7_1) (x8_1) (x9_1 + 1) (x10_1 ++ putCells (zrow (ofV (Go.Value.int IntKind.i64 (0 : Int))).cells 1) 0 [AV.int IntKind.i64 v4]))
  (
  some ([RLeaf.fz x9_1 x10_1])))
  (fun _ _ _ _ _ _ _ _ _ _ _ => none) (shut (shotsP a b c d fs ar (↑m : Int)).length) (shut (shotCells (shotsP a b c d fs ar (↑m : Int)))) ((0 : Int)) (a) (b) (c) (d) (0) ([]) (0) ([])) := by kernel_rfl
end Go.Abs
end

section
/- The shots of the reference ascend. -/
set_option linter.unusedVariables false
set_option linter.unusedSimpArgs false
namespace Go.Mach
section
variable {α : Type} {z : α} {cl : α → α} {u : SU} {os : List α} {tr : List Bool}
def GoodW (u : SU) (n : Nat) : Nat → Nat → List Nat → Prop
 | _, _, [] => True
 | e, a, t :: l => e + u.pre ≤ t ∧ a ≤ t ∧ t + u.post ≤ n ∧ GoodW u n (t + u.post) (t + 1) l
theorem GoodW.app {n : Nat} : ∀ {l : List Nat} {e a t : Nat}, GoodW u n e a l → endL u e l + u.pre ≤ t → aftL a l ≤ t → t + u.post ≤ n → GoodW u n e a (l ++ [t])
 | [], e, a, t, _, h1, h2, h3 => ⟨h1, h2, h3, trivial⟩
 | x :: l, e, a, t, h, h1, h2, h3 => by
  obtain ⟨g1, g2, g3, g4⟩ := h
  refine ⟨g1, g2, g3, g4.app ?_ ?_ h3⟩
  ·simpa [endL] using h1
  ·simpa [aftL] using h2
structure GoodS (u : SU) (n to : Nat) (acc : List (Nat × Bool)) : Prop where
 good : GoodW u n 0 0 (wholes acc)
 en : endL u 0 (wholes acc) ≤ to
 af : aftL 0 (wholes acc) ≤ to
theorem shotsIn_good (hpost : 1 ≤ u.post) {to n : Nat} (hto : to ≤ n) : ∀ (k t done whole e : Nat) (acc : List (Nat × Bool)), t ≤ to → GoodW u n 0 0 (wholes acc) → endL u 0 (wholes acc) ≤ e → e ≤ to → aftL 0 (wholes acc) ≤ t → GoodS u n to (shotsIn u tr to k t done whole e acc).1
 | 0, t, done, whole, e, acc, ht, h1, h2, h3, h4 => ⟨h1, Nat.le_trans h2 h3, Nat.le_trans h4 ht⟩
 | k + 1, t, done, whole, e, acc, ht, h1, h2, h3, h4 => by
  simp only [shotsIn]
  by_cases hlt : t < to
  case neg => rw [if_neg hlt]; exact ⟨h1, Nat.le_trans h2 h3, Nat.le_trans h4 ht⟩
  rw [if_pos hlt]
  by_cases hsk : skipR u tr t done whole e = true
  ·rw [if_pos hsk]
   exact shotsIn_good hpost hto k (t + 1) done whole e acc (by omega) h1 h2 h3 (by omega)
  ·rw [if_neg hsk]
   have hpre : e + u.pre ≤ t := by
    unfold skipR at hsk
    simp only [Bool.or_eq_true, decide_eq_true_eq] at hsk
    omega
   by_cases hend : t + u.post > to
   ·rw [if_pos hend]
    have hw : wholes (acc ++ [(t, false)]) = wholes acc := by rw [wholes_app]; simp
    exact ⟨by rw [hw]; exact h1, by rw [hw]; exact Nat.le_trans h2 h3, by rw [hw]; exact Nat.le_trans h4 ht⟩
   ·rw [if_neg hend]
    have hw : wholes (acc ++ [(t, true)]) = wholes acc ++ [t] := by rw [wholes_app]; simp
    exact shotsIn_good hpost hto k (t + u.post) (done + 1) (whole + 1) (t + u.post) (acc ++ [(t, true)]) (by omega) (by rw [hw]; exact h1.app (by omega) (by omega) (by omega)) (by rw [hw, endL_app]; exact Nat.le_refl _) (by omega) (by rw [hw, aftL_app]; omega)
theorem shotsArm_good (hpost : 1 ≤ u.post) {n : Nat} : ∀ (ars : List Nat) (fr whole : Nat) (acc : List (Nat × Bool)), Asc fr ars n → GoodS u n fr acc → GoodS u n n (shotsArm u tr n ars fr whole acc)
 | [], fr, whole, acc, ha, h => by
  have ha : fr ≤ n := ha
  exact shotsIn_good hpost (Nat.le_refl n) (n + 1) fr 0 whole fr acc ha h.good h.en ha h.af
 | a :: ars, fr, whole, acc, ha, h => by
  have h3 := ha.2.le
  simp only [shotsArm, Nat.min_eq_left h3]
  exact shotsArm_good hpost ars a _ _ ha.2 (shotsIn_good hpost h3 (n + 1) fr 0 whole fr acc ha.1 h.good h.en ha.1 h.af)
theorem shots_good (hpost : 1 ≤ u.post) {ars : List Nat} {n : Nat} (ha : Asc 0 ars n) : GoodW u n 0 0 (wholes (shotsArm u tr n ars 0 0 [])) :=
 (shotsArm_good hpost ars 0 0 [] ha ⟨trivial, Nat.le_refl _, Nat.le_refl _⟩).good
end
end Go.Mach
end

section
/- The segments and the accepted triggers of the reference. -/
set_option linter.unusedVariables false
set_option linter.unusedSimpArgs false
namespace Go.Abs
open Go.Proofs Classical Go.Mach
theorem shotCells_0 {L : List (Nat × Bool)} {i : Nat} (hi : i < L.length) : (shotCells L).getD (i * 2 + 0) .top = .int .i64 ((L.getD i (0, false)).1 : Int) ∧ (shotCells L).getD (i * 2 + 1) .top = .bool (L.getD i (0, false)).2 := by
 have e : shotCells L = (L.map fun p => [AV.int .i64 (p.1 : Int), AV.bool p.2]).flatten := by simp [shotCells, List.flatMap]
 have h5 : ∀ e ∈ L.map (fun p => [AV.int .i64 (p.1 : Int), AV.bool p.2]), e.length = 2 := by
  intro e he; obtain ⟨s, _, rfl⟩ := List.mem_map.1 he; rfl
 rw [e, List.getD_eq_getElem?_getD, List.getD_eq_getElem?_getD, List.getD_eq_getElem?_getD, flat_get (C := 2) h5 (by omega), flat_get (C := 2) h5 (by omega), List.getElem?_map, List.getElem?_eq_getElem hi]
 exact ⟨rfl, rfl⟩
theorem shotsArm_most {u : SU} (hpost : 1 ≤ u.post) {tr : List Bool} {n : Nat} : ∀ (al : List Nat) (fr whole : Nat) (acc : List (Nat × Bool)), (shotsArm u tr n al fr whole acc).length ≤ acc.length + (al.length + 1) * n
 | [], fr, whole, acc => by
  have := (shotsIn_most (tr := tr) (to := n) hpost (n + 1) fr 0 whole fr acc).1
  simp only [shotsArm, List.length_nil]; omega
 | a :: al, fr, whole, acc => by
  have h1 := (shotsIn_most (tr := tr) (to := min a n) hpost (n + 1) fr 0 whole fr acc).1
  have h2 := shotsArm_most hpost (n := n) (tr := tr) al a (shotsIn u tr (min a n) (n + 1) fr 0 whole fr acc).2 (shotsIn u tr (min a n) (n + 1) fr 0 whole fr acc).1
  simp only [shotsArm, List.length_cons]
  have h3 : (al.length + 1 + 1) * n = (al.length + 1) * n + n := by rw [Nat.add_mul, Nat.one_mul]
  omega
section
variable {a b c d : Int} {n m q : Nat} {cs fs ar : List AV} {e : Int}
theorem ShotsOk.len (h : ShotsOk a b c d m fs q ar e) : (shotsP a b c d fs ar e).length ≤ 2000000 := by
 have h1 := shotsArm_most (su_ok h.setup).1.post0 (tr := boolsOf fs) (n := e.toNat) (armsN ar) 0 0 []
 have h2 : (armsN ar).length = q := by simp [armsN, h.arms.ints.len]
 have h3 := h.qle
 have h4 : e.toNat ≤ 5000 := by have := h.em; have := h.mle; omega
 rw [h2] at h1
 have h5 : (q + 1) * e.toNat ≤ 257 * 5000 := Nat.mul_le_mul (by omega) h4
 unfold shotsP
 simp only [List.length_nil] at h1
 omega
theorem ShotsOk.good (h : ShotsOk a b c d m fs q ar e) : GoodW (suOf a b c d) e.toNat 0 0 (wholes (shotsP a b c d fs ar e)) := shots_good (su_ok h.setup).1.post0 h.arms.asc
theorem run_41' (h : ShotsOk a b c d m fs q ar (m : Int)) : (fsW tzn waysM 2000001 8).call (List RLeaf) 41 [setupS a b c d, .ofB (.list m fs), .ofB (.list q ar)] [] (resK [true]) = some [.fz ((shotsP a b c d fs ar (m : Int)).map fun p => (p.1 : Int)).length (intsL ((shotsP a b c d fs ar (m : Int)).map fun p => (p.1 : Int)))] := by
 rw [run_41]
 have hl := h.len
 simp only [shut_eq, guardO_dec, if_pos h]
 generalize shotsP a b c d fs ar (m : Int) = L at hl
 refine loopC_rule (fun k (r : Nat → List AV → Int → Int → Int → Int → Int → Nat → List AV → Nat → List AV → Option (List RLeaf)) => ∀ (i : Nat), i + k = L.length → r L.length (shotCells L) (i : Int) a b c d 0 [] i (intsL ((L.take i).map fun p => (p.1 : Int))) = some [.fz (L.map fun p => (p.1 : Int)).length (intsL (L.map fun p => (p.1 : Int)))]) ?_ 2000001 L.length (by omega) 0 (by omega)
 intro k r ih i hi
 by_cases hk : i < L.length
 ·have h2 : 0 < (shotCells L).length := by rw [shotCells_len]; omega
  have hr : (i + 1) * 9 ≤ 549755813888 := by omega
  have ih' := ih (k - 1) (by omega) (i + 1) (by omega)
  have hs : (L.take (i + 1)).map (fun p => (p.1 : Int)) = (L.take i).map (fun p => (p.1 : Int)) ++ [((L.getD i (0, false)).1 : Int)] := by
   have : L.take (i + 1) = L.take i ++ [L.getD i (0, false)] := by
    rw [List.take_add_one, List.getD, List.getElem?_eq_getElem hk]; rfl
   rw [this, List.map_append]; rfl
  have g0 : asInt .i64 ((shotCells L).getD (i * 2 + 0) .top) = some ((L.getD i (0, false)).1 : Int) := by rw [(shotCells_0 hk).1]; simp [asInt]
  have w : IntKind.i64.wrap ((i : Int) + 1) = ((i + 1 : Nat) : Int) := by rw [wrap64] <;> omega
  rw [hs, intsL_app] at ih'
  simp only [condO_dec, Int.ofNat_lt, hk, h2, hr, if_true, Int.toNat_natCast, g0, bindO_ok, w, and_true, Int.natCast_nonneg, true_and]
  exact ih'
 ·have : i = L.length := by omega
  subst this
  simp only [condO_dec, Int.ofNat_lt, hk, if_false, List.take_length, List.length_map]
theorem flos_sub {n a b : Nat} {cs : List AV} (h : Flos n cs) (hb : b ≤ n) : Flos (b - a) (List.take (b - a) (List.drop a cs)) ∧ flosOf (List.take (b - a) (List.drop a cs)) = ((flosOf cs).take b).drop a := by
 refine ⟨⟨by have := h.1; omega, ?_, by rw [List.length_take, List.length_drop, h.2.2]; omega⟩, ?_⟩
 ·conv => lhs; rw [h.2.1]
  simp only [flosOf, List.map_take, List.map_drop]
 ·rw [List.drop_take]; simp only [flosOf, List.map_take, List.map_drop]
theorem wholes_drop {L : List (Nat × Bool)} {i : Nat} (hi : i < L.length) : wholes (L.drop i) = (if (L.getD i (0, false)).2 = true then [(L.getD i (0, false)).1] else []) ++ wholes (L.drop (i + 1)) := by
 rw [drop_cons (d := (0, false)) hi]
 unfold wholes
 rw [List.filterMap_cons]
 cases (L.getD i (0, false)).2 <;> simp
theorem run_27' (h : ShotsOk a b c d n fs q ar (n : Int)) (hF : Flos n cs) : (fsW tzn waysM 2000001 8).call (List RLeaf) 27 [setupS a b c d, .ofB (.list n cs), .ofB (.list n fs), .ofB (.list q ar), .ofB (.int .i64 (n : Int))] [] (resK [false]) =
  some [.v (.list (segL clean1 (suOf a b c d) (flosOf cs) (boolsOf fs) 0 0 (wholes (shotsP a b c d fs ar (n : Int)))).length (segCells (segL clean1 (suOf a b c d) (flosOf cs) (boolsOf fs) 0 0 (wholes (shotsP a b c d fs ar (n : Int))))))] := by
 rw [run_27]
 have hl := h.len
 have hg := h.good
 have hm := h.mle
 have hB := h.bls
 obtain ⟨u1, u2, u3, u4, u5⟩ := su_ok h.setup
 simp only [shut_eq, guardO_dec, if_pos h]
 rw [Int.toNat_natCast] at hg
 generalize shotsP a b c d fs ar (n : Int) = L at hl hg
 generalize suOf a b c d = u at u1 u2 u3 u4 u5 hg
 generalize hT : segL clean1 u (flosOf cs) (boolsOf fs) 0 0 (wholes L) = Tot
 refine loopC_rule (fun k (r : Nat → List AV → Nat → List AV → Nat → List AV → Int → Int → Int → Int → Int → Int → Int → Nat → List AV → Nat → List AV → Option (List RLeaf)) => ∀ (i en af : Nat) (S : List SegO), i + k = L.length → GoodW u n en af (wholes (L.drop i)) → S.length ≤ af → en ≤ n → S ++ segL clean1 u (flosOf cs) (boolsOf fs) en af (wholes (L.drop i)) = Tot →
  r n cs n fs L.length (shotCells L) (en : Int) (af : Int) (i : Int) a b c d 0 [] S.length (segCells S) = some [.v (.list Tot.length (segCells Tot))]) ?_ 2000001 L.length (by omega) 0 0 0 [] (by omega) hg (by simp) (by omega) hT
 intro k r ih i en af S hi hg hS hen hTot
 by_cases hk : i < L.length
 ·have h2 : 0 < (shotCells L).length := by rw [shotCells_len]; omega
  have g0 : asInt .i64 ((shotCells L).getD (i * 2 + 0) .top) = some ((L.getD i (0, false)).1 : Int) := by rw [(shotCells_0 hk).1]; simp [asInt]
  have g1 : asBool ((shotCells L).getD (i * 2 + 1) .top) = some (L.getD i (0, false)).2 := by rw [(shotCells_0 hk).2]; simp [asBool]
  have w : IntKind.i64.wrap ((i : Int) + 1) = ((i + 1 : Nat) : Int) := by rw [wrap64] <;> omega
  rw [wholes_drop hk] at hg hTot
  generalize (L.getD i (0, false)).1 = t at g0 hg hTot
  cases hb : (L.getD i (0, false)).2 with
  | false =>
   rw [hb] at hg hTot g1
   simp only [condO_dec, condO_not, guardO_dec, Int.ofNat_lt, hk, h2, if_true, Int.toNat_natCast, g0, g1, bindO_ok, w, and_true, Int.natCast_nonneg, true_and]
   exact ih (k - 1) (by omega) (i + 1) en af S (by omega) hg hS hen hTot
  | true =>
   rw [hb] at hg hTot g1
   obtain ⟨k1, k2, k3, k4⟩ := hg
   have p1 := u1.post0
   have p2 := u1.post
   have w1 : IntKind.i64.wrap ((t : Int) - a) = ((t - u.pre : Nat) : Int) := by rw [wrap64] <;> omega
   have w2 : IntKind.i64.wrap ((t : Int) + b) = ((t + u.post : Nat) : Int) := by rw [wrap64] <;> omega
   have w3 : IntKind.i64.wrap ((t : Int) + 1) = ((t + 1 : Nat) : Int) := by rw [wrap64] <;> omega
   have w4 : IntKind.i64.wrap (((t - u.pre : Nat) : Int) - (en : Int)) = ((t - u.pre - en : Nat) : Int) := by rw [wrap64] <;> omega
   obtain ⟨f1, f2⟩ := flos_sub (a := t - u.pre) hF k3
   have q1 : (0 : Int) ≤ ((t - u.pre : Nat) : Int) ∧ ((t - u.pre : Nat) : Int) ≤ ((t + u.post : Nat) : Int) ∧ ((t + u.post : Nat) : Int) ≤ (n : Int) := by omega
   have q2 : n = cs.length := hF.2.2.symm
   have q3 : t + u.post - (t - u.pre) ≤ 100000 := by omega
   have q4 : (af : Int) ≤ (t : Int) ∧ (t : Int) ≤ (n : Int) ∧ n ≤ 100000 := by omega
   have q5 : (S.length + 1) * 57 ≤ 549755813888 := by omega
   simp only [condO_dec, condO_not, guardO_dec, Int.ofNat_lt, hk, h2, if_true, Int.toNat_natCast, g0, g1, bindO_ok, w, and_true, Int.natCast_nonneg, true_and, w1, w2, w3, w4, Nat.mul_one, if_pos q1, if_pos q1.2, if_pos q2, f1, f2, q3, hB, if_pos q4, q5, put5s]
   have := ih (k - 1) (by omega) (i + 1) (t + u.post) (t + 1) (S ++ [⟨t - u.pre, t, (((flosOf cs).take (t + u.post)).drop (t - u.pre)).map clean1, t - u.pre - en, cnt (boolsOf fs) af t⟩]) (by omega) k4 (by simp; omega) k3 (by rw [← hTot]; simp [segL])
   simp only [List.length_append, List.length_cons, List.length_nil, segCells_app] at this
   exact this
 ·have : i = L.length := by omega
  subst this
  have hd : wholes (L.drop L.length) = [] := by simp [wholes]
  rw [hd] at hTot
  have : S = Tot := by rw [← hTot]; simp [segL]
  subst this
  simp only [condO_dec, Int.ofNat_lt, hk, if_false]
end
end Go.Abs
end

section
/- Entries: what the law AcquireStreams calls (printed by mkent.py). -/
set_option linter.unusedVariables false
set_option linter.unusedSimpArgs false
namespace Go.Abs
open Go.Proofs Classical Go.Mach
noncomputable def segsP (a b c d : Int) (n : Nat) (cs fs ar : List AV) : List SegO := segL clean1 (suOf a b c d) (flosOf cs) (boolsOf fs) 0 0 (wholes (shotsP a b c d fs ar (n : Int)))
def timesP (a b c d : Int) (m : Nat) (fs ar : List AV) : List Int := (shotsP a b c d fs ar (m : Int)).map fun p => (p.1 : Int)
theorem GoodW.many {u : SU} {n : Nat} : ∀ {l : List Nat} {e a : Nat}, GoodW u n e a l → 1 ≤ u.post → l ≠ [] → a + l.length ≤ n
 | [], _, _, _, _, h => absurd rfl h
 | [t], e, a, h, hp, _ => by
  obtain ⟨h1, h2, h3, _⟩ := h
  simp only [List.length_cons, List.length_nil]; omega
 | t :: t' :: l, e, a, h, hp, _ => by
  obtain ⟨h1, h2, h3, h4⟩ := h
  have := GoodW.many h4 hp (by simp)
  simp only [List.length_cons] at this ⊢; omega
theorem segL_smp {u : SU} {os : List (Option Nat)} {tr : List Bool} : ∀ {l : List Nat} {e a : Nat}, ∀ s ∈ segL clean1 u os tr e a l, ∃ t, s.smp = ((os.take (t + u.post)).drop (t - u.pre)).map clean1
 | t :: l, e, a, s, hs => by
  simp only [segL] at hs
  rcases List.mem_cons.1 hs with rfl | hs
  ·exact ⟨t, rfl⟩
  ·exact segL_smp s hs
section
variable {a b c d : Int} {n m q : Nat} {cs fs ar : List AV} {e : Int}
theorem segsP_ok (h : ShotsOk a b c d n fs q ar (n : Int)) (hF : Flos n cs) : Segs (segsP a b c d n cs fs ar).length (segCells (segsP a b c d n cs fs ar)) := by
 have hg := h.good
 rw [Int.toNat_natCast] at hg
 refine segs_C ?_ ?_
 ·unfold segsP
  rw [segL_len]
  generalize wholes (shotsP a b c d fs ar (n : Int)) = W at hg
  have h1 := h.mle
  rcases W with _ | ⟨t, l⟩
  ·simp
  ·have := GoodW.many hg (su_ok h.setup).1.post0 (by simp)
   omega
 ·intro s hs
  obtain ⟨t, e⟩ := segL_smp s hs
  rw [e, List.length_map, List.length_drop, List.length_take, hF.len]
  have h1 := h.mle
  omega
theorem run_27'' (h : ShotsOk a b c d n fs q ar (n : Int) ∧ Flos n cs ∧ n = m ∧ e = (n : Int)) : (fsW tzn waysM 2000001 8).call (List RLeaf) 27 [setupS a b c d, .ofB (.list n cs), .ofB (.list m fs), .ofB (.list q ar), .ofB (.int .i64 e)] [] (resK [false]) =
  some [.v (.list (segsP a b c d n cs fs ar).length (segCells (segsP a b c d n cs fs ar)))] := by
 obtain ⟨h1, h2, rfl, rfl⟩ := h
 exact run_27' h1 h2
end
noncomputable def eSegs : Ent := fun args' R K => match args' with
 | [.agg [.int .i64 a, .int .i64 b, .int .i64 c, .int .i64 d], .list n cs, .list m fs, .list q ar, .int .i64 e] => guardO (shut (decide (ShotsOk a b c d n fs q ar (n : Int) ∧ Flos n cs ∧ n = m ∧ e = (n : Int)))) (K [.v (.list (shut ((segsP a b c d n cs fs ar).length)) (shut (segCells (segsP a b c d n cs fs ar))))])
 | _ => none
theorem eSegs_27 : EntOk Tryz.prog 27 eSegs := by
 intro args' R K r ha h
 unfold eSegs at h
 split at h
 ·rename_i a b c d n cs m fs q ar e
  obtain ⟨h1, h2⟩ := guardO_some h
  rw [shut_eq] at h1
  have h1' := of_decide_eq_true h1
  refine ⟨[.v (.list ((segsP a b c d n cs fs ar).length) (segCells (segsP a b c d n cs fs ar)))], fun _ _ => by simp only [eSegs, shut_eq, decide_eq_true h1', guardO], ?_, con_ofW tzn_ok (W := waysM) (N := 2000001) (k := 8) (ms := [false]) ?_ ha trivial⟩
  ·intro l hl; rcases List.mem_cons.1 hl with rfl | hl
   ·exact (leaf_segs (segsP_ok h1'.1 h1'.2.1))
   cases hl
  ·exact run_27'' h1'
 ·cases h
noncomputable def eAccR : Ent := fun args' R K => match args' with
 | [.agg [.int .i64 a, .int .i64 b, .int .i64 c, .int .i64 d], .list m fs, .list q ar] => guardO (shut (decide (ShotsOk a b c d m fs q ar (m : Int)))) (K [.fz (shut ((timesP a b c d m fs ar).length)) (shut (intsL (timesP a b c d m fs ar)))])
 | _ => none
theorem eAccR_41 : EntOk Tryz.prog 41 eAccR := by
 intro args' R K r ha h
 unfold eAccR at h
 split at h
 ·rename_i a b c d m fs q ar
  obtain ⟨h1, h2⟩ := guardO_some h
  rw [shut_eq] at h1
  have h1' := of_decide_eq_true h1
  refine ⟨[.fz ((timesP a b c d m fs ar).length) (intsL (timesP a b c d m fs ar))], fun _ _ => by simp only [eAccR, shut_eq, decide_eq_true h1', guardO], ?_, con_ofW tzn_ok (W := waysM) (N := 2000001) (k := 8) (ms := [true]) ?_ ha ⟨intsL_plain, trivial⟩⟩
  ·intro l hl; rcases List.mem_cons.1 hl with rfl | hl
   ·exact (leaf_fz (intsL_plain))
   cases hl
  ·exact run_41' h1'
 ·cases h
noncomputable def eSetR : Ent := fun args' R K => match args' with
 | [.agg [.int .i64 a, .int .i64 b, .int .i64 c, .int .i64 d]] => K [.v (.int .i64 (shut (setupE a b c d)))]
 | _ => none
theorem eSetR_16 : EntOk Tryz.prog 16 eSetR := by
 intro args' R K r ha h
 unfold eSetR at h
 split at h
 ·rename_i a b c d
  refine ⟨[.v (.int .i64 (setupE a b c d))], fun _ _ => by simp only [eSetR, shut_eq], ?_, con_ofW tzm_ok (W := waysM) (N := 0) (k := 6) (ms := [false]) ?_ ha trivial⟩
  ·intro l hl; rcases List.mem_cons.1 hl with rfl | hl
   ·exact leaf_int
   cases hl
  ·exact run_16'
 ·cases h
theorem eSetR_18 : EntOk Tryz.prog 18 eSetR := by
 intro args' R K r ha h
 unfold eSetR at h
 split at h
 ·rename_i a b c d
  refine ⟨[.v (.int .i64 (setupE a b c d))], fun _ _ => by simp only [eSetR, shut_eq], ?_, con_ofW tzm_ok (W := waysM) (N := 0) (k := 6) (ms := [false]) ?_ ha trivial⟩
  ·intro l hl; rcases List.mem_cons.1 hl with rfl | hl
   ·exact leaf_int
   cases hl
  ·exact run_18'
 ·cases h
noncomputable def eDeadP : Ent := fun args' R K => match args' with
 | [.agg [.int .i64 a, .int .i64 b, .int .i64 c, .int .i64 d]] => K [.v (.int .i64 (shut (deadV a b c d))), .v (.int .i64 (shut (setupE a b c d)))]
 | _ => none
theorem eDeadP_37 : EntOk Tryz.prog 37 eDeadP := by
 intro args' R K r ha h
 unfold eDeadP at h
 split at h
 ·rename_i a b c d
  refine ⟨[.v (.int .i64 (deadV a b c d)), .v (.int .i64 (setupE a b c d))], fun _ _ => by simp only [eDeadP, shut_eq], ?_, con_ofW tzm_ok (W := waysM) (N := 0) (k := 8) (ms := [false, false]) ?_ ha trivial⟩
  ·intro l hl; rcases List.mem_cons.1 hl with rfl | hl
   ·exact leaf_int
   rcases List.mem_cons.1 hl with rfl | hl
   ·exact leaf_int
   cases hl
  ·exact run_37'
 ·cases h
noncomputable def eDeadR : Ent := fun args' R K => match args' with
 | [.agg [.int .i64 a, .int .i64 b, .int .i64 c, .int .i64 d]] => guardO (shut (decide (setupE a b c d = 0))) (K [.v (.int .i64 (shut (deadV a b c d)))])
 | _ => none
theorem eDeadR_39 : EntOk Tryz.prog 39 eDeadR := by
 intro args' R K r ha h
 unfold eDeadR at h
 split at h
 ·rename_i a b c d
  obtain ⟨h1, h2⟩ := guardO_some h
  rw [shut_eq] at h1
  have h1' := of_decide_eq_true h1
  refine ⟨[.v (.int .i64 (deadV a b c d))], fun _ _ => by simp only [eDeadR, shut_eq, decide_eq_true h1', guardO], ?_, con_ofW tzm_ok (W := waysM) (N := 0) (k := 8) (ms := [false]) ?_ ha trivial⟩
  ·intro l hl; rcases List.mem_cons.1 hl with rfl | hl
   ·exact leaf_int
   cases hl
  ·exact run_39' h1'
 ·cases h
noncomputable def eArmsR : Ent := fun args' R K => match args' with
 | [.list n cs, .int .i64 b] => guardO (shut (decide (Ints n cs))) (K [.v (.int .i64 (shut (armsE n (intsOf cs) b)))])
 | _ => none
theorem eArmsR_38 : EntOk Tryz.prog 38 eArmsR := by
 intro args' R K r ha h
 unfold eArmsR at h
 split at h
 ·rename_i n cs b
  obtain ⟨h1, h2⟩ := guardO_some h
  rw [shut_eq] at h1
  have h1' := of_decide_eq_true h1
  refine ⟨[.v (.int .i64 (armsE n (intsOf cs) b))], fun _ _ => by simp only [eArmsR, shut_eq, decide_eq_true h1', guardO], ?_, con_ofW tzm_ok (W := waysM) (N := n + 1) (k := 6) (ms := [false]) ?_ ha trivial⟩
  ·intro l hl; rcases List.mem_cons.1 hl with rfl | hl
   ·exact leaf_int
   cases hl
  ·exact run_38' h1'
 ·cases h
noncomputable def acqE (a b c d : Int) (n : Nat) (cs : List AV) (m q : Nat) (ar : List AV) : Int := firstNZ [setupE a b c d, sampErr n (flosOf cs), if m = n then 0 else 2, armsE q (intsOf ar) (n : Int)]
noncomputable def acqL (a b c d : Int) (n : Nat) (cs : List AV) (m : Nat) (fs : List AV) (q : Nat) (ar : List AV) : List SegO := if acqE a b c d n cs m q ar = 0 then segsP a b c d n cs fs ar else []
noncomputable def accE (a b c d : Int) (m q : Nat) (ar : List AV) : Int := firstNZ [setupE a b c d, if m > 4096 then 5 else 0, armsE q (intsOf ar) (m : Int)]
noncomputable def accL (a b c d : Int) (m : Nat) (fs : List AV) (q : Nat) (ar : List AV) : List Int := if accE a b c d m q ar = 0 then timesP a b c d m fs ar else []
noncomputable def eAcq : Ent := fun args' R K => match args' with
 | [.agg [.int .i64 a, .int .i64 b, .int .i64 c, .int .i64 d], .list n cs, .list m fs, .list q ar] => guardO (shut (decide (Flos n cs ∧ Bls m fs ∧ Ints q ar))) (K [.v (.list (shut (acqL a b c d n cs m fs q ar).length) (shut (segCells (acqL a b c d n cs m fs q ar)))), .v (.int .i64 (shut (acqE a b c d n cs m q ar)))])
 | _ => none
noncomputable def eAcc : Ent := fun args' R K => match args' with
 | [.agg [.int .i64 a, .int .i64 b, .int .i64 c, .int .i64 d], .list m fs, .list q ar] => guardO (shut (decide (Bls m fs ∧ Ints q ar))) (K [.fz (shut (accL a b c d m fs q ar).length) (shut (intsL (accL a b c d m fs q ar))), .v (.int .i64 (shut (accE a b c d m q ar)))])
 | _ => none
noncomputable def tzs : List (FuncId × Ent) := (35, eAcq) :: (36, eAcc) :: (27, eSegs) :: (41, eAccR) :: (16, eSetR) :: (18, eSetR) :: (37, eDeadP) :: (39, eDeadR) :: (38, eArmsR) :: tzn
end Go.Abs
end

section
/- Ways of the functions that run the machine: branches and regions that are joined, rows that are forgotten. -/
set_option linter.unusedVariables false
set_option linter.unusedSimpArgs false
set_option maxRecDepth 100000
namespace Go.Abs
open Go.Proofs Classical
noncomputable def eArmsP : Ent := fun args' R K => match args' with
 | [.list n cs, .int .i64 b] => guardO (shut (decide (Ints n cs))) (K [.v (.int .i64 (shut (armsE n (intsOf cs) b)))])
 | _ => none
theorem eArmsP_105 : EntOk Tryz.prog 105 eArmsP := by
 intro args' R K r ha h
 unfold eArmsP at h
 split at h
 ·rename_i n cs b
  obtain ⟨h1, h2⟩ := guardO_some h
  rw [shut_eq] at h1
  have h1' := of_decide_eq_true h1
  refine ⟨[.v (.int .i64 (armsE n (intsOf cs) b))], fun _ _ => by simp only [eArmsP, shut_eq, decide_eq_true h1', guardO], ?_, con_ofW tzm_ok (W := waysM) (N := n + 1) (k := 6) (ms := [false]) ?_ ha trivial⟩
  ·intro l hl; rcases List.mem_cons.1 hl with rfl | hl
   ·exact leaf_int
   cases hl
  ·exact run_105' h1'
 ·cases h
noncomputable def tzx : List (FuncId × Ent) := (105, eArmsP) :: (18, eSetR) :: tzm
theorem tzx_ok : TabLOk Tryz.prog tzx := ⟨eArmsP_105, eSetR_18, tzm_ok⟩
def keepRows (keep : List Nat) : Rows → Nat → Rows
 | [], _ => []
 | x :: xs, r => (match hasNat r keep with | true => x | false => (match x with | some (.lit _) => none | x => x)) :: keepRows keep xs (r + 1)
def killDead (live : Nat) (s : SSt) : SSt := { s with rows := keepRows (gather s.rows 0 1000 (refsLive s.rows s.tmps live 0) []) s.rows 0 }
def killAll (live : Nat) : List SSt → List SSt
 | [] => []
 | s :: ss => killDead live s :: killAll live ss
def isPtrT (s : SSt) (t : Tmp) : Bool :=
 match s.tmps[t]? with
 | some (.s (.o (.b (.ptr _ _)))) => true
 | _ => false
def killV (live : Nat) (t : Tmp) (f : SSt → Vary) (s : SSt) : Vary :=
 match isPtrT s t with
 | true => ⟨(f s).moves, killAll live (f s).temps⟩
 | false => ⟨[], []⟩
def ptrRow (s : SSt) (r c : Nat) : Nat :=
 match s.rows[r]? with
 | some (some (.lit cs)) => (match cs[c]? with | some (.b (.ptr q _)) => q | _ => 0)
 | _ => 0
def varyQ (t : Tmp) (s : SSt) : Vary :=
 match doMv [.cell (rowAt s t) 8 5] s with
 | s1 => match isPtrAt s1 (rowAt s t) 9 with
  | true => ⟨[.cell (rowAt s t) 8 5], [{ setCell s1 (rowAt s t) 9 (.raw .nilptr) with rows := (setCell s1 (rowAt s t) 9 (.raw .nilptr)).rows.take (ptrRow s1 (rowAt s t) 9) }, s1]⟩
  | false => ⟨[.cell (rowAt s t) 8 5], [s1]⟩
def waysN : Ways where
 vary := fun g b => match Nat.beq g 106 with
  | true => (match Nat.beq b 0 with | true => some (killV (liveOf tryzMasks 106 0) 0 (varyM 0)) | false => (match Nat.beq b 2 with | true => some (killV (liveOf tryzMasks 106 2) 0 (varyQ 0)) | false => none))
  | false => none
 unroll := waysM.unroll
 join := waysM.join
 picks := [4, 106]
 joins := [⟨100, 18, 131, 66584576, []⟩, ⟨100, 54, 129, 295111876382333861888, []⟩, ⟨155, 69, 5, 20282409602471078803229839982608, []⟩]
 rjoins := [⟨4, 12, 392318858461667547739736838950479151006397215279002157056 + 18824, 784637716923156689517885432915826016266613243665956470784, [(188, .o (.b (.bool false)))]⟩]
 deeps := [(106, 2)]
end Go.Abs
end

section
/- What the machine asks itself: its last end, and whether it accepts (printed by the tool gen.py). -/
set_option maxRecDepth 100000
set_option linter.unusedVariables false
namespace Go.Abs
open Go.Proofs Classical
noncomputable abbrev gS {R : Type} (p : Prop) [Decidable p] (x : Option R) : Option R := guardO (shut (decide p)) x
noncomputable abbrev cS {R : Type} (p : Prop) [Decidable p] (x y : Option R) : Option R := condO (shut (decide p)) x y
noncomputable def lastD (k : Nat) (cs : List AV) : Option AV :=
 condO (shut ((↑k : Int) == (0 : Int)))
 (some (AV.int IntKind.i64 (0 : Int)))
 (gS ((0 : Int) ≤ shut (IntKind.i64.wrap ((↑k : Int) - (1 : Int))) ∧ shut (IntKind.i64.wrap ((↑k : Int) - (1 : Int))) < (↑k : Int)) <|
 guardO (shut !(true && k.beq (0 : Nat))) <|
 gS ((shut (IntKind.i64.wrap ((↑k : Int) - (1 : Int)))).toNat * 5 + 5 ≤ cs.length) <|
 bindO (asInt IntKind.i64 (cs.getD ((shut (IntKind.i64.wrap ((↑k : Int) - (1 : Int)))).toNat * 5) AV.top)) fun v41 =>
 bindO (asInt IntKind.i64 (cs.getD ((shut (IntKind.i64.wrap ((↑k : Int) - (1 : Int)))).toNat * 5 + 1) AV.top)) fun v42 =>
 bindO (asList (cs.getD ((shut (IntKind.i64.wrap ((↑k : Int) - (1 : Int)))).toNat * 5 + 1 + 1) AV.top)) fun v43 =>
 bindO (asInt IntKind.i64 (cs.getD ((shut (IntKind.i64.wrap ((↑k : Int) - (1 : Int)))).toNat * 5 + 1 + 1 + 1) AV.top)) fun v44 =>
 bindO (asInt IntKind.i64 (cs.getD ((shut (IntKind.i64.wrap ((↑k : Int) - (1 : Int)))).toNat * 5 + 1 + 1 + 1 + 1) AV.top)) fun v45 =>
 some (AV.int IntKind.i64 (shut (IntKind.i64.wrap (v41 + (↑v43.fst : Int))))))
noncomputable def accD (N : Nat) (z0 : Int) (z1 : Int) (z2 : Int) (z3 : Int) (z4 : Int) (z5 : Int) (z6 : Nat) (z7 : List AV) : Option AV :=
 bindO (
 gS (5 ≤ N) <|
 gS ((0 : Int) = (↑0 : Int)) <|
 cS ((↑0 : Int) < (↑4 : Int))
 (gS ((0 : Int) ≤ (↑0 : Int) ∧ (↑0 : Int) < (↑4 : Int)) <|
 gS (shut (IntKind.i64.wrap ((↑0 : Int) + (1 : Int))) = (↑1 : Int)) <|
 cS ((↑1 : Int) < (↑4 : Int))
 (gS ((0 : Int) ≤ (↑1 : Int) ∧ (↑1 : Int) < (↑4 : Int)) <|
 bindO (
 cS (z5 < z2)
 (some (AV.bool (shut (decide ((↑z6 : Int) < (64 : Int))))))
 (some (AV.bool false))) fun v27 =>
 bindO (asBool v27) fun v28 =>
 condO (!v28)
 (some (AV.bool false))
 (gS (shut (IntKind.i64.wrap ((↑1 : Int) + (1 : Int))) = (↑2 : Int)) <|
 cS ((↑2 : Int) < (↑4 : Int))
 (gS ((0 : Int) ≤ (↑2 : Int) ∧ (↑2 : Int) < (↑4 : Int)) <|
 bindO (
 bindO (
 cS (z5 > (0 : Int))
 (bindO (
 lastD z6 z7) fun v36 =>
 bindO (asInt IntKind.i64 v36) fun v37 =>
 some (AV.int IntKind.i64 v37))
 (some (AV.int IntKind.i64 z4))) fun v34 =>
 bindO (asInt IntKind.i64 v34) fun v35 =>
 some (AV.bool (shut (decide (z3 ≥ shut (IntKind.i64.wrap (v35 + z0))))))) fun v33 =>
 bindO (asBool v33) fun v34 =>
 condO (!v34)
 (some (AV.bool false))
 (gS (shut (IntKind.i64.wrap ((↑2 : Int) + (1 : Int))) = (↑3 : Int)) <|
 cS ((↑3 : Int) < (↑4 : Int))
 (gS ((0 : Int) ≤ (↑3 : Int) ∧ (↑3 : Int) < (↑4 : Int)) <|
 bindO (
 bindO (
 cS (z5 > (0 : Int))
 (bindO (
 lastD z6 z7) fun v42 =>
 bindO (asInt IntKind.i64 v42) fun v43 =>
 some (AV.bool (shut (decide (z3 < shut (IntKind.i64.wrap (v43 + z1)))))))
 (some (AV.bool false))) fun v40 =>
 bindO (asBool v40) fun v41 =>
 some (AV.bool !v41)) fun v39 =>
 bindO (asBool v39) fun v40 =>
 condO (!v40)
 (some (AV.bool false))
 (gS (shut (IntKind.i64.wrap ((↑3 : Int) + (1 : Int))) = (↑4 : Int)) <|
 cS ((↑4 : Int) < (↑4 : Int))
 (gS ((0 : Int) ≤ (↑4 : Int) ∧ (↑4 : Int) < (↑4 : Int)) <|
 none)
 (some (AV.bool true))))
 (some (AV.bool true))))
 (some (AV.bool true))))
 (some (AV.bool true)))
 (some (AV.bool true))) fun v19 =>
 bindO (asBool v19) fun v20 =>
 some (AV.bool v20)
noncomputable def accO (N : Nat) : Option AV :=
 bindO (
 gS (5 ≤ N) <|
 gS ((0 : Int) = (↑0 : Int)) <|
 cS ((↑0 : Int) < (↑4 : Int))
 (gS ((0 : Int) ≤ (↑0 : Int) ∧ (↑0 : Int) < (↑4 : Int)) <|
 some (AV.bool false))
 (some (AV.bool true))) fun v19 =>
 bindO (asBool v19) fun v20 =>
 some (AV.bool v20)
end Go.Abs
end

section
/- The run of function 35, lifted; its rounds by themselves (printed by the tools gen.py and pack.py). -/
set_option maxRecDepth 100000
set_option linter.unusedVariables false
namespace Go.Abs
open Go.Proofs Classical
abbrev RN35 := Nat → List AV → Nat → List AV → Nat → List AV → Int → Int → Nat → List AV → Nat → List AV → Int → Int → Int → Int → Int → Int → Int → Int → Int → Nat → List AV → Nat → List AV → Nat → List AV → Nat → List AV → Option (List RLeaf)
abbrev RO35 := Nat → List AV → Nat → List AV → Nat → List AV → Int → Int → Nat → List AV → Nat → List AV → Int → Int → Int → Int → Int → Int → Int → Int → Int → Nat → List AV → Nat → List AV → Nat → List AV → Nat → List AV → Int → Int → Int → Int → Nat → List AV → Option (List RLeaf)
abbrev TN35 := Nat → List AV → Nat → List AV → Nat → List AV → Int → Int → Int → Nat → List AV → Nat → List AV → Int → Int → Int → Int → Int → Int → Int → Int → Int → Nat → List AV → Nat → List AV → Nat → List AV → Nat → List AV → Option (List RLeaf)
abbrev TO35 := Nat → List AV → Nat → List AV → Nat → List AV → Int → Int → Int → Nat → List AV → Nat → List AV → Int → Int → Int → Int → Int → Int → Int → Int → Int → Nat → List AV → Nat → List AV → Nat → List AV → Nat → List AV → Int → Int → Int → Int → Nat → List AV → Option (List RLeaf)
noncomputable def stepN35 (N : Nat) (r8 : TN35) (ra : RN35) (rb : RO35) : TN35 :=
 (fun x0 x1 x2 x3 x4 x5 x6 x7 x8 x9 x10 x11 x12 x13 x14 x15 x16 x17 x18 x19 x20 x21 x22 x23 x24 x25 x26 x27 x28 x29 =>
 bindO (
 cS ((↑x4 : Int) > (0 : Int))
 (gS ((0 : Int) ≤ (0 : Int) ∧ (0 : Int) < (↑x4 : Int) ∧ 0 < x5.length) <|
 bindO (asInt IntKind.i64 (x5.getD 0 AV.top)) fun v12 =>
 some (shut (v12 == x6)))
 (some false)) fun v9 =>
 condO v9
 (condO (shut (x14 == (0 : Int)))
 (gS ((0 : Int) ≤ (1 : Int) ∧ (1 : Int) ≤ (↑x4 : Int) ∧ (↑x4 : Int) ≤ (↑x4 : Int)) <|
 gS (x4 * 1 = x5.length) <|
 r8 x0 x1 x2 x3 ((↑x4 : Int).toNat - 1) (List.take (((↑x4 : Int).toNat - 1) * 1) (List.drop 1 x5)) x6 x7 x8 x9 x10 x11 x12 x13 x14 x15 x16 x17 x18 x19 x20 x21 x22 x23 x24 x25 x26 x27 x28 x29)
 (cS ((↑x28 : Int) ≥ (64 : Int))
 (gS ((0 : Int) ≤ (1 : Int) ∧ (1 : Int) ≤ (↑x4 : Int) ∧ (↑x4 : Int) ≤ (↑x4 : Int)) <|
 gS (x4 * 1 = x5.length) <|
 r8 x0 x1 x2 x3 ((↑x4 : Int).toNat - 1) (List.take (((↑x4 : Int).toNat - 1) * 1) (List.drop 1 x5)) x6 x7 x8 x9 x10 x11 x12 x13 x14 x15 x16 x17 x18 x19 x20 x21 x22 x23 x24 x25 x26 x27 x28 x29)
 (gS ((0 : Int) ≤ (1 : Int) ∧ (1 : Int) ≤ (↑x4 : Int) ∧ (↑x4 : Int) ≤ (↑x4 : Int)) <|
 gS (x4 * 1 = x5.length) <|
 r8 x0 x1 x2 x3 ((↑x4 : Int).toNat - 1) (List.take (((↑x4 : Int).toNat - 1) * 1) (List.drop 1 x5)) x6 x7 x8 x9 x10 x11 (zrow (ofV (Go.Value.float Go.FloatKind.f32 0)).cells (x11 * 1)) x13 x14 x15 x16 x17 x18 x19 x17 ((0 : Int)) x22 x23 x24 x25 x26 x27 x28 x29)))
 (cS (x6 < (↑x0 : Int))
 (gS ((0 : Int) ≤ x6 ∧ x6 < (↑x0 : Int) ∧ 0 < x1.length) <|
 bindO (asFloat Go.FloatKind.f32 (x1.getD (x6.toNat * 1) AV.top)) fun v13 =>
 gS ((0 : Int) ≤ x6 ∧ x6 < (↑x2 : Int) ∧ 0 < x3.length) <|
 bindO (asBool (x3.getD (x6.toNat * 1) AV.top)) fun v15 =>
 condO v15
 (bindO (accD N x13 x15 x16 x17 x20 x21 x28 x29) fun v17 =>
 bindO (asBool v17) fun v18 =>
 condO v18
 (bindO (
 lastD x28 x29) fun v20 =>
 bindO (asInt IntKind.i64 v20) fun v21 =>
 gS ((0 : Int) ≤ x13 ∧ x13 ≤ shut (IntKind.i64.wrap (x13 + x14)) ∧ shut (IntKind.i64.wrap (x13 + x14)) ≤ (281474976710656 : Int) ∧ (↑4 : Int) * shut (IntKind.i64.wrap (x13 + x14)) ≤ (281474976710656 : Int)) <|
 joinC N (
 (fun (a0 : Nat) (a1 : List AV) (a2 : Nat) (a3 : List AV) (a4 : Int) (a5 : Int) (a6 : Int) (a7 : Int) (a8 : Int) (a9 : Int) (a10 : Int) (a11 : Int) (a12 : Int) (a13 : Nat) (a14 : List AV) (a15 : Nat) (a16 : List AV) (a17 : Nat) (a18 : List AV) (a19 : Nat) (a20 : List AV) (a21 : Int) (a22 : Int) (a23 : Int) (a24 : Int) (a25 : Nat) (a26 : List AV) =>
 joinC N (
 (fun (b0 : Option Nat) (b1 : Bool) (b2 : Nat) (b3 : List AV) (b4 : Nat) (b5 : List AV) (b6 : Int) (b7 : Int) (b8 : Int) (b9 : Int) (b10 : Int) (b11 : Int) (b12 : Int) (b13 : Int) (b14 : Int) (b15 : Nat) (b16 : List AV) (b17 : Nat) (b18 : List AV) (b19 : Nat) (b20 : List AV) (b21 : Nat) (b22 : List AV) (b23 : Int) (b24 : Int) (b25 : Int) (b26 : Int) (b27 : Nat) (b28 : List AV) =>
 gS ((b27 + 1) * 5 ≤ 549755813888) <|
 joinC N (
 (fun (c0 : Bool) (c1 : Nat) (c2 : List AV) (c3 : Nat) (c4 : List AV) (c5 : Int) (c6 : Int) (c7 : Int) (c8 : Int) (c9 : Int) (c10 : Int) (c11 : Int) (c12 : Int) (c13 : Int) (c14 : Nat) (c15 : List AV) (c16 : Nat) (c17 : List AV) (c18 : Nat) (c19 : List AV) (c20 : Nat) (c21 : List AV) (c22 : Int) (c23 : Int) (c24 : Int) (c25 : Int) (c26 : Nat) (c27 : List AV) (c28 : Nat) (c29 : List AV) =>
 condO (shut ((↑c26 : Int) == shut (IntKind.i64.wrap (c5 + c6))))
 (gS ((c20 + 1) * 57 ≤ 549755813888) <|
 condO c0
 (gS ((c18 + 1) * 9 ≤ 549755813888) <|
 ra x0 x1 x2 x3 x4 x5 x7 (shut (IntKind.i64.wrap (x8 + (1 : Int)))) c1 c2 c3 c4 c5 c6 c7 c8 (shut (IntKind.i64.wrap (c9 + (1 : Int)))) c10 (shut (IntKind.i64.wrap (c11 + shut (IntKind.i64.wrap (c25 + (1 : Int)))))) c12 (shut (IntKind.i64.wrap (c13 + (1 : Int)))) c14 c15 c16 c17 (c18 + 1) (c19 ++ putCells (zrow (ofV (Go.Value.int IntKind.i64 (0 : Int))).cells 1) 0 [AV.int IntKind.i64 x6]) (c20 + 1) (c21 ++ putCells (zrow (ofV (Go.Value.agg #[Go.Value.int IntKind.i64 (0 : Int), Go.Value.int IntKind.i64 (0 : Int), Go.Value.slice Option.none 0 0, Go.Value.int IntKind.i64 (0 : Int), Go.Value.int IntKind.i64 (0 : Int)])).cells 5) 0 [AV.int IntKind.i64 c22, AV.int IntKind.i64 c23, AV.list c26 c27, AV.int IntKind.i64 c24, AV.int IntKind.i64 c25]))
 (ra x0 x1 x2 x3 x4 x5 x7 (shut (IntKind.i64.wrap (x8 + (1 : Int)))) c1 c2 c3 c4 c5 c6 c7 c8 (shut (IntKind.i64.wrap (c9 + (1 : Int)))) c10 (shut (IntKind.i64.wrap (c11 + shut (IntKind.i64.wrap (c25 + (1 : Int)))))) c12 (shut (IntKind.i64.wrap (c13 + (1 : Int)))) c14 c15 c16 c17 c18 c19 (c20 + 1) (c21 ++ putCells (zrow (ofV (Go.Value.agg #[Go.Value.int IntKind.i64 (0 : Int), Go.Value.int IntKind.i64 (0 : Int), Go.Value.slice Option.none 0 0, Go.Value.int IntKind.i64 (0 : Int), Go.Value.int IntKind.i64 (0 : Int)])).cells 5) 0 [AV.int IntKind.i64 c22, AV.int IntKind.i64 c23, AV.list c26 c27, AV.int IntKind.i64 c24, AV.int IntKind.i64 c25])))
 (condO c0
 (gS ((c18 + 1) * 9 ≤ 549755813888) <|
 rb x0 x1 x2 x3 x4 x5 x7 (shut (IntKind.i64.wrap (x8 + (1 : Int)))) c1 c2 c3 c4 c5 c6 c7 c8 (shut (IntKind.i64.wrap (c9 + (1 : Int)))) c10 c11 c12 c13 c14 c15 c16 c17 (c18 + 1) (c19 ++ putCells (zrow (ofV (Go.Value.int IntKind.i64 (0 : Int))).cells 1) 0 [AV.int IntKind.i64 x6]) c20 c21 c22 c23 c24 c25 c26 c27)
 (rb x0 x1 x2 x3 x4 x5 x7 (shut (IntKind.i64.wrap (x8 + (1 : Int)))) c1 c2 c3 c4 c5 c6 c7 c8 (shut (IntKind.i64.wrap (c9 + (1 : Int)))) c10 c11 c12 c13 c14 c15 c16 c17 c18 c19 c20 c21 c22 c23 c24 c25 c26 c27))), PUnit.unit) fun kc =>
 cS ((↑b4 : Int) > (0 : Int))
 (gS ((↑b4 : Int) ≠ (0 : Int)) <|
 gS ((0 : Int) ≤ shut (b10.tmod (↑b4 : Int)) ∧ shut (b10.tmod (↑b4 : Int)) < (↑b4 : Int)) <|
 guardO (shut !(false && b4.beq (0 : Nat))) <|
 gS ((shut (b10.tmod (↑b4 : Int))).toNat * 1 + 1 ≤ b5.length) <|
 kc.1 b1 b2 b3 b4 (putCells b5 ((shut (b10.tmod (↑b4 : Int))).toNat * 1) [AV.flo Go.FloatKind.f32 (shut (clean1 b0))]) b6 b7 b8 b9 b10 b11 b12 b13 b14 b15 b16 b17 b18 b19 b20 b21 b22 b23 b24 b25 b26 (b27 + 1) (b28 ++ putCells (zrow (ofV (Go.Value.float Go.FloatKind.f32 0)).cells 1) 0 [AV.flo Go.FloatKind.f32 (shut (clean1 b0))]) 1 (putCells (zrow (ofV (Go.Value.float Go.FloatKind.f32 0)).cells 1) 0 [AV.flo Go.FloatKind.f32 (shut (clean1 b0))]))
 (kc.1 b1 b2 b3 b4 b5 b6 b7 b8 b9 b10 b11 b12 b13 b14 b15 b16 b17 b18 b19 b20 b21 b22 b23 b24 b25 b26 (b27 + 1) (b28 ++ putCells (zrow (ofV (Go.Value.float Go.FloatKind.f32 0)).cells 1) 0 [AV.flo Go.FloatKind.f32 (shut (clean1 b0))]) 1 (putCells (zrow (ofV (Go.Value.float Go.FloatKind.f32 0)).cells 1) 0 [AV.flo Go.FloatKind.f32 (shut (clean1 b0))]))), PUnit.unit) fun kb =>
 condO v15
 (kb.1 v13 v18 a0 a1 a2 a3 a4 a5 a6 a7 a8 (shut (IntKind.i64.wrap (a9 + (1 : Int)))) a10 a11 a12 a13 a14 a15 a16 a17 a18 a19 a20 a21 a22 a23 a24 a25 a26)
 (kb.1 v13 v18 a0 a1 a2 a3 a4 a5 a6 a7 a8 a9 a10 a11 a12 a13 a14 a15 a16 a17 a18 a19 a20 a21 a22 a23 a24 a25 a26)), PUnit.unit) fun ka =>
 cS ((↑x11 : Int) > (0 : Int))
 (gS ((↑x11 : Int) ≠ (0 : Int)) <|
 gS ((0 : Int) ≤ shut (x17.tmod (↑x11 : Int)) ∧ shut (x17.tmod (↑x11 : Int)) ≤ (↑x11 : Int) ∧ (↑x11 : Int) ≤ (↑x11 : Int)) <|
 gS ((0 : Int) ≤ shut (↑(((↑x11 : Int).toNat - (shut (x17.tmod (↑x11 : Int))).toNat).min x13.toNat) : Int) ∧ shut (↑(((↑x11 : Int).toNat - (shut (x17.tmod (↑x11 : Int))).toNat).min x13.toNat) : Int) ≤ (↑x13.toNat : Int) ∧ (↑x13.toNat : Int) ≤ (↑x13.toNat : Int)) <|
 gS ((↑x11 : Int) ≠ (0 : Int)) <|
 gS ((0 : Int) ≤ (0 : Int) ∧ (0 : Int) ≤ shut (x17.tmod (↑x11 : Int)) ∧ shut (x17.tmod (↑x11 : Int)) ≤ (↑x11 : Int)) <|
 ka.1 x9 x10 x11 x12 x13 x14 x15 x16 x17 x18 x19 x20 x21 x22 x23 x24 x25 x26 x27 x28 x29 (shut (IntKind.i64.wrap (x17 - x13))) x17 (shut (IntKind.i64.wrap (shut (IntKind.i64.wrap (x17 - x13)) - v21))) (shut (IntKind.i64.wrap (x18 - x19))) (x13.toNat) (putCells (putCells (zrow (ofV (Go.Value.float Go.FloatKind.f32 0)).cells (x13.toNat * 1)) 0 (List.take (((↑x11 : Int).toNat - (shut (x17.tmod (↑x11 : Int))).toNat).min x13.toNat * 1) (List.take (((↑x11 : Int).toNat - (shut (x17.tmod (↑x11 : Int))).toNat) * 1) (List.drop ((shut (x17.tmod (↑x11 : Int))).toNat * 1) x12)))) ((shut (↑(((↑x11 : Int).toNat - (shut (x17.tmod (↑x11 : Int))).toNat).min x13.toNat) : Int)).toNat * 1) (List.take (((shut (x17.tmod (↑x11 : Int))).toNat - 0).min ((↑x13.toNat : Int).toNat - (shut (↑(((↑x11 : Int).toNat - (shut (x17.tmod (↑x11 : Int))).toNat).min x13.toNat) : Int)).toNat) * 1) (List.take (((shut (x17.tmod (↑x11 : Int))).toNat - 0) * 1) (List.drop 0 x12)))))
 (ka.1 x9 x10 x11 x12 x13 x14 x15 x16 x17 x18 x19 x20 x21 x22 x23 x24 x25 x26 x27 x28 x29 (shut (IntKind.i64.wrap (x17 - x13))) x17 (shut (IntKind.i64.wrap (shut (IntKind.i64.wrap (x17 - x13)) - v21))) (shut (IntKind.i64.wrap (x18 - x19))) (x13.toNat) (zrow (ofV (Go.Value.float Go.FloatKind.f32 0)).cells (x13.toNat * 1))))
 (joinC N (
 (fun (d0 : Option Nat) (d1 : Bool) (d2 : Nat) (d3 : List AV) (d4 : Nat) (d5 : List AV) (d6 : Int) (d7 : Int) (d8 : Int) (d9 : Int) (d10 : Int) (d11 : Int) (d12 : Int) (d13 : Int) (d14 : Int) (d15 : Nat) (d16 : List AV) (d17 : Nat) (d18 : List AV) (d19 : Nat) (d20 : List AV) (d21 : Nat) (d22 : List AV) =>
 joinC N (
 (fun (e0 : Bool) (e1 : Nat) (e2 : List AV) (e3 : Nat) (e4 : List AV) (e5 : Int) (e6 : Int) (e7 : Int) (e8 : Int) (e9 : Int) (e10 : Int) (e11 : Int) (e12 : Int) (e13 : Int) (e14 : Nat) (e15 : List AV) (e16 : Nat) (e17 : List AV) (e18 : Nat) (e19 : List AV) (e20 : Nat) (e21 : List AV) =>
 condO e0
 (gS ((e18 + 1) * 9 ≤ 549755813888) <|
 ra x0 x1 x2 x3 x4 x5 x7 (shut (IntKind.i64.wrap (x8 + (1 : Int)))) e1 e2 e3 e4 e5 e6 e7 e8 (shut (IntKind.i64.wrap (e9 + (1 : Int)))) e10 e11 e12 e13 e14 e15 e16 e17 (e18 + 1) (e19 ++ putCells (zrow (ofV (Go.Value.int IntKind.i64 (0 : Int))).cells 1) 0 [AV.int IntKind.i64 x6]) e20 e21)
 (ra x0 x1 x2 x3 x4 x5 x7 (shut (IntKind.i64.wrap (x8 + (1 : Int)))) e1 e2 e3 e4 e5 e6 e7 e8 (shut (IntKind.i64.wrap (e9 + (1 : Int)))) e10 e11 e12 e13 e14 e15 e16 e17 e18 e19 e20 e21)), PUnit.unit) fun ke =>
 cS ((↑d4 : Int) > (0 : Int))
 (gS ((↑d4 : Int) ≠ (0 : Int)) <|
 gS ((0 : Int) ≤ shut (d10.tmod (↑d4 : Int)) ∧ shut (d10.tmod (↑d4 : Int)) < (↑d4 : Int)) <|
 guardO (shut !(false && d4.beq (0 : Nat))) <|
 gS ((shut (d10.tmod (↑d4 : Int))).toNat * 1 + 1 ≤ d5.length) <|
 ke.1 d1 d2 d3 d4 (putCells d5 ((shut (d10.tmod (↑d4 : Int))).toNat * 1) [AV.flo Go.FloatKind.f32 (shut (clean1 d0))]) d6 d7 d8 d9 d10 d11 d12 d13 d14 d15 d16 d17 d18 d19 d20 d21 d22)
 (ke.1 d1 d2 d3 d4 d5 d6 d7 d8 d9 d10 d11 d12 d13 d14 d15 d16 d17 d18 d19 d20 d21 d22)), PUnit.unit) fun kd =>
 condO v15
 (kd.1 v13 v18 x9 x10 x11 x12 x13 x14 x15 x16 x17 (shut (IntKind.i64.wrap (x18 + (1 : Int)))) x19 x20 x21 x22 x23 x24 x25 x26 x27 x28 x29)
 (kd.1 v13 v18 x9 x10 x11 x12 x13 x14 x15 x16 x17 x18 x19 x20 x21 x22 x23 x24 x25 x26 x27 x28 x29)))
 (joinC N (
 (fun (f0 : Option Nat) (f1 : Bool) (f2 : Nat) (f3 : List AV) (f4 : Nat) (f5 : List AV) (f6 : Int) (f7 : Int) (f8 : Int) (f9 : Int) (f10 : Int) (f11 : Int) (f12 : Int) (f13 : Int) (f14 : Int) (f15 : Nat) (f16 : List AV) (f17 : Nat) (f18 : List AV) (f19 : Nat) (f20 : List AV) (f21 : Nat) (f22 : List AV) =>
 joinC N (
 (fun (g0 : Bool) (g1 : Nat) (g2 : List AV) (g3 : Nat) (g4 : List AV) (g5 : Int) (g6 : Int) (g7 : Int) (g8 : Int) (g9 : Int) (g10 : Int) (g11 : Int) (g12 : Int) (g13 : Int) (g14 : Nat) (g15 : List AV) (g16 : Nat) (g17 : List AV) (g18 : Nat) (g19 : List AV) (g20 : Nat) (g21 : List AV) =>
 condO g0
 (gS ((g18 + 1) * 9 ≤ 549755813888) <|
 ra x0 x1 x2 x3 x4 x5 x7 (shut (IntKind.i64.wrap (x8 + (1 : Int)))) g1 g2 g3 g4 g5 g6 g7 g8 (shut (IntKind.i64.wrap (g9 + (1 : Int)))) g10 g11 g12 g13 g14 g15 g16 g17 (g18 + 1) (g19 ++ putCells (zrow (ofV (Go.Value.int IntKind.i64 (0 : Int))).cells 1) 0 [AV.int IntKind.i64 x6]) g20 g21)
 (ra x0 x1 x2 x3 x4 x5 x7 (shut (IntKind.i64.wrap (x8 + (1 : Int)))) g1 g2 g3 g4 g5 g6 g7 g8 (shut (IntKind.i64.wrap (g9 + (1 : Int)))) g10 g11 g12 g13 g14 g15 g16 g17 g18 g19 g20 g21)), PUnit.unit) fun kg =>
 cS ((↑f4 : Int) > (0 : Int))
 (gS ((↑f4 : Int) ≠ (0 : Int)) <|
 gS ((0 : Int) ≤ shut (f10.tmod (↑f4 : Int)) ∧ shut (f10.tmod (↑f4 : Int)) < (↑f4 : Int)) <|
 guardO (shut !(false && f4.beq (0 : Nat))) <|
 gS ((shut (f10.tmod (↑f4 : Int))).toNat * 1 + 1 ≤ f5.length) <|
 kg.1 f1 f2 f3 f4 (putCells f5 ((shut (f10.tmod (↑f4 : Int))).toNat * 1) [AV.flo Go.FloatKind.f32 (shut (clean1 f0))]) f6 f7 f8 f9 f10 f11 f12 f13 f14 f15 f16 f17 f18 f19 f20 f21 f22)
 (kg.1 f1 f2 f3 f4 f5 f6 f7 f8 f9 f10 f11 f12 f13 f14 f15 f16 f17 f18 f19 f20 f21 f22)), PUnit.unit) fun kf =>
 condO v15
 (kf.1 v13 false x9 x10 x11 x12 x13 x14 x15 x16 x17 (shut (IntKind.i64.wrap (x18 + (1 : Int)))) x19 x20 x21 x22 x23 x24 x25 x26 x27 x28 x29)
 (kf.1 v13 false x9 x10 x11 x12 x13 x14 x15 x16 x17 x18 x19 x20 x21 x22 x23 x24 x25 x26 x27 x28 x29)))
 (ra x0 x1 x2 x3 x4 x5 x7 (shut (IntKind.i64.wrap (x8 + (1 : Int)))) x9 x10 x11 x12 x13 x14 x15 x16 x17 x18 x19 x20 x21 x22 x23 x24 x25 x26 x27 x28 x29)))
noncomputable def stepO35 (N : Nat) (r8 : TN35) (r9 : TO35) (ra : RN35) (rb : RO35) : TO35 :=
 (fun x0 x1 x2 x3 x4 x5 x6 x7 x8 x9 x10 x11 x12 x13 x14 x15 x16 x17 x18 x19 x20 x21 x22 x23 x24 x25 x26 x27 x28 x29 x30 x31 x32 x33 x34 x35 =>
 bindO (
 cS ((↑x4 : Int) > (0 : Int))
 (gS ((0 : Int) ≤ (0 : Int) ∧ (0 : Int) < (↑x4 : Int) ∧ 0 < x5.length) <|
 bindO (asInt IntKind.i64 (x5.getD 0 AV.top)) fun v12 =>
 some (shut (v12 == x6)))
 (some false)) fun v9 =>
 condO v9
 (condO (shut (x14 == (0 : Int)))
 (gS ((0 : Int) ≤ (1 : Int) ∧ (1 : Int) ≤ (↑x4 : Int) ∧ (↑x4 : Int) ≤ (↑x4 : Int)) <|
 gS (x4 * 1 = x5.length) <|
 r9 x0 x1 x2 x3 ((↑x4 : Int).toNat - 1) (List.take (((↑x4 : Int).toNat - 1) * 1) (List.drop 1 x5)) x6 x7 x8 x9 x10 x11 x12 x13 x14 x15 x16 x17 x18 x19 x20 x21 x22 x23 x24 x25 x26 x27 x28 x29 x30 x31 x32 x33 x34 x35)
 (cS ((↑x28 : Int) ≥ (64 : Int))
 (gS ((0 : Int) ≤ (1 : Int) ∧ (1 : Int) ≤ (↑x4 : Int) ∧ (↑x4 : Int) ≤ (↑x4 : Int)) <|
 gS (x4 * 1 = x5.length) <|
 r9 x0 x1 x2 x3 ((↑x4 : Int).toNat - 1) (List.take (((↑x4 : Int).toNat - 1) * 1) (List.drop 1 x5)) x6 x7 x8 x9 x10 x11 x12 x13 x14 x15 x16 x17 x18 x19 x20 x21 x22 x23 x24 x25 x26 x27 x28 x29 x30 x31 x32 x33 x34 x35)
 (gS ((0 : Int) ≤ (1 : Int) ∧ (1 : Int) ≤ (↑x4 : Int) ∧ (↑x4 : Int) ≤ (↑x4 : Int)) <|
 gS (x4 * 1 = x5.length) <|
 r8 x0 x1 x2 x3 ((↑x4 : Int).toNat - 1) (List.take (((↑x4 : Int).toNat - 1) * 1) (List.drop 1 x5)) x6 x7 x8 x9 x10 x11 (zrow (ofV (Go.Value.float Go.FloatKind.f32 0)).cells (x11 * 1)) x13 x14 x15 x16 x17 x18 x19 x17 ((0 : Int)) x22 x23 x24 x25 x26 x27 x28 x29)))
 (cS (x6 < (↑x0 : Int))
 (gS ((0 : Int) ≤ x6 ∧ x6 < (↑x0 : Int) ∧ 0 < x1.length) <|
 bindO (asFloat Go.FloatKind.f32 (x1.getD (x6.toNat * 1) AV.top)) fun v13 =>
 gS ((0 : Int) ≤ x6 ∧ x6 < (↑x2 : Int) ∧ 0 < x3.length) <|
 bindO (asBool (x3.getD (x6.toNat * 1) AV.top)) fun v15 =>
 condO v15
 (bindO (accO N) fun v17 =>
 bindO (asBool v17) fun v18 =>
 condO v18
 (bindO (
 lastD x28 x29) fun v20 =>
 bindO (asInt IntKind.i64 v20) fun v21 =>
 gS ((0 : Int) ≤ x13 ∧ x13 ≤ shut (IntKind.i64.wrap (x13 + x14)) ∧ shut (IntKind.i64.wrap (x13 + x14)) ≤ (281474976710656 : Int) ∧ (↑4 : Int) * shut (IntKind.i64.wrap (x13 + x14)) ≤ (281474976710656 : Int)) <|
 joinC N (
 (fun (a0 : Nat) (a1 : List AV) (a2 : Nat) (a3 : List AV) (a4 : Int) (a5 : Int) (a6 : Int) (a7 : Int) (a8 : Int) (a9 : Int) (a10 : Int) (a11 : Int) (a12 : Int) (a13 : Nat) (a14 : List AV) (a15 : Nat) (a16 : List AV) (a17 : Nat) (a18 : List AV) (a19 : Nat) (a20 : List AV) (a21 : Int) (a22 : Int) (a23 : Int) (a24 : Int) (a25 : Nat) (a26 : List AV) (a27 : Int) (a28 : Int) (a29 : Int) (a30 : Int) (a31 : Nat) (a32 : List AV) =>
 joinC N (
 (fun (b0 : Option Nat) (b1 : Bool) (b2 : Nat) (b3 : List AV) (b4 : Nat) (b5 : List AV) (b6 : Int) (b7 : Int) (b8 : Int) (b9 : Int) (b10 : Int) (b11 : Int) (b12 : Int) (b13 : Int) (b14 : Int) (b15 : Nat) (b16 : List AV) (b17 : Nat) (b18 : List AV) (b19 : Nat) (b20 : List AV) (b21 : Nat) (b22 : List AV) (b23 : Int) (b24 : Int) (b25 : Int) (b26 : Int) (b27 : Nat) (b28 : List AV) (b29 : Int) (b30 : Int) (b31 : Int) (b32 : Int) (b33 : Nat) (b34 : List AV) =>
 gS ((b33 + 1) * 5 ≤ 549755813888) <|
 joinC N (
 (fun (c0 : Bool) (c1 : Nat) (c2 : List AV) (c3 : Nat) (c4 : List AV) (c5 : Int) (c6 : Int) (c7 : Int) (c8 : Int) (c9 : Int) (c10 : Int) (c11 : Int) (c12 : Int) (c13 : Int) (c14 : Nat) (c15 : List AV) (c16 : Nat) (c17 : List AV) (c18 : Nat) (c19 : List AV) (c20 : Nat) (c21 : List AV) (c22 : Int) (c23 : Int) (c24 : Int) (c25 : Int) (c26 : Nat) (c27 : List AV) (c28 : Int) (c29 : Int) (c30 : Int) (c31 : Int) (c32 : Nat) (c33 : List AV) (c34 : Nat) (c35 : List AV) =>
 condO (shut ((↑c32 : Int) == shut (IntKind.i64.wrap (c5 + c6))))
 (gS ((c20 + 1) * 57 ≤ 549755813888) <|
 condO c0
 (gS ((c18 + 1) * 9 ≤ 549755813888) <|
 ra x0 x1 x2 x3 x4 x5 x7 (shut (IntKind.i64.wrap (x8 + (1 : Int)))) c1 c2 c3 c4 c5 c6 c7 c8 (shut (IntKind.i64.wrap (c9 + (1 : Int)))) c10 (shut (IntKind.i64.wrap (c11 + shut (IntKind.i64.wrap (c31 + (1 : Int)))))) c12 (shut (IntKind.i64.wrap (c13 + (1 : Int)))) c14 c15 c16 c17 (c18 + 1) (c19 ++ putCells (zrow (ofV (Go.Value.int IntKind.i64 (0 : Int))).cells 1) 0 [AV.int IntKind.i64 x6]) (c20 + 1) (c21 ++ putCells (zrow (ofV (Go.Value.agg #[Go.Value.int IntKind.i64 (0 : Int), Go.Value.int IntKind.i64 (0 : Int), Go.Value.slice Option.none 0 0, Go.Value.int IntKind.i64 (0 : Int), Go.Value.int IntKind.i64 (0 : Int)])).cells 5) 0 [AV.int IntKind.i64 c28, AV.int IntKind.i64 c29, AV.list c32 c33, AV.int IntKind.i64 c30, AV.int IntKind.i64 c31]))
 (ra x0 x1 x2 x3 x4 x5 x7 (shut (IntKind.i64.wrap (x8 + (1 : Int)))) c1 c2 c3 c4 c5 c6 c7 c8 (shut (IntKind.i64.wrap (c9 + (1 : Int)))) c10 (shut (IntKind.i64.wrap (c11 + shut (IntKind.i64.wrap (c31 + (1 : Int)))))) c12 (shut (IntKind.i64.wrap (c13 + (1 : Int)))) c14 c15 c16 c17 c18 c19 (c20 + 1) (c21 ++ putCells (zrow (ofV (Go.Value.agg #[Go.Value.int IntKind.i64 (0 : Int), Go.Value.int IntKind.i64 (0 : Int), Go.Value.slice Option.none 0 0, Go.Value.int IntKind.i64 (0 : Int), Go.Value.int IntKind.i64 (0 : Int)])).cells 5) 0 [AV.int IntKind.i64 c28, AV.int IntKind.i64 c29, AV.list c32 c33, AV.int IntKind.i64 c30, AV.int IntKind.i64 c31])))
 (condO c0
 (gS ((c18 + 1) * 9 ≤ 549755813888) <|
 rb x0 x1 x2 x3 x4 x5 x7 (shut (IntKind.i64.wrap (x8 + (1 : Int)))) c1 c2 c3 c4 c5 c6 c7 c8 (shut (IntKind.i64.wrap (c9 + (1 : Int)))) c10 c11 c12 c13 c14 c15 c16 c17 (c18 + 1) (c19 ++ putCells (zrow (ofV (Go.Value.int IntKind.i64 (0 : Int))).cells 1) 0 [AV.int IntKind.i64 x6]) c20 c21 c28 c29 c30 c31 c32 c33)
 (rb x0 x1 x2 x3 x4 x5 x7 (shut (IntKind.i64.wrap (x8 + (1 : Int)))) c1 c2 c3 c4 c5 c6 c7 c8 (shut (IntKind.i64.wrap (c9 + (1 : Int)))) c10 c11 c12 c13 c14 c15 c16 c17 c18 c19 c20 c21 c28 c29 c30 c31 c32 c33))), PUnit.unit) fun kc =>
 cS ((↑b4 : Int) > (0 : Int))
 (gS ((↑b4 : Int) ≠ (0 : Int)) <|
 gS ((0 : Int) ≤ shut (b10.tmod (↑b4 : Int)) ∧ shut (b10.tmod (↑b4 : Int)) < (↑b4 : Int)) <|
 guardO (shut !(false && b4.beq (0 : Nat))) <|
 gS ((shut (b10.tmod (↑b4 : Int))).toNat * 1 + 1 ≤ b5.length) <|
 kc.1 b1 b2 b3 b4 (putCells b5 ((shut (b10.tmod (↑b4 : Int))).toNat * 1) [AV.flo Go.FloatKind.f32 (shut (clean1 b0))]) b6 b7 b8 b9 b10 b11 b12 b13 b14 b15 b16 b17 b18 b19 b20 b21 b22 b23 b24 b25 b26 b27 b28 b29 b30 b31 b32 (b33 + 1) (b34 ++ putCells (zrow (ofV (Go.Value.float Go.FloatKind.f32 0)).cells 1) 0 [AV.flo Go.FloatKind.f32 (shut (clean1 b0))]) 1 (putCells (zrow (ofV (Go.Value.float Go.FloatKind.f32 0)).cells 1) 0 [AV.flo Go.FloatKind.f32 (shut (clean1 b0))]))
 (kc.1 b1 b2 b3 b4 b5 b6 b7 b8 b9 b10 b11 b12 b13 b14 b15 b16 b17 b18 b19 b20 b21 b22 b23 b24 b25 b26 b27 b28 b29 b30 b31 b32 (b33 + 1) (b34 ++ putCells (zrow (ofV (Go.Value.float Go.FloatKind.f32 0)).cells 1) 0 [AV.flo Go.FloatKind.f32 (shut (clean1 b0))]) 1 (putCells (zrow (ofV (Go.Value.float Go.FloatKind.f32 0)).cells 1) 0 [AV.flo Go.FloatKind.f32 (shut (clean1 b0))]))), PUnit.unit) fun kb =>
 condO v15
 (kb.1 v13 v18 a0 a1 a2 a3 a4 a5 a6 a7 a8 (shut (IntKind.i64.wrap (a9 + (1 : Int)))) a10 a11 a12 a13 a14 a15 a16 a17 a18 a19 a20 a21 a22 a23 a24 a25 a26 a27 a28 a29 a30 a31 a32)
 (kb.1 v13 v18 a0 a1 a2 a3 a4 a5 a6 a7 a8 a9 a10 a11 a12 a13 a14 a15 a16 a17 a18 a19 a20 a21 a22 a23 a24 a25 a26 a27 a28 a29 a30 a31 a32)), PUnit.unit) fun ka =>
 cS ((↑x11 : Int) > (0 : Int))
 (gS ((↑x11 : Int) ≠ (0 : Int)) <|
 gS ((0 : Int) ≤ shut (x17.tmod (↑x11 : Int)) ∧ shut (x17.tmod (↑x11 : Int)) ≤ (↑x11 : Int) ∧ (↑x11 : Int) ≤ (↑x11 : Int)) <|
 gS ((0 : Int) ≤ shut (↑(((↑x11 : Int).toNat - (shut (x17.tmod (↑x11 : Int))).toNat).min x13.toNat) : Int) ∧ shut (↑(((↑x11 : Int).toNat - (shut (x17.tmod (↑x11 : Int))).toNat).min x13.toNat) : Int) ≤ (↑x13.toNat : Int) ∧ (↑x13.toNat : Int) ≤ (↑x13.toNat : Int)) <|
 gS ((↑x11 : Int) ≠ (0 : Int)) <|
 gS ((0 : Int) ≤ (0 : Int) ∧ (0 : Int) ≤ shut (x17.tmod (↑x11 : Int)) ∧ shut (x17.tmod (↑x11 : Int)) ≤ (↑x11 : Int)) <|
 ka.1 x9 x10 x11 x12 x13 x14 x15 x16 x17 x18 x19 x20 x21 x22 x23 x24 x25 x26 x27 x28 x29 x30 x31 x32 x33 x34 x35 (shut (IntKind.i64.wrap (x17 - x13))) x17 (shut (IntKind.i64.wrap (shut (IntKind.i64.wrap (x17 - x13)) - v21))) (shut (IntKind.i64.wrap (x18 - x19))) (x13.toNat) (putCells (putCells (zrow (ofV (Go.Value.float Go.FloatKind.f32 0)).cells (x13.toNat * 1)) 0 (List.take (((↑x11 : Int).toNat - (shut (x17.tmod (↑x11 : Int))).toNat).min x13.toNat * 1) (List.take (((↑x11 : Int).toNat - (shut (x17.tmod (↑x11 : Int))).toNat) * 1) (List.drop ((shut (x17.tmod (↑x11 : Int))).toNat * 1) x12)))) ((shut (↑(((↑x11 : Int).toNat - (shut (x17.tmod (↑x11 : Int))).toNat).min x13.toNat) : Int)).toNat * 1) (List.take (((shut (x17.tmod (↑x11 : Int))).toNat - 0).min ((↑x13.toNat : Int).toNat - (shut (↑(((↑x11 : Int).toNat - (shut (x17.tmod (↑x11 : Int))).toNat).min x13.toNat) : Int)).toNat) * 1) (List.take (((shut (x17.tmod (↑x11 : Int))).toNat - 0) * 1) (List.drop 0 x12)))))
 (ka.1 x9 x10 x11 x12 x13 x14 x15 x16 x17 x18 x19 x20 x21 x22 x23 x24 x25 x26 x27 x28 x29 x30 x31 x32 x33 x34 x35 (shut (IntKind.i64.wrap (x17 - x13))) x17 (shut (IntKind.i64.wrap (shut (IntKind.i64.wrap (x17 - x13)) - v21))) (shut (IntKind.i64.wrap (x18 - x19))) (x13.toNat) (zrow (ofV (Go.Value.float Go.FloatKind.f32 0)).cells (x13.toNat * 1))))
 (joinC N (
 (fun (d0 : Option Nat) (d1 : Bool) (d2 : Nat) (d3 : List AV) (d4 : Nat) (d5 : List AV) (d6 : Int) (d7 : Int) (d8 : Int) (d9 : Int) (d10 : Int) (d11 : Int) (d12 : Int) (d13 : Int) (d14 : Int) (d15 : Nat) (d16 : List AV) (d17 : Nat) (d18 : List AV) (d19 : Nat) (d20 : List AV) (d21 : Nat) (d22 : List AV) (d23 : Int) (d24 : Int) (d25 : Int) (d26 : Int) (d27 : Nat) (d28 : List AV) =>
 gS ((d27 + 1) * 5 ≤ 549755813888) <|
 joinC N (
 (fun (e0 : Bool) (e1 : Nat) (e2 : List AV) (e3 : Nat) (e4 : List AV) (e5 : Int) (e6 : Int) (e7 : Int) (e8 : Int) (e9 : Int) (e10 : Int) (e11 : Int) (e12 : Int) (e13 : Int) (e14 : Nat) (e15 : List AV) (e16 : Nat) (e17 : List AV) (e18 : Nat) (e19 : List AV) (e20 : Nat) (e21 : List AV) (e22 : Int) (e23 : Int) (e24 : Int) (e25 : Int) (e26 : Nat) (e27 : List AV) (e28 : Nat) (e29 : List AV) =>
 condO (shut ((↑e26 : Int) == shut (IntKind.i64.wrap (e5 + e6))))
 (gS ((e20 + 1) * 57 ≤ 549755813888) <|
 condO e0
 (gS ((e18 + 1) * 9 ≤ 549755813888) <|
 ra x0 x1 x2 x3 x4 x5 x7 (shut (IntKind.i64.wrap (x8 + (1 : Int)))) e1 e2 e3 e4 e5 e6 e7 e8 (shut (IntKind.i64.wrap (e9 + (1 : Int)))) e10 (shut (IntKind.i64.wrap (e11 + shut (IntKind.i64.wrap (e25 + (1 : Int)))))) e12 (shut (IntKind.i64.wrap (e13 + (1 : Int)))) e14 e15 e16 e17 (e18 + 1) (e19 ++ putCells (zrow (ofV (Go.Value.int IntKind.i64 (0 : Int))).cells 1) 0 [AV.int IntKind.i64 x6]) (e20 + 1) (e21 ++ putCells (zrow (ofV (Go.Value.agg #[Go.Value.int IntKind.i64 (0 : Int), Go.Value.int IntKind.i64 (0 : Int), Go.Value.slice Option.none 0 0, Go.Value.int IntKind.i64 (0 : Int), Go.Value.int IntKind.i64 (0 : Int)])).cells 5) 0 [AV.int IntKind.i64 e22, AV.int IntKind.i64 e23, AV.list e26 e27, AV.int IntKind.i64 e24, AV.int IntKind.i64 e25]))
 (ra x0 x1 x2 x3 x4 x5 x7 (shut (IntKind.i64.wrap (x8 + (1 : Int)))) e1 e2 e3 e4 e5 e6 e7 e8 (shut (IntKind.i64.wrap (e9 + (1 : Int)))) e10 (shut (IntKind.i64.wrap (e11 + shut (IntKind.i64.wrap (e25 + (1 : Int)))))) e12 (shut (IntKind.i64.wrap (e13 + (1 : Int)))) e14 e15 e16 e17 e18 e19 (e20 + 1) (e21 ++ putCells (zrow (ofV (Go.Value.agg #[Go.Value.int IntKind.i64 (0 : Int), Go.Value.int IntKind.i64 (0 : Int), Go.Value.slice Option.none 0 0, Go.Value.int IntKind.i64 (0 : Int), Go.Value.int IntKind.i64 (0 : Int)])).cells 5) 0 [AV.int IntKind.i64 e22, AV.int IntKind.i64 e23, AV.list e26 e27, AV.int IntKind.i64 e24, AV.int IntKind.i64 e25])))
 (condO e0
 (gS ((e18 + 1) * 9 ≤ 549755813888) <|
 rb x0 x1 x2 x3 x4 x5 x7 (shut (IntKind.i64.wrap (x8 + (1 : Int)))) e1 e2 e3 e4 e5 e6 e7 e8 (shut (IntKind.i64.wrap (e9 + (1 : Int)))) e10 e11 e12 e13 e14 e15 e16 e17 (e18 + 1) (e19 ++ putCells (zrow (ofV (Go.Value.int IntKind.i64 (0 : Int))).cells 1) 0 [AV.int IntKind.i64 x6]) e20 e21 e22 e23 e24 e25 e26 e27)
 (rb x0 x1 x2 x3 x4 x5 x7 (shut (IntKind.i64.wrap (x8 + (1 : Int)))) e1 e2 e3 e4 e5 e6 e7 e8 (shut (IntKind.i64.wrap (e9 + (1 : Int)))) e10 e11 e12 e13 e14 e15 e16 e17 e18 e19 e20 e21 e22 e23 e24 e25 e26 e27))), PUnit.unit) fun ke =>
 cS ((↑d4 : Int) > (0 : Int))
 (gS ((↑d4 : Int) ≠ (0 : Int)) <|
 gS ((0 : Int) ≤ shut (d10.tmod (↑d4 : Int)) ∧ shut (d10.tmod (↑d4 : Int)) < (↑d4 : Int)) <|
 guardO (shut !(false && d4.beq (0 : Nat))) <|
 gS ((shut (d10.tmod (↑d4 : Int))).toNat * 1 + 1 ≤ d5.length) <|
 ke.1 d1 d2 d3 d4 (putCells d5 ((shut (d10.tmod (↑d4 : Int))).toNat * 1) [AV.flo Go.FloatKind.f32 (shut (clean1 d0))]) d6 d7 d8 d9 d10 d11 d12 d13 d14 d15 d16 d17 d18 d19 d20 d21 d22 d23 d24 d25 d26 (d27 + 1) (d28 ++ putCells (zrow (ofV (Go.Value.float Go.FloatKind.f32 0)).cells 1) 0 [AV.flo Go.FloatKind.f32 (shut (clean1 d0))]) 1 (putCells (zrow (ofV (Go.Value.float Go.FloatKind.f32 0)).cells 1) 0 [AV.flo Go.FloatKind.f32 (shut (clean1 d0))]))
 (ke.1 d1 d2 d3 d4 d5 d6 d7 d8 d9 d10 d11 d12 d13 d14 d15 d16 d17 d18 d19 d20 d21 d22 d23 d24 d25 d26 (d27 + 1) (d28 ++ putCells (zrow (ofV (Go.Value.float Go.FloatKind.f32 0)).cells 1) 0 [AV.flo Go.FloatKind.f32 (shut (clean1 d0))]) 1 (putCells (zrow (ofV (Go.Value.float Go.FloatKind.f32 0)).cells 1) 0 [AV.flo Go.FloatKind.f32 (shut (clean1 d0))]))), PUnit.unit) fun kd =>
 condO v15
 (kd.1 v13 v18 x9 x10 x11 x12 x13 x14 x15 x16 x17 (shut (IntKind.i64.wrap (x18 + (1 : Int)))) x19 x20 x21 x22 x23 x24 x25 x26 x27 x28 x29 x30 x31 x32 x33 x34 x35)
 (kd.1 v13 v18 x9 x10 x11 x12 x13 x14 x15 x16 x17 x18 x19 x20 x21 x22 x23 x24 x25 x26 x27 x28 x29 x30 x31 x32 x33 x34 x35)))
 (joinC N (
 (fun (f0 : Option Nat) (f1 : Bool) (f2 : Nat) (f3 : List AV) (f4 : Nat) (f5 : List AV) (f6 : Int) (f7 : Int) (f8 : Int) (f9 : Int) (f10 : Int) (f11 : Int) (f12 : Int) (f13 : Int) (f14 : Int) (f15 : Nat) (f16 : List AV) (f17 : Nat) (f18 : List AV) (f19 : Nat) (f20 : List AV) (f21 : Nat) (f22 : List AV) (f23 : Int) (f24 : Int) (f25 : Int) (f26 : Int) (f27 : Nat) (f28 : List AV) =>
 gS ((f27 + 1) * 5 ≤ 549755813888) <|
 joinC N (
 (fun (g0 : Bool) (g1 : Nat) (g2 : List AV) (g3 : Nat) (g4 : List AV) (g5 : Int) (g6 : Int) (g7 : Int) (g8 : Int) (g9 : Int) (g10 : Int) (g11 : Int) (g12 : Int) (g13 : Int) (g14 : Nat) (g15 : List AV) (g16 : Nat) (g17 : List AV) (g18 : Nat) (g19 : List AV) (g20 : Nat) (g21 : List AV) (g22 : Int) (g23 : Int) (g24 : Int) (g25 : Int) (g26 : Nat) (g27 : List AV) (g28 : Nat) (g29 : List AV) =>
 condO (shut ((↑g26 : Int) == shut (IntKind.i64.wrap (g5 + g6))))
 (gS ((g20 + 1) * 57 ≤ 549755813888) <|
 condO g0
 (gS ((g18 + 1) * 9 ≤ 549755813888) <|
 ra x0 x1 x2 x3 x4 x5 x7 (shut (IntKind.i64.wrap (x8 + (1 : Int)))) g1 g2 g3 g4 g5 g6 g7 g8 (shut (IntKind.i64.wrap (g9 + (1 : Int)))) g10 (shut (IntKind.i64.wrap (g11 + shut (IntKind.i64.wrap (g25 + (1 : Int)))))) g12 (shut (IntKind.i64.wrap (g13 + (1 : Int)))) g14 g15 g16 g17 (g18 + 1) (g19 ++ putCells (zrow (ofV (Go.Value.int IntKind.i64 (0 : Int))).cells 1) 0 [AV.int IntKind.i64 x6]) (g20 + 1) (g21 ++ putCells (zrow (ofV (Go.Value.agg #[Go.Value.int IntKind.i64 (0 : Int), Go.Value.int IntKind.i64 (0 : Int), Go.Value.slice Option.none 0 0, Go.Value.int IntKind.i64 (0 : Int), Go.Value.int IntKind.i64 (0 : Int)])).cells 5) 0 [AV.int IntKind.i64 g22, AV.int IntKind.i64 g23, AV.list g26 g27, AV.int IntKind.i64 g24, AV.int IntKind.i64 g25]))
 (ra x0 x1 x2 x3 x4 x5 x7 (shut (IntKind.i64.wrap (x8 + (1 : Int)))) g1 g2 g3 g4 g5 g6 g7 g8 (shut (IntKind.i64.wrap (g9 + (1 : Int)))) g10 (shut (IntKind.i64.wrap (g11 + shut (IntKind.i64.wrap (g25 + (1 : Int)))))) g12 (shut (IntKind.i64.wrap (g13 + (1 : Int)))) g14 g15 g16 g17 g18 g19 (g20 + 1) (g21 ++ putCells (zrow (ofV (Go.Value.agg #[Go.Value.int IntKind.i64 (0 : Int), Go.Value.int IntKind.i64 (0 : Int), Go.Value.slice Option.none 0 0, Go.Value.int IntKind.i64 (0 : Int), Go.Value.int IntKind.i64 (0 : Int)])).cells 5) 0 [AV.int IntKind.i64 g22, AV.int IntKind.i64 g23, AV.list g26 g27, AV.int IntKind.i64 g24, AV.int IntKind.i64 g25])))
 (condO g0
 (gS ((g18 + 1) * 9 ≤ 549755813888) <|
 rb x0 x1 x2 x3 x4 x5 x7 (shut (IntKind.i64.wrap (x8 + (1 : Int)))) g1 g2 g3 g4 g5 g6 g7 g8 (shut (IntKind.i64.wrap (g9 + (1 : Int)))) g10 g11 g12 g13 g14 g15 g16 g17 (g18 + 1) (g19 ++ putCells (zrow (ofV (Go.Value.int IntKind.i64 (0 : Int))).cells 1) 0 [AV.int IntKind.i64 x6]) g20 g21 g22 g23 g24 g25 g26 g27)
 (rb x0 x1 x2 x3 x4 x5 x7 (shut (IntKind.i64.wrap (x8 + (1 : Int)))) g1 g2 g3 g4 g5 g6 g7 g8 (shut (IntKind.i64.wrap (g9 + (1 : Int)))) g10 g11 g12 g13 g14 g15 g16 g17 g18 g19 g20 g21 g22 g23 g24 g25 g26 g27))), PUnit.unit) fun kg =>
 cS ((↑f4 : Int) > (0 : Int))
 (gS ((↑f4 : Int) ≠ (0 : Int)) <|
 gS ((0 : Int) ≤ shut (f10.tmod (↑f4 : Int)) ∧ shut (f10.tmod (↑f4 : Int)) < (↑f4 : Int)) <|
 guardO (shut !(false && f4.beq (0 : Nat))) <|
 gS ((shut (f10.tmod (↑f4 : Int))).toNat * 1 + 1 ≤ f5.length) <|
 kg.1 f1 f2 f3 f4 (putCells f5 ((shut (f10.tmod (↑f4 : Int))).toNat * 1) [AV.flo Go.FloatKind.f32 (shut (clean1 f0))]) f6 f7 f8 f9 f10 f11 f12 f13 f14 f15 f16 f17 f18 f19 f20 f21 f22 f23 f24 f25 f26 (f27 + 1) (f28 ++ putCells (zrow (ofV (Go.Value.float Go.FloatKind.f32 0)).cells 1) 0 [AV.flo Go.FloatKind.f32 (shut (clean1 f0))]) 1 (putCells (zrow (ofV (Go.Value.float Go.FloatKind.f32 0)).cells 1) 0 [AV.flo Go.FloatKind.f32 (shut (clean1 f0))]))
 (kg.1 f1 f2 f3 f4 f5 f6 f7 f8 f9 f10 f11 f12 f13 f14 f15 f16 f17 f18 f19 f20 f21 f22 f23 f24 f25 f26 (f27 + 1) (f28 ++ putCells (zrow (ofV (Go.Value.float Go.FloatKind.f32 0)).cells 1) 0 [AV.flo Go.FloatKind.f32 (shut (clean1 f0))]) 1 (putCells (zrow (ofV (Go.Value.float Go.FloatKind.f32 0)).cells 1) 0 [AV.flo Go.FloatKind.f32 (shut (clean1 f0))]))), PUnit.unit) fun kf =>
 condO v15
 (kf.1 v13 false x9 x10 x11 x12 x13 x14 x15 x16 x17 (shut (IntKind.i64.wrap (x18 + (1 : Int)))) x19 x20 x21 x22 x23 x24 x25 x26 x27 x28 x29 x30 x31 x32 x33 x34 x35)
 (kf.1 v13 false x9 x10 x11 x12 x13 x14 x15 x16 x17 x18 x19 x20 x21 x22 x23 x24 x25 x26 x27 x28 x29 x30 x31 x32 x33 x34 x35)))
 (rb x0 x1 x2 x3 x4 x5 x7 (shut (IntKind.i64.wrap (x8 + (1 : Int)))) x9 x10 x11 x12 x13 x14 x15 x16 x17 x18 x19 x20 x21 x22 x23 x24 x25 x26 x27 x28 x29 x30 x31 x32 x33 x34 x35)))
noncomputable def outF35 (N : Nat) (r_6 : RN35 × RO35 × PUnit.{1}) : RN35 × RO35 × PUnit.{1} :=
 (
 (fun x0 x1 x2 x3 x4 x5 x6 x7 x8 x9 x10 x11 x12 x13 x14 x15 x16 x17 x18 x19 x20 x21 x22 x23 x24 x25 x26 x27 x28 =>
 cS (x7 < x6)
 ((loopC N (fun (r_8 : TN35 × PUnit.{1}) => (
 stepN35 N r_8.1 r_6.1 r_6.2.1, PUnit.unit))
 ((fun _ _ _ _ _ _ _ _ _ _ _ _ _ _ _ _ _ _ _ _ _ _ _ _ _ _ _ _ _ _ => none), PUnit.unit)).1 x0 x1 x2 x3 x4 x5 x7 x6 x7 x8 x9 x10 x11 x12 x13 x14 x15 x16 x17 x18 x19 x20 x21 x22 x23 x24 x25 x26 x27 x28)
 (some ([RLeaf.v (AV.list x27 x28), RLeaf.v (AV.int IntKind.i64 (0 : Int))]))),
 (fun x0 x1 x2 x3 x4 x5 x6 x7 x8 x9 x10 x11 x12 x13 x14 x15 x16 x17 x18 x19 x20 x21 x22 x23 x24 x25 x26 x27 x28 x29 x30 x31 x32 x33 x34 =>
 cS (x7 < x6)
 ((loopC N (fun (r_8 : TN35 × TO35 × PUnit.{1}) => (
 stepN35 N r_8.1 r_6.1 r_6.2.1,
 stepO35 N r_8.1 r_8.2.1 r_6.1 r_6.2.1, PUnit.unit))
 ((fun _ _ _ _ _ _ _ _ _ _ _ _ _ _ _ _ _ _ _ _ _ _ _ _ _ _ _ _ _ _ => none), (fun _ _ _ _ _ _ _ _ _ _ _ _ _ _ _ _ _ _ _ _ _ _ _ _ _ _ _ _ _ _ _ _ _ _ _ _ => none), PUnit.unit)).2.1 x0 x1 x2 x3 x4 x5 x7 x6 x7 x8 x9 x10 x11 x12 x13 x14 x15 x16 x17 x18 x19 x20 x21 x22 x23 x24 x25 x26 x27 x28 x29 x30 x31 x32 x33 x34)
 (some ([RLeaf.v (AV.list x27 x28), RLeaf.v (AV.int IntKind.i64 (0 : Int))]))), PUnit.unit)
theorem run_35 (N : Nat) (pre post hold segs : Int) (n : Nat) (cs : List AV) (m : Nat) (fs : List AV) (q : Nat) (ar : List AV) : (fsW tzx waysN N 12).call (List RLeaf) 35 [.s (.agg [.b (.int .i64 pre), .b (.int .i64 post), .b (.int .i64 hold), .b (.int .i64 segs)]), .ofB (.list n cs), .ofB (.list m fs), .ofB (.list q ar)] [] (resK [false, false]) = (
 condO (shut (shut (setupE pre post hold segs) != (0 : Int)))
 (gS (Flos n cs) <|
 gS (Ints q ar) <|
 gS (Ints 4 (putCells (putCells (putCells (putCells (zrow (ofV (Go.Value.int IntKind.i64 (0 : Int))).cells 4) 0 [AV.int IntKind.i64 (shut (setupE pre post hold segs))]) 1 [AV.int IntKind.i64 (shut (sampErr n (flosOf cs)))]) 2 [AV.int IntKind.i64 (shut (if shut ((↑m : Int) != (↑n : Int)) = true then (2 : Int) else (0 : Int)))]) 3 [AV.int IntKind.i64 (shut (armsE q (intsOf ar) (↑n : Int)))])) <|
 guardO (shut (shut (firstNZ (intsOf (putCells (putCells (putCells (putCells (zrow (ofV (Go.Value.int IntKind.i64 (0 : Int))).cells 4) 0 [AV.int IntKind.i64 (shut (setupE pre post hold segs))]) 1 [AV.int IntKind.i64 (shut (sampErr n (flosOf cs)))]) 2 [AV.int IntKind.i64 (shut (if shut ((↑m : Int) != (↑n : Int)) = true then (2 : Int) else (0 : Int)))]) 3 [AV.int IntKind.i64 (shut (armsE q (intsOf ar) (↑n : Int)))]))) != (0 : Int))) <|
 some ([RLeaf.v (AV.list 0 []), RLeaf.v (AV.int IntKind.i64 (shut (firstNZ (intsOf (putCells (putCells (putCells (putCells (zrow (ofV (Go.Value.int IntKind.i64 (0 : Int))).cells 4) 0 [AV.int IntKind.i64 (shut (setupE pre post hold segs))]) 1 [AV.int IntKind.i64 (shut (sampErr n (flosOf cs)))]) 2 [AV.int IntKind.i64 (shut (if shut ((↑m : Int) != (↑n : Int)) = true then (2 : Int) else (0 : Int)))]) 3 [AV.int IntKind.i64 (shut (armsE q (intsOf ar) (↑n : Int)))])))))]))
 (gS ((0 : Int) ≤ pre ∧ pre ≤ pre ∧ pre ≤ (281474976710656 : Int) ∧ (↑4 : Int) * pre ≤ (281474976710656 : Int)) <|
 gS (Flos n cs) <|
 gS (Ints q ar) <|
 gS (Ints 4 (putCells (putCells (putCells (putCells (zrow (ofV (Go.Value.int IntKind.i64 (0 : Int))).cells 4) 0 [AV.int IntKind.i64 (0 : Int)]) 1 [AV.int IntKind.i64 (shut (sampErr n (flosOf cs)))]) 2 [AV.int IntKind.i64 (shut (if shut ((↑m : Int) != (↑n : Int)) = true then (2 : Int) else (0 : Int)))]) 3 [AV.int IntKind.i64 (shut (armsE q (intsOf ar) (↑n : Int)))])) <|
 condO (shut (shut (firstNZ (intsOf (putCells (putCells (putCells (putCells (zrow (ofV (Go.Value.int IntKind.i64 (0 : Int))).cells 4) 0 [AV.int IntKind.i64 (0 : Int)]) 1 [AV.int IntKind.i64 (shut (sampErr n (flosOf cs)))]) 2 [AV.int IntKind.i64 (shut (if shut ((↑m : Int) != (↑n : Int)) = true then (2 : Int) else (0 : Int)))]) 3 [AV.int IntKind.i64 (shut (armsE q (intsOf ar) (↑n : Int)))]))) != (0 : Int)))
 (some ([RLeaf.v (AV.list 0 []), RLeaf.v (AV.int IntKind.i64 (shut (firstNZ (intsOf (putCells (putCells (putCells (putCells (zrow (ofV (Go.Value.int IntKind.i64 (0 : Int))).cells 4) 0 [AV.int IntKind.i64 (0 : Int)]) 1 [AV.int IntKind.i64 (shut (sampErr n (flosOf cs)))]) 2 [AV.int IntKind.i64 (shut (if shut ((↑m : Int) != (↑n : Int)) = true then (2 : Int) else (0 : Int)))]) 3 [AV.int IntKind.i64 (shut (armsE q (intsOf ar) (↑n : Int)))])))))]))
 ((loopC N (outF35 N)
 ((fun _ _ _ _ _ _ _ _ _ _ _ _ _ _ _ _ _ _ _ _ _ _ _ _ _ _ _ _ _ => none), (fun _ _ _ _ _ _ _ _ _ _ _ _ _ _ _ _ _ _ _ _ _ _ _ _ _ _ _ _ _ _ _ _ _ _ _ => none), PUnit.unit)).1 n cs m fs q ar (shut (IntKind.i64.wrap ((↑n : Int) + (1 : Int)))) ((0 : Int)) 0 ([]) (pre.toNat) (zrow (ofV (Go.Value.float Go.FloatKind.f32 0)).cells (pre.toNat * 1)) pre post hold segs ((0 : Int)) ((0 : Int)) ((0 : Int)) ((0 : Int)) ((0 : Int)) 4 (putCells (putCells (putCells (putCells (zrow (ofV (Go.Value.int IntKind.i64 (0 : Int))).cells 4) 0 [AV.int IntKind.i64 (0 : Int)]) 1 [AV.int IntKind.i64 (shut (sampErr n (flosOf cs)))]) 2 [AV.int IntKind.i64 (shut (if shut ((↑m : Int) != (↑n : Int)) = true then (2 : Int) else (0 : Int)))]) 3 [AV.int IntKind.i64 (shut (armsE q (intsOf ar) (↑n : Int)))]) 0 ([]) 0 ([]) 0 ([])))) := by kernel_rfl
end Go.Abs
end

section
/- The run of function 36, lifted; its rounds by themselves (printed by the tools gen.py and pack.py). -/
set_option maxRecDepth 100000
set_option linter.unusedVariables false
namespace Go.Abs
open Go.Proofs Classical
abbrev RN36 := Nat → List AV → Nat → List AV → Int → Int → Nat → List AV → Nat → List AV → Int → Int → Int → Int → Int → Int → Int → Int → Int → Nat → List AV → Nat → List AV → Nat → List AV → Nat → List AV → Nat → List AV → Option (List RLeaf)
abbrev RO36 := Nat → List AV → Nat → List AV → Int → Int → Nat → List AV → Nat → List AV → Int → Int → Int → Int → Int → Int → Int → Int → Int → Nat → List AV → Nat → List AV → Nat → List AV → Nat → List AV → Nat → List AV → Int → Int → Int → Int → Nat → List AV → Option (List RLeaf)
abbrev TN36 := Nat → List AV → Nat → List AV → Int → Int → Int → Nat → List AV → Nat → List AV → Int → Int → Int → Int → Int → Int → Int → Int → Int → Nat → List AV → Nat → List AV → Nat → List AV → Nat → List AV → Nat → List AV → Option (List RLeaf)
abbrev TO36 := Nat → List AV → Nat → List AV → Int → Int → Int → Nat → List AV → Nat → List AV → Int → Int → Int → Int → Int → Int → Int → Int → Int → Nat → List AV → Nat → List AV → Nat → List AV → Nat → List AV → Nat → List AV → Int → Int → Int → Int → Nat → List AV → Option (List RLeaf)
noncomputable def stepN36 (N : Nat) (r8 : TN36) (ra : RN36) (rb : RO36) : TN36 :=
 (fun x0 x1 x2 x3 x4 x5 x6 x7 x8 x9 x10 x11 x12 x13 x14 x15 x16 x17 x18 x19 x20 x21 x22 x23 x24 x25 x26 x27 x28 x29 =>
 bindO (
 cS ((↑x2 : Int) > (0 : Int))
 (gS ((0 : Int) ≤ (0 : Int) ∧ (0 : Int) < (↑x2 : Int) ∧ 0 < x3.length) <|
 bindO (asInt IntKind.i64 (x3.getD 0 AV.top)) fun v12 =>
 some (shut (v12 == x4)))
 (some false)) fun v9 =>
 condO v9
 (condO (shut (x12 == (0 : Int)))
 (gS ((0 : Int) ≤ (1 : Int) ∧ (1 : Int) ≤ (↑x2 : Int) ∧ (↑x2 : Int) ≤ (↑x2 : Int)) <|
 gS (x2 * 1 = x3.length) <|
 r8 x0 x1 ((↑x2 : Int).toNat - 1) (List.take (((↑x2 : Int).toNat - 1) * 1) (List.drop 1 x3)) x4 x5 x6 x7 x8 x9 x10 x11 x12 x13 x14 x15 x16 x17 x18 x19 x20 x21 x22 x23 x24 x25 x26 x27 x28 x29)
 (cS ((↑x28 : Int) ≥ (64 : Int))
 (gS ((0 : Int) ≤ (1 : Int) ∧ (1 : Int) ≤ (↑x2 : Int) ∧ (↑x2 : Int) ≤ (↑x2 : Int)) <|
 gS (x2 * 1 = x3.length) <|
 r8 x0 x1 ((↑x2 : Int).toNat - 1) (List.take (((↑x2 : Int).toNat - 1) * 1) (List.drop 1 x3)) x4 x5 x6 x7 x8 x9 x10 x11 x12 x13 x14 x15 x16 x17 x18 x19 x20 x21 x22 x23 x24 x25 x26 x27 x28 x29)
 (gS ((0 : Int) ≤ (1 : Int) ∧ (1 : Int) ≤ (↑x2 : Int) ∧ (↑x2 : Int) ≤ (↑x2 : Int)) <|
 gS (x2 * 1 = x3.length) <|
 r8 x0 x1 ((↑x2 : Int).toNat - 1) (List.take (((↑x2 : Int).toNat - 1) * 1) (List.drop 1 x3)) x4 x5 x6 x7 x8 x9 (zrow (ofV (Go.Value.float Go.FloatKind.f32 0)).cells (x9 * 1)) x11 x12 x13 x14 x15 x16 x17 x15 ((0 : Int)) x20 x21 x22 x23 x24 x25 x26 x27 x28 x29)))
 (cS (x4 < (↑x22 : Int))
 (gS ((0 : Int) ≤ x4 ∧ x4 < (↑x22 : Int)) <|
 guardO (shut !(false && x22.beq (0 : Nat))) <|
 bindO (asFloat Go.FloatKind.f32 (x23.getD (x4.toNat * 1) AV.top)) fun v14 =>
 gS ((0 : Int) ≤ x4 ∧ x4 < (↑x0 : Int) ∧ 0 < x1.length) <|
 bindO (asBool (x1.getD (x4.toNat * 1) AV.top)) fun v16 =>
 condO v16
 (bindO (accD N x11 x13 x14 x15 x18 x19 x28 x29) fun v18 =>
 bindO (asBool v18) fun v19 =>
 condO v19
 (bindO (
 lastD x28 x29) fun v21 =>
 bindO (asInt IntKind.i64 v21) fun v22 =>
 gS ((0 : Int) ≤ x11 ∧ x11 ≤ shut (IntKind.i64.wrap (x11 + x12)) ∧ shut (IntKind.i64.wrap (x11 + x12)) ≤ (281474976710656 : Int) ∧ (↑4 : Int) * shut (IntKind.i64.wrap (x11 + x12)) ≤ (281474976710656 : Int)) <|
 joinC N (
 (fun (a0 : Nat) (a1 : List AV) (a2 : Nat) (a3 : List AV) (a4 : Int) (a5 : Int) (a6 : Int) (a7 : Int) (a8 : Int) (a9 : Int) (a10 : Int) (a11 : Int) (a12 : Int) (a13 : Nat) (a14 : List AV) (a15 : Nat) (a16 : List AV) (a17 : Nat) (a18 : List AV) (a19 : Nat) (a20 : List AV) (a21 : Nat) (a22 : List AV) (a23 : Int) (a24 : Int) (a25 : Int) (a26 : Int) (a27 : Nat) (a28 : List AV) =>
 joinC N (
 (fun (b0 : Option Nat) (b1 : Bool) (b2 : Nat) (b3 : List AV) (b4 : Nat) (b5 : List AV) (b6 : Int) (b7 : Int) (b8 : Int) (b9 : Int) (b10 : Int) (b11 : Int) (b12 : Int) (b13 : Int) (b14 : Int) (b15 : Nat) (b16 : List AV) (b17 : Nat) (b18 : List AV) (b19 : Nat) (b20 : List AV) (b21 : Nat) (b22 : List AV) (b23 : Nat) (b24 : List AV) (b25 : Int) (b26 : Int) (b27 : Int) (b28 : Int) (b29 : Nat) (b30 : List AV) =>
 gS ((b29 + 1) * 5 ≤ 549755813888) <|
 joinC N (
 (fun (c0 : Bool) (c1 : Nat) (c2 : List AV) (c3 : Nat) (c4 : List AV) (c5 : Int) (c6 : Int) (c7 : Int) (c8 : Int) (c9 : Int) (c10 : Int) (c11 : Int) (c12 : Int) (c13 : Int) (c14 : Nat) (c15 : List AV) (c16 : Nat) (c17 : List AV) (c18 : Nat) (c19 : List AV) (c20 : Nat) (c21 : List AV) (c22 : Nat) (c23 : List AV) (c24 : Int) (c25 : Int) (c26 : Int) (c27 : Int) (c28 : Nat) (c29 : List AV) (c30 : Nat) (c31 : List AV) =>
 condO (shut ((↑c28 : Int) == shut (IntKind.i64.wrap (c5 + c6))))
 (gS ((c22 + 1) * 57 ≤ 549755813888) <|
 condO c0
 (gS ((c20 + 1) * 9 ≤ 549755813888) <|
 ra x0 x1 x2 x3 x5 (shut (IntKind.i64.wrap (x6 + (1 : Int)))) c1 c2 c3 c4 c5 c6 c7 c8 (shut (IntKind.i64.wrap (c9 + (1 : Int)))) c10 (shut (IntKind.i64.wrap (c11 + shut (IntKind.i64.wrap (c27 + (1 : Int)))))) c12 (shut (IntKind.i64.wrap (c13 + (1 : Int)))) c14 c15 c16 c17 c18 c19 (c20 + 1) (c21 ++ putCells (zrow (ofV (Go.Value.int IntKind.i64 (0 : Int))).cells 1) 0 [AV.int IntKind.i64 x4]) (c22 + 1) (c23 ++ putCells (zrow (ofV (Go.Value.agg #[Go.Value.int IntKind.i64 (0 : Int), Go.Value.int IntKind.i64 (0 : Int), Go.Value.slice Option.none 0 0, Go.Value.int IntKind.i64 (0 : Int), Go.Value.int IntKind.i64 (0 : Int)])).cells 5) 0 [AV.int IntKind.i64 c24, AV.int IntKind.i64 c25, AV.list c28 c29, AV.int IntKind.i64 c26, AV.int IntKind.i64 c27]))
 (ra x0 x1 x2 x3 x5 (shut (IntKind.i64.wrap (x6 + (1 : Int)))) c1 c2 c3 c4 c5 c6 c7 c8 (shut (IntKind.i64.wrap (c9 + (1 : Int)))) c10 (shut (IntKind.i64.wrap (c11 + shut (IntKind.i64.wrap (c27 + (1 : Int)))))) c12 (shut (IntKind.i64.wrap (c13 + (1 : Int)))) c14 c15 c16 c17 c18 c19 c20 c21 (c22 + 1) (c23 ++ putCells (zrow (ofV (Go.Value.agg #[Go.Value.int IntKind.i64 (0 : Int), Go.Value.int IntKind.i64 (0 : Int), Go.Value.slice Option.none 0 0, Go.Value.int IntKind.i64 (0 : Int), Go.Value.int IntKind.i64 (0 : Int)])).cells 5) 0 [AV.int IntKind.i64 c24, AV.int IntKind.i64 c25, AV.list c28 c29, AV.int IntKind.i64 c26, AV.int IntKind.i64 c27])))
 (condO c0
 (gS ((c20 + 1) * 9 ≤ 549755813888) <|
 rb x0 x1 x2 x3 x5 (shut (IntKind.i64.wrap (x6 + (1 : Int)))) c1 c2 c3 c4 c5 c6 c7 c8 (shut (IntKind.i64.wrap (c9 + (1 : Int)))) c10 c11 c12 c13 c14 c15 c16 c17 c18 c19 (c20 + 1) (c21 ++ putCells (zrow (ofV (Go.Value.int IntKind.i64 (0 : Int))).cells 1) 0 [AV.int IntKind.i64 x4]) c22 c23 c24 c25 c26 c27 c28 c29)
 (rb x0 x1 x2 x3 x5 (shut (IntKind.i64.wrap (x6 + (1 : Int)))) c1 c2 c3 c4 c5 c6 c7 c8 (shut (IntKind.i64.wrap (c9 + (1 : Int)))) c10 c11 c12 c13 c14 c15 c16 c17 c18 c19 c20 c21 c22 c23 c24 c25 c26 c27 c28 c29))), PUnit.unit) fun kc =>
 cS ((↑b4 : Int) > (0 : Int))
 (gS ((↑b4 : Int) ≠ (0 : Int)) <|
 gS ((0 : Int) ≤ shut (b10.tmod (↑b4 : Int)) ∧ shut (b10.tmod (↑b4 : Int)) < (↑b4 : Int)) <|
 guardO (shut !(false && b4.beq (0 : Nat))) <|
 gS ((shut (b10.tmod (↑b4 : Int))).toNat * 1 + 1 ≤ b5.length) <|
 kc.1 b1 b2 b3 b4 (putCells b5 ((shut (b10.tmod (↑b4 : Int))).toNat * 1) [AV.flo Go.FloatKind.f32 (shut (clean1 b0))]) b6 b7 b8 b9 b10 b11 b12 b13 b14 b15 b16 b17 b18 b19 b20 b21 b22 b23 b24 b25 b26 b27 b28 (b29 + 1) (b30 ++ putCells (zrow (ofV (Go.Value.float Go.FloatKind.f32 0)).cells 1) 0 [AV.flo Go.FloatKind.f32 (shut (clean1 b0))]) 1 (putCells (zrow (ofV (Go.Value.float Go.FloatKind.f32 0)).cells 1) 0 [AV.flo Go.FloatKind.f32 (shut (clean1 b0))]))
 (kc.1 b1 b2 b3 b4 b5 b6 b7 b8 b9 b10 b11 b12 b13 b14 b15 b16 b17 b18 b19 b20 b21 b22 b23 b24 b25 b26 b27 b28 (b29 + 1) (b30 ++ putCells (zrow (ofV (Go.Value.float Go.FloatKind.f32 0)).cells 1) 0 [AV.flo Go.FloatKind.f32 (shut (clean1 b0))]) 1 (putCells (zrow (ofV (Go.Value.float Go.FloatKind.f32 0)).cells 1) 0 [AV.flo Go.FloatKind.f32 (shut (clean1 b0))]))), PUnit.unit) fun kb =>
 condO v16
 (kb.1 v14 v19 a0 a1 a2 a3 a4 a5 a6 a7 a8 (shut (IntKind.i64.wrap (a9 + (1 : Int)))) a10 a11 a12 a13 a14 a15 a16 a17 a18 a19 a20 a21 a22 a23 a24 a25 a26 a27 a28)
 (kb.1 v14 v19 a0 a1 a2 a3 a4 a5 a6 a7 a8 a9 a10 a11 a12 a13 a14 a15 a16 a17 a18 a19 a20 a21 a22 a23 a24 a25 a26 a27 a28)), PUnit.unit) fun ka =>
 cS ((↑x9 : Int) > (0 : Int))
 (gS ((↑x9 : Int) ≠ (0 : Int)) <|
 gS ((0 : Int) ≤ shut (x15.tmod (↑x9 : Int)) ∧ shut (x15.tmod (↑x9 : Int)) ≤ (↑x9 : Int) ∧ (↑x9 : Int) ≤ (↑x9 : Int)) <|
 gS ((0 : Int) ≤ shut (↑(((↑x9 : Int).toNat - (shut (x15.tmod (↑x9 : Int))).toNat).min x11.toNat) : Int) ∧ shut (↑(((↑x9 : Int).toNat - (shut (x15.tmod (↑x9 : Int))).toNat).min x11.toNat) : Int) ≤ (↑x11.toNat : Int) ∧ (↑x11.toNat : Int) ≤ (↑x11.toNat : Int)) <|
 gS ((↑x9 : Int) ≠ (0 : Int)) <|
 gS ((0 : Int) ≤ (0 : Int) ∧ (0 : Int) ≤ shut (x15.tmod (↑x9 : Int)) ∧ shut (x15.tmod (↑x9 : Int)) ≤ (↑x9 : Int)) <|
 ka.1 x7 x8 x9 x10 x11 x12 x13 x14 x15 x16 x17 x18 x19 x20 x21 x22 x23 x24 x25 x26 x27 x28 x29 (shut (IntKind.i64.wrap (x15 - x11))) x15 (shut (IntKind.i64.wrap (shut (IntKind.i64.wrap (x15 - x11)) - v22))) (shut (IntKind.i64.wrap (x16 - x17))) (x11.toNat) (putCells (putCells (zrow (ofV (Go.Value.float Go.FloatKind.f32 0)).cells (x11.toNat * 1)) 0 (List.take (((↑x9 : Int).toNat - (shut (x15.tmod (↑x9 : Int))).toNat).min x11.toNat * 1) (List.take (((↑x9 : Int).toNat - (shut (x15.tmod (↑x9 : Int))).toNat) * 1) (List.drop ((shut (x15.tmod (↑x9 : Int))).toNat * 1) x10)))) ((shut (↑(((↑x9 : Int).toNat - (shut (x15.tmod (↑x9 : Int))).toNat).min x11.toNat) : Int)).toNat * 1) (List.take (((shut (x15.tmod (↑x9 : Int))).toNat - 0).min ((↑x11.toNat : Int).toNat - (shut (↑(((↑x9 : Int).toNat - (shut (x15.tmod (↑x9 : Int))).toNat).min x11.toNat) : Int)).toNat) * 1) (List.take (((shut (x15.tmod (↑x9 : Int))).toNat - 0) * 1) (List.drop 0 x10)))))
 (ka.1 x7 x8 x9 x10 x11 x12 x13 x14 x15 x16 x17 x18 x19 x20 x21 x22 x23 x24 x25 x26 x27 x28 x29 (shut (IntKind.i64.wrap (x15 - x11))) x15 (shut (IntKind.i64.wrap (shut (IntKind.i64.wrap (x15 - x11)) - v22))) (shut (IntKind.i64.wrap (x16 - x17))) (x11.toNat) (zrow (ofV (Go.Value.float Go.FloatKind.f32 0)).cells (x11.toNat * 1))))
 (joinC N (
 (fun (d0 : Option Nat) (d1 : Bool) (d2 : Nat) (d3 : List AV) (d4 : Nat) (d5 : List AV) (d6 : Int) (d7 : Int) (d8 : Int) (d9 : Int) (d10 : Int) (d11 : Int) (d12 : Int) (d13 : Int) (d14 : Int) (d15 : Nat) (d16 : List AV) (d17 : Nat) (d18 : List AV) (d19 : Nat) (d20 : List AV) (d21 : Nat) (d22 : List AV) (d23 : Nat) (d24 : List AV) =>
 joinC N (
 (fun (e0 : Bool) (e1 : Nat) (e2 : List AV) (e3 : Nat) (e4 : List AV) (e5 : Int) (e6 : Int) (e7 : Int) (e8 : Int) (e9 : Int) (e10 : Int) (e11 : Int) (e12 : Int) (e13 : Int) (e14 : Nat) (e15 : List AV) (e16 : Nat) (e17 : List AV) (e18 : Nat) (e19 : List AV) (e20 : Nat) (e21 : List AV) (e22 : Nat) (e23 : List AV) =>
 condO e0
 (gS ((e20 + 1) * 9 ≤ 549755813888) <|
 ra x0 x1 x2 x3 x5 (shut (IntKind.i64.wrap (x6 + (1 : Int)))) e1 e2 e3 e4 e5 e6 e7 e8 (shut (IntKind.i64.wrap (e9 + (1 : Int)))) e10 e11 e12 e13 e14 e15 e16 e17 e18 e19 (e20 + 1) (e21 ++ putCells (zrow (ofV (Go.Value.int IntKind.i64 (0 : Int))).cells 1) 0 [AV.int IntKind.i64 x4]) e22 e23)
 (ra x0 x1 x2 x3 x5 (shut (IntKind.i64.wrap (x6 + (1 : Int)))) e1 e2 e3 e4 e5 e6 e7 e8 (shut (IntKind.i64.wrap (e9 + (1 : Int)))) e10 e11 e12 e13 e14 e15 e16 e17 e18 e19 e20 e21 e22 e23)), PUnit.unit) fun ke =>
 cS ((↑d4 : Int) > (0 : Int))
 (gS ((↑d4 : Int) ≠ (0 : Int)) <|
 gS ((0 : Int) ≤ shut (d10.tmod (↑d4 : Int)) ∧ shut (d10.tmod (↑d4 : Int)) < (↑d4 : Int)) <|
 guardO (shut !(false && d4.beq (0 : Nat))) <|
 gS ((shut (d10.tmod (↑d4 : Int))).toNat * 1 + 1 ≤ d5.length) <|
 ke.1 d1 d2 d3 d4 (putCells d5 ((shut (d10.tmod (↑d4 : Int))).toNat * 1) [AV.flo Go.FloatKind.f32 (shut (clean1 d0))]) d6 d7 d8 d9 d10 d11 d12 d13 d14 d15 d16 d17 d18 d19 d20 d21 d22 d23 d24)
 (ke.1 d1 d2 d3 d4 d5 d6 d7 d8 d9 d10 d11 d12 d13 d14 d15 d16 d17 d18 d19 d20 d21 d22 d23 d24)), PUnit.unit) fun kd =>
 condO v16
 (kd.1 v14 v19 x7 x8 x9 x10 x11 x12 x13 x14 x15 (shut (IntKind.i64.wrap (x16 + (1 : Int)))) x17 x18 x19 x20 x21 x22 x23 x24 x25 x26 x27 x28 x29)
 (kd.1 v14 v19 x7 x8 x9 x10 x11 x12 x13 x14 x15 x16 x17 x18 x19 x20 x21 x22 x23 x24 x25 x26 x27 x28 x29)))
 (joinC N (
 (fun (f0 : Option Nat) (f1 : Bool) (f2 : Nat) (f3 : List AV) (f4 : Nat) (f5 : List AV) (f6 : Int) (f7 : Int) (f8 : Int) (f9 : Int) (f10 : Int) (f11 : Int) (f12 : Int) (f13 : Int) (f14 : Int) (f15 : Nat) (f16 : List AV) (f17 : Nat) (f18 : List AV) (f19 : Nat) (f20 : List AV) (f21 : Nat) (f22 : List AV) (f23 : Nat) (f24 : List AV) =>
 joinC N (
 (fun (g0 : Bool) (g1 : Nat) (g2 : List AV) (g3 : Nat) (g4 : List AV) (g5 : Int) (g6 : Int) (g7 : Int) (g8 : Int) (g9 : Int) (g10 : Int) (g11 : Int) (g12 : Int) (g13 : Int) (g14 : Nat) (g15 : List AV) (g16 : Nat) (g17 : List AV) (g18 : Nat) (g19 : List AV) (g20 : Nat) (g21 : List AV) (g22 : Nat) (g23 : List AV) =>
 condO g0
 (gS ((g20 + 1) * 9 ≤ 549755813888) <|
 ra x0 x1 x2 x3 x5 (shut (IntKind.i64.wrap (x6 + (1 : Int)))) g1 g2 g3 g4 g5 g6 g7 g8 (shut (IntKind.i64.wrap (g9 + (1 : Int)))) g10 g11 g12 g13 g14 g15 g16 g17 g18 g19 (g20 + 1) (g21 ++ putCells (zrow (ofV (Go.Value.int IntKind.i64 (0 : Int))).cells 1) 0 [AV.int IntKind.i64 x4]) g22 g23)
 (ra x0 x1 x2 x3 x5 (shut (IntKind.i64.wrap (x6 + (1 : Int)))) g1 g2 g3 g4 g5 g6 g7 g8 (shut (IntKind.i64.wrap (g9 + (1 : Int)))) g10 g11 g12 g13 g14 g15 g16 g17 g18 g19 g20 g21 g22 g23)), PUnit.unit) fun kg =>
 cS ((↑f4 : Int) > (0 : Int))
 (gS ((↑f4 : Int) ≠ (0 : Int)) <|
 gS ((0 : Int) ≤ shut (f10.tmod (↑f4 : Int)) ∧ shut (f10.tmod (↑f4 : Int)) < (↑f4 : Int)) <|
 guardO (shut !(false && f4.beq (0 : Nat))) <|
 gS ((shut (f10.tmod (↑f4 : Int))).toNat * 1 + 1 ≤ f5.length) <|
 kg.1 f1 f2 f3 f4 (putCells f5 ((shut (f10.tmod (↑f4 : Int))).toNat * 1) [AV.flo Go.FloatKind.f32 (shut (clean1 f0))]) f6 f7 f8 f9 f10 f11 f12 f13 f14 f15 f16 f17 f18 f19 f20 f21 f22 f23 f24)
 (kg.1 f1 f2 f3 f4 f5 f6 f7 f8 f9 f10 f11 f12 f13 f14 f15 f16 f17 f18 f19 f20 f21 f22 f23 f24)), PUnit.unit) fun kf =>
 condO v16
 (kf.1 v14 false x7 x8 x9 x10 x11 x12 x13 x14 x15 (shut (IntKind.i64.wrap (x16 + (1 : Int)))) x17 x18 x19 x20 x21 x22 x23 x24 x25 x26 x27 x28 x29)
 (kf.1 v14 false x7 x8 x9 x10 x11 x12 x13 x14 x15 x16 x17 x18 x19 x20 x21 x22 x23 x24 x25 x26 x27 x28 x29)))
 (ra x0 x1 x2 x3 x5 (shut (IntKind.i64.wrap (x6 + (1 : Int)))) x7 x8 x9 x10 x11 x12 x13 x14 x15 x16 x17 x18 x19 x20 x21 x22 x23 x24 x25 x26 x27 x28 x29)))
noncomputable def stepO36 (N : Nat) (r8 : TN36) (r9 : TO36) (ra : RN36) (rb : RO36) : TO36 :=
 (fun x0 x1 x2 x3 x4 x5 x6 x7 x8 x9 x10 x11 x12 x13 x14 x15 x16 x17 x18 x19 x20 x21 x22 x23 x24 x25 x26 x27 x28 x29 x30 x31 x32 x33 x34 x35 =>
 bindO (
 cS ((↑x2 : Int) > (0 : Int))
 (gS ((0 : Int) ≤ (0 : Int) ∧ (0 : Int) < (↑x2 : Int) ∧ 0 < x3.length) <|
 bindO (asInt IntKind.i64 (x3.getD 0 AV.top)) fun v12 =>
 some (shut (v12 == x4)))
 (some false)) fun v9 =>
 condO v9
 (condO (shut (x12 == (0 : Int)))
 (gS ((0 : Int) ≤ (1 : Int) ∧ (1 : Int) ≤ (↑x2 : Int) ∧ (↑x2 : Int) ≤ (↑x2 : Int)) <|
 gS (x2 * 1 = x3.length) <|
 r9 x0 x1 ((↑x2 : Int).toNat - 1) (List.take (((↑x2 : Int).toNat - 1) * 1) (List.drop 1 x3)) x4 x5 x6 x7 x8 x9 x10 x11 x12 x13 x14 x15 x16 x17 x18 x19 x20 x21 x22 x23 x24 x25 x26 x27 x28 x29 x30 x31 x32 x33 x34 x35)
 (cS ((↑x28 : Int) ≥ (64 : Int))
 (gS ((0 : Int) ≤ (1 : Int) ∧ (1 : Int) ≤ (↑x2 : Int) ∧ (↑x2 : Int) ≤ (↑x2 : Int)) <|
 gS (x2 * 1 = x3.length) <|
 r9 x0 x1 ((↑x2 : Int).toNat - 1) (List.take (((↑x2 : Int).toNat - 1) * 1) (List.drop 1 x3)) x4 x5 x6 x7 x8 x9 x10 x11 x12 x13 x14 x15 x16 x17 x18 x19 x20 x21 x22 x23 x24 x25 x26 x27 x28 x29 x30 x31 x32 x33 x34 x35)
 (gS ((0 : Int) ≤ (1 : Int) ∧ (1 : Int) ≤ (↑x2 : Int) ∧ (↑x2 : Int) ≤ (↑x2 : Int)) <|
 gS (x2 * 1 = x3.length) <|
 r8 x0 x1 ((↑x2 : Int).toNat - 1) (List.take (((↑x2 : Int).toNat - 1) * 1) (List.drop 1 x3)) x4 x5 x6 x7 x8 x9 (zrow (ofV (Go.Value.float Go.FloatKind.f32 0)).cells (x9 * 1)) x11 x12 x13 x14 x15 x16 x17 x15 ((0 : Int)) x20 x21 x22 x23 x24 x25 x26 x27 x28 x29)))
 (cS (x4 < (↑x22 : Int))
 (gS ((0 : Int) ≤ x4 ∧ x4 < (↑x22 : Int)) <|
 guardO (shut !(false && x22.beq (0 : Nat))) <|
 bindO (asFloat Go.FloatKind.f32 (x23.getD (x4.toNat * 1) AV.top)) fun v14 =>
 gS ((0 : Int) ≤ x4 ∧ x4 < (↑x0 : Int) ∧ 0 < x1.length) <|
 bindO (asBool (x1.getD (x4.toNat * 1) AV.top)) fun v16 =>
 condO v16
 (bindO (accO N) fun v18 =>
 bindO (asBool v18) fun v19 =>
 condO v19
 (bindO (
 lastD x28 x29) fun v21 =>
 bindO (asInt IntKind.i64 v21) fun v22 =>
 gS ((0 : Int) ≤ x11 ∧ x11 ≤ shut (IntKind.i64.wrap (x11 + x12)) ∧ shut (IntKind.i64.wrap (x11 + x12)) ≤ (281474976710656 : Int) ∧ (↑4 : Int) * shut (IntKind.i64.wrap (x11 + x12)) ≤ (281474976710656 : Int)) <|
 joinC N (
 (fun (a0 : Nat) (a1 : List AV) (a2 : Nat) (a3 : List AV) (a4 : Int) (a5 : Int) (a6 : Int) (a7 : Int) (a8 : Int) (a9 : Int) (a10 : Int) (a11 : Int) (a12 : Int) (a13 : Nat) (a14 : List AV) (a15 : Nat) (a16 : List AV) (a17 : Nat) (a18 : List AV) (a19 : Nat) (a20 : List AV) (a21 : Nat) (a22 : List AV) (a23 : Int) (a24 : Int) (a25 : Int) (a26 : Int) (a27 : Nat) (a28 : List AV) (a29 : Int) (a30 : Int) (a31 : Int) (a32 : Int) (a33 : Nat) (a34 : List AV) =>
 joinC N (
 (fun (b0 : Option Nat) (b1 : Bool) (b2 : Nat) (b3 : List AV) (b4 : Nat) (b5 : List AV) (b6 : Int) (b7 : Int) (b8 : Int) (b9 : Int) (b10 : Int) (b11 : Int) (b12 : Int) (b13 : Int) (b14 : Int) (b15 : Nat) (b16 : List AV) (b17 : Nat) (b18 : List AV) (b19 : Nat) (b20 : List AV) (b21 : Nat) (b22 : List AV) (b23 : Nat) (b24 : List AV) (b25 : Int) (b26 : Int) (b27 : Int) (b28 : Int) (b29 : Nat) (b30 : List AV) (b31 : Int) (b32 : Int) (b33 : Int) (b34 : Int) (b35 : Nat) (b36 : List AV) =>
 gS ((b35 + 1) * 5 ≤ 549755813888) <|
 joinC N (
 (fun (c0 : Bool) (c1 : Nat) (c2 : List AV) (c3 : Nat) (c4 : List AV) (c5 : Int) (c6 : Int) (c7 : Int) (c8 : Int) (c9 : Int) (c10 : Int) (c11 : Int) (c12 : Int) (c13 : Int) (c14 : Nat) (c15 : List AV) (c16 : Nat) (c17 : List AV) (c18 : Nat) (c19 : List AV) (c20 : Nat) (c21 : List AV) (c22 : Nat) (c23 : List AV) (c24 : Int) (c25 : Int) (c26 : Int) (c27 : Int) (c28 : Nat) (c29 : List AV) (c30 : Int) (c31 : Int) (c32 : Int) (c33 : Int) (c34 : Nat) (c35 : List AV) (c36 : Nat) (c37 : List AV) =>
 condO (shut ((↑c34 : Int) == shut (IntKind.i64.wrap (c5 + c6))))
 (gS ((c22 + 1) * 57 ≤ 549755813888) <|
 condO c0
 (gS ((c20 + 1) * 9 ≤ 549755813888) <|
 ra x0 x1 x2 x3 x5 (shut (IntKind.i64.wrap (x6 + (1 : Int)))) c1 c2 c3 c4 c5 c6 c7 c8 (shut (IntKind.i64.wrap (c9 + (1 : Int)))) c10 (shut (IntKind.i64.wrap (c11 + shut (IntKind.i64.wrap (c33 + (1 : Int)))))) c12 (shut (IntKind.i64.wrap (c13 + (1 : Int)))) c14 c15 c16 c17 c18 c19 (c20 + 1) (c21 ++ putCells (zrow (ofV (Go.Value.int IntKind.i64 (0 : Int))).cells 1) 0 [AV.int IntKind.i64 x4]) (c22 + 1) (c23 ++ putCells (zrow (ofV (Go.Value.agg #[Go.Value.int IntKind.i64 (0 : Int), Go.Value.int IntKind.i64 (0 : Int), Go.Value.slice Option.none 0 0, Go.Value.int IntKind.i64 (0 : Int), Go.Value.int IntKind.i64 (0 : Int)])).cells 5) 0 [AV.int IntKind.i64 c30, AV.int IntKind.i64 c31, AV.list c34 c35, AV.int IntKind.i64 c32, AV.int IntKind.i64 c33]))
 (ra x0 x1 x2 x3 x5 (shut (IntKind.i64.wrap (x6 + (1 : Int)))) c1 c2 c3 c4 c5 c6 c7 c8 (shut (IntKind.i64.wrap (c9 + (1 : Int)))) c10 (shut (IntKind.i64.wrap (c11 + shut (IntKind.i64.wrap (c33 + (1 : Int)))))) c12 (shut (IntKind.i64.wrap (c13 + (1 : Int)))) c14 c15 c16 c17 c18 c19 c20 c21 (c22 + 1) (c23 ++ putCells (zrow (ofV (Go.Value.agg #[Go.Value.int IntKind.i64 (0 : Int), Go.Value.int IntKind.i64 (0 : Int), Go.Value.slice Option.none 0 0, Go.Value.int IntKind.i64 (0 : Int), Go.Value.int IntKind.i64 (0 : Int)])).cells 5) 0 [AV.int IntKind.i64 c30, AV.int IntKind.i64 c31, AV.list c34 c35, AV.int IntKind.i64 c32, AV.int IntKind.i64 c33])))
 (condO c0
 (gS ((c20 + 1) * 9 ≤ 549755813888) <|
 rb x0 x1 x2 x3 x5 (shut (IntKind.i64.wrap (x6 + (1 : Int)))) c1 c2 c3 c4 c5 c6 c7 c8 (shut (IntKind.i64.wrap (c9 + (1 : Int)))) c10 c11 c12 c13 c14 c15 c16 c17 c18 c19 (c20 + 1) (c21 ++ putCells (zrow (ofV (Go.Value.int IntKind.i64 (0 : Int))).cells 1) 0 [AV.int IntKind.i64 x4]) c22 c23 c30 c31 c32 c33 c34 c35)
 (rb x0 x1 x2 x3 x5 (shut (IntKind.i64.wrap (x6 + (1 : Int)))) c1 c2 c3 c4 c5 c6 c7 c8 (shut (IntKind.i64.wrap (c9 + (1 : Int)))) c10 c11 c12 c13 c14 c15 c16 c17 c18 c19 c20 c21 c22 c23 c30 c31 c32 c33 c34 c35))), PUnit.unit) fun kc =>
 cS ((↑b4 : Int) > (0 : Int))
 (gS ((↑b4 : Int) ≠ (0 : Int)) <|
 gS ((0 : Int) ≤ shut (b10.tmod (↑b4 : Int)) ∧ shut (b10.tmod (↑b4 : Int)) < (↑b4 : Int)) <|
 guardO (shut !(false && b4.beq (0 : Nat))) <|
 gS ((shut (b10.tmod (↑b4 : Int))).toNat * 1 + 1 ≤ b5.length) <|
 kc.1 b1 b2 b3 b4 (putCells b5 ((shut (b10.tmod (↑b4 : Int))).toNat * 1) [AV.flo Go.FloatKind.f32 (shut (clean1 b0))]) b6 b7 b8 b9 b10 b11 b12 b13 b14 b15 b16 b17 b18 b19 b20 b21 b22 b23 b24 b25 b26 b27 b28 b29 b30 b31 b32 b33 b34 (b35 + 1) (b36 ++ putCells (zrow (ofV (Go.Value.float Go.FloatKind.f32 0)).cells 1) 0 [AV.flo Go.FloatKind.f32 (shut (clean1 b0))]) 1 (putCells (zrow (ofV (Go.Value.float Go.FloatKind.f32 0)).cells 1) 0 [AV.flo Go.FloatKind.f32 (shut (clean1 b0))]))
 (kc.1 b1 b2 b3 b4 b5 b6 b7 b8 b9 b10 b11 b12 b13 b14 b15 b16 b17 b18 b19 b20 b21 b22 b23 b24 b25 b26 b27 b28 b29 b30 b31 b32 b33 b34 (b35 + 1) (b36 ++ putCells (zrow (ofV (Go.Value.float Go.FloatKind.f32 0)).cells 1) 0 [AV.flo Go.FloatKind.f32 (shut (clean1 b0))]) 1 (putCells (zrow (ofV (Go.Value.float Go.FloatKind.f32 0)).cells 1) 0 [AV.flo Go.FloatKind.f32 (shut (clean1 b0))]))), PUnit.unit) fun kb =>
 condO v16
 (kb.1 v14 v19 a0 a1 a2 a3 a4 a5 a6 a7 a8 (shut (IntKind.i64.wrap (a9 + (1 : Int)))) a10 a11 a12 a13 a14 a15 a16 a17 a18 a19 a20 a21 a22 a23 a24 a25 a26 a27 a28 a29 a30 a31 a32 a33 a34)
 (kb.1 v14 v19 a0 a1 a2 a3 a4 a5 a6 a7 a8 a9 a10 a11 a12 a13 a14 a15 a16 a17 a18 a19 a20 a21 a22 a23 a24 a25 a26 a27 a28 a29 a30 a31 a32 a33 a34)), PUnit.unit) fun ka =>
 cS ((↑x9 : Int) > (0 : Int))
 (gS ((↑x9 : Int) ≠ (0 : Int)) <|
 gS ((0 : Int) ≤ shut (x15.tmod (↑x9 : Int)) ∧ shut (x15.tmod (↑x9 : Int)) ≤ (↑x9 : Int) ∧ (↑x9 : Int) ≤ (↑x9 : Int)) <|
 gS ((0 : Int) ≤ shut (↑(((↑x9 : Int).toNat - (shut (x15.tmod (↑x9 : Int))).toNat).min x11.toNat) : Int) ∧ shut (↑(((↑x9 : Int).toNat - (shut (x15.tmod (↑x9 : Int))).toNat).min x11.toNat) : Int) ≤ (↑x11.toNat : Int) ∧ (↑x11.toNat : Int) ≤ (↑x11.toNat : Int)) <|
 gS ((↑x9 : Int) ≠ (0 : Int)) <|
 gS ((0 : Int) ≤ (0 : Int) ∧ (0 : Int) ≤ shut (x15.tmod (↑x9 : Int)) ∧ shut (x15.tmod (↑x9 : Int)) ≤ (↑x9 : Int)) <|
 ka.1 x7 x8 x9 x10 x11 x12 x13 x14 x15 x16 x17 x18 x19 x20 x21 x22 x23 x24 x25 x26 x27 x28 x29 x30 x31 x32 x33 x34 x35 (shut (IntKind.i64.wrap (x15 - x11))) x15 (shut (IntKind.i64.wrap (shut (IntKind.i64.wrap (x15 - x11)) - v22))) (shut (IntKind.i64.wrap (x16 - x17))) (x11.toNat) (putCells (putCells (zrow (ofV (Go.Value.float Go.FloatKind.f32 0)).cells (x11.toNat * 1)) 0 (List.take (((↑x9 : Int).toNat - (shut (x15.tmod (↑x9 : Int))).toNat).min x11.toNat * 1) (List.take (((↑x9 : Int).toNat - (shut (x15.tmod (↑x9 : Int))).toNat) * 1) (List.drop ((shut (x15.tmod (↑x9 : Int))).toNat * 1) x10)))) ((shut (↑(((↑x9 : Int).toNat - (shut (x15.tmod (↑x9 : Int))).toNat).min x11.toNat) : Int)).toNat * 1) (List.take (((shut (x15.tmod (↑x9 : Int))).toNat - 0).min ((↑x11.toNat : Int).toNat - (shut (↑(((↑x9 : Int).toNat - (shut (x15.tmod (↑x9 : Int))).toNat).min x11.toNat) : Int)).toNat) * 1) (List.take (((shut (x15.tmod (↑x9 : Int))).toNat - 0) * 1) (List.drop 0 x10)))))
 (ka.1 x7 x8 x9 x10 x11 x12 x13 x14 x15 x16 x17 x18 x19 x20 x21 x22 x23 x24 x25 x26 x27 x28 x29 x30 x31 x32 x33 x34 x35 (shut (IntKind.i64.wrap (x15 - x11))) x15 (shut (IntKind.i64.wrap (shut (IntKind.i64.wrap (x15 - x11)) - v22))) (shut (IntKind.i64.wrap (x16 - x17))) (x11.toNat) (zrow (ofV (Go.Value.float Go.FloatKind.f32 0)).cells (x11.toNat * 1))))
 (joinC N (
 (fun (d0 : Option Nat) (d1 : Bool) (d2 : Nat) (d3 : List AV) (d4 : Nat) (d5 : List AV) (d6 : Int) (d7 : Int) (d8 : Int) (d9 : Int) (d10 : Int) (d11 : Int) (d12 : Int) (d13 : Int) (d14 : Int) (d15 : Nat) (d16 : List AV) (d17 : Nat) (d18 : List AV) (d19 : Nat) (d20 : List AV) (d21 : Nat) (d22 : List AV) (d23 : Nat) (d24 : List AV) (d25 : Int) (d26 : Int) (d27 : Int) (d28 : Int) (d29 : Nat) (d30 : List AV) =>
 gS ((d29 + 1) * 5 ≤ 549755813888) <|
 joinC N (
 (fun (e0 : Bool) (e1 : Nat) (e2 : List AV) (e3 : Nat) (e4 : List AV) (e5 : Int) (e6 : Int) (e7 : Int) (e8 : Int) (e9 : Int) (e10 : Int) (e11 : Int) (e12 : Int) (e13 : Int) (e14 : Nat) (e15 : List AV) (e16 : Nat) (e17 : List AV) (e18 : Nat) (e19 : List AV) (e20 : Nat) (e21 : List AV) (e22 : Nat) (e23 : List AV) (e24 : Int) (e25 : Int) (e26 : Int) (e27 : Int) (e28 : Nat) (e29 : List AV) (e30 : Nat) (e31 : List AV) =>
 condO (shut ((↑e28 : Int) == shut (IntKind.i64.wrap (e5 + e6))))
 (gS ((e22 + 1) * 57 ≤ 549755813888) <|
 condO e0
 (gS ((e20 + 1) * 9 ≤ 549755813888) <|
 ra x0 x1 x2 x3 x5 (shut (IntKind.i64.wrap (x6 + (1 : Int)))) e1 e2 e3 e4 e5 e6 e7 e8 (shut (IntKind.i64.wrap (e9 + (1 : Int)))) e10 (shut (IntKind.i64.wrap (e11 + shut (IntKind.i64.wrap (e27 + (1 : Int)))))) e12 (shut (IntKind.i64.wrap (e13 + (1 : Int)))) e14 e15 e16 e17 e18 e19 (e20 + 1) (e21 ++ putCells (zrow (ofV (Go.Value.int IntKind.i64 (0 : Int))).cells 1) 0 [AV.int IntKind.i64 x4]) (e22 + 1) (e23 ++ putCells (zrow (ofV (Go.Value.agg #[Go.Value.int IntKind.i64 (0 : Int), Go.Value.int IntKind.i64 (0 : Int), Go.Value.slice Option.none 0 0, Go.Value.int IntKind.i64 (0 : Int), Go.Value.int IntKind.i64 (0 : Int)])).cells 5) 0 [AV.int IntKind.i64 e24, AV.int IntKind.i64 e25, AV.list e28 e29, AV.int IntKind.i64 e26, AV.int IntKind.i64 e27]))
 (ra x0 x1 x2 x3 x5 (shut (IntKind.i64.wrap (x6 + (1 : Int)))) e1 e2 e3 e4 e5 e6 e7 e8 (shut (IntKind.i64.wrap (e9 + (1 : Int)))) e10 (shut (IntKind.i64.wrap (e11 + shut (IntKind.i64.wrap (e27 + (1 : Int)))))) e12 (shut (IntKind.i64.wrap (e13 + (1 : Int)))) e14 e15 e16 e17 e18 e19 e20 e21 (e22 + 1) (e23 ++ putCells (zrow (ofV (Go.Value.agg #[Go.Value.int IntKind.i64 (0 : Int), Go.Value.int IntKind.i64 (0 : Int), Go.Value.slice Option.none 0 0, Go.Value.int IntKind.i64 (0 : Int), Go.Value.int IntKind.i64 (0 : Int)])).cells 5) 0 [AV.int IntKind.i64 e24, AV.int IntKind.i64 e25, AV.list e28 e29, AV.int IntKind.i64 e26, AV.int IntKind.i64 e27])))
 (condO e0
 (gS ((e20 + 1) * 9 ≤ 549755813888) <|
 rb x0 x1 x2 x3 x5 (shut (IntKind.i64.wrap (x6 + (1 : Int)))) e1 e2 e3 e4 e5 e6 e7 e8 (shut (IntKind.i64.wrap (e9 + (1 : Int)))) e10 e11 e12 e13 e14 e15 e16 e17 e18 e19 (e20 + 1) (e21 ++ putCells (zrow (ofV (Go.Value.int IntKind.i64 (0 : Int))).cells 1) 0 [AV.int IntKind.i64 x4]) e22 e23 e24 e25 e26 e27 e28 e29)
 (rb x0 x1 x2 x3 x5 (shut (IntKind.i64.wrap (x6 + (1 : Int)))) e1 e2 e3 e4 e5 e6 e7 e8 (shut (IntKind.i64.wrap (e9 + (1 : Int)))) e10 e11 e12 e13 e14 e15 e16 e17 e18 e19 e20 e21 e22 e23 e24 e25 e26 e27 e28 e29))), PUnit.unit) fun ke =>
 cS ((↑d4 : Int) > (0 : Int))
 (gS ((↑d4 : Int) ≠ (0 : Int)) <|
 gS ((0 : Int) ≤ shut (d10.tmod (↑d4 : Int)) ∧ shut (d10.tmod (↑d4 : Int)) < (↑d4 : Int)) <|
 guardO (shut !(false && d4.beq (0 : Nat))) <|
 gS ((shut (d10.tmod (↑d4 : Int))).toNat * 1 + 1 ≤ d5.length) <|
 ke.1 d1 d2 d3 d4 (putCells d5 ((shut (d10.tmod (↑d4 : Int))).toNat * 1) [AV.flo Go.FloatKind.f32 (shut (clean1 d0))]) d6 d7 d8 d9 d10 d11 d12 d13 d14 d15 d16 d17 d18 d19 d20 d21 d22 d23 d24 d25 d26 d27 d28 (d29 + 1) (d30 ++ putCells (zrow (ofV (Go.Value.float Go.FloatKind.f32 0)).cells 1) 0 [AV.flo Go.FloatKind.f32 (shut (clean1 d0))]) 1 (putCells (zrow (ofV (Go.Value.float Go.FloatKind.f32 0)).cells 1) 0 [AV.flo Go.FloatKind.f32 (shut (clean1 d0))]))
 (ke.1 d1 d2 d3 d4 d5 d6 d7 d8 d9 d10 d11 d12 d13 d14 d15 d16 d17 d18 d19 d20 d21 d22 d23 d24 d25 d26 d27 d28 (d29 + 1) (d30 ++ putCells (zrow (ofV (Go.Value.float Go.FloatKind.f32 0)).cells 1) 0 [AV.flo Go.FloatKind.f32 (shut (clean1 d0))]) 1 (putCells (zrow (ofV (Go.Value.float Go.FloatKind.f32 0)).cells 1) 0 [AV.flo Go.FloatKind.f32 (shut (clean1 d0))]))), PUnit.unit) fun kd =>
 condO v16
 (kd.1 v14 v19 x7 x8 x9 x10 x11 x12 x13 x14 x15 (shut (IntKind.i64.wrap (x16 + (1 : Int)))) x17 x18 x19 x20 x21 x22 x23 x24 x25 x26 x27 x28 x29 x30 x31 x32 x33 x34 x35)
 (kd.1 v14 v19 x7 x8 x9 x10 x11 x12 x13 x14 x15 x16 x17 x18 x19 x20 x21 x22 x23 x24 x25 x26 x27 x28 x29 x30 x31 x32 x33 x34 x35)))
 (joinC N (
 (fun (f0 : Option Nat) (f1 : Bool) (f2 : Nat) (f3 : List AV) (f4 : Nat) (f5 : List AV) (f6 : Int) (f7 : Int) (f8 : Int) (f9 : Int) (f10 : Int) (f11 : Int) (f12 : Int) (f13 : Int) (f14 : Int) (f15 : Nat) (f16 : List AV) (f17 : Nat) (f18 : List AV) (f19 : Nat) (f20 : List AV) (f21 : Nat) (f22 : List AV) (f23 : Nat) (f24 : List AV) (f25 : Int) (f26 : Int) (f27 : Int) (f28 : Int) (f29 : Nat) (f30 : List AV) =>
 gS ((f29 + 1) * 5 ≤ 549755813888) <|
 joinC N (
 (fun (g0 : Bool) (g1 : Nat) (g2 : List AV) (g3 : Nat) (g4 : List AV) (g5 : Int) (g6 : Int) (g7 : Int) (g8 : Int) (g9 : Int) (g10 : Int) (g11 : Int) (g12 : Int) (g13 : Int) (g14 : Nat) (g15 : List AV) (g16 : Nat) (g17 : List AV) (g18 : Nat) (g19 : List AV) (g20 : Nat) (g21 : List AV) (g22 : Nat) (g23 : List AV) (g24 : Int) (g25 : Int) (g26 : Int) (g27 : Int) (g28 : Nat) (g29 : List AV) (g30 : Nat) (g31 : List AV) =>
 condO (shut ((↑g28 : Int) == shut (IntKind.i64.wrap (g5 + g6))))
 (gS ((g22 + 1) * 57 ≤ 549755813888) <|
 condO g0
 (gS ((g20 + 1) * 9 ≤ 549755813888) <|
 ra x0 x1 x2 x3 x5 (shut (IntKind.i64.wrap (x6 + (1 : Int)))) g1 g2 g3 g4 g5 g6 g7 g8 (shut (IntKind.i64.wrap (g9 + (1 : Int)))) g10 (shut (IntKind.i64.wrap (g11 + shut (IntKind.i64.wrap (g27 + (1 : Int)))))) g12 (shut (IntKind.i64.wrap (g13 + (1 : Int)))) g14 g15 g16 g17 g18 g19 (g20 + 1) (g21 ++ putCells (zrow (ofV (Go.Value.int IntKind.i64 (0 : Int))).cells 1) 0 [AV.int IntKind.i64 x4]) (g22 + 1) (g23 ++ putCells (zrow (ofV (Go.Value.agg #[Go.Value.int IntKind.i64 (0 : Int), Go.Value.int IntKind.i64 (0 : Int), Go.Value.slice Option.none 0 0, Go.Value.int IntKind.i64 (0 : Int), Go.Value.int IntKind.i64 (0 : Int)])).cells 5) 0 [AV.int IntKind.i64 g24, AV.int IntKind.i64 g25, AV.list g28 g29, AV.int IntKind.i64 g26, AV.int IntKind.i64 g27]))
 (ra x0 x1 x2 x3 x5 (shut (IntKind.i64.wrap (x6 + (1 : Int)))) g1 g2 g3 g4 g5 g6 g7 g8 (shut (IntKind.i64.wrap (g9 + (1 : Int)))) g10 (shut (IntKind.i64.wrap (g11 + shut (IntKind.i64.wrap (g27 + (1 : Int)))))) g12 (shut (IntKind.i64.wrap (g13 + (1 : Int)))) g14 g15 g16 g17 g18 g19 g20 g21 (g22 + 1) (g23 ++ putCells (zrow (ofV (Go.Value.agg #[Go.Value.int IntKind.i64 (0 : Int), Go.Value.int IntKind.i64 (0 : Int), Go.Value.slice Option.none 0 0, Go.Value.int IntKind.i64 (0 : Int), Go.Value.int IntKind.i64 (0 : Int)])).cells 5) 0 [AV.int IntKind.i64 g24, AV.int IntKind.i64 g25, AV.list g28 g29, AV.int IntKind.i64 g26, AV.int IntKind.i64 g27])))
 (condO g0
 (gS ((g20 + 1) * 9 ≤ 549755813888) <|
 rb x0 x1 x2 x3 x5 (shut (IntKind.i64.wrap (x6 + (1 : Int)))) g1 g2 g3 g4 g5 g6 g7 g8 (shut (IntKind.i64.wrap (g9 + (1 : Int)))) g10 g11 g12 g13 g14 g15 g16 g17 g18 g19 (g20 + 1) (g21 ++ putCells (zrow (ofV (Go.Value.int IntKind.i64 (0 : Int))).cells 1) 0 [AV.int IntKind.i64 x4]) g22 g23 g24 g25 g26 g27 g28 g29)
 (rb x0 x1 x2 x3 x5 (shut (IntKind.i64.wrap (x6 + (1 : Int)))) g1 g2 g3 g4 g5 g6 g7 g8 (shut (IntKind.i64.wrap (g9 + (1 : Int)))) g10 g11 g12 g13 g14 g15 g16 g17 g18 g19 g20 g21 g22 g23 g24 g25 g26 g27 g28 g29))), PUnit.unit) fun kg =>
 cS ((↑f4 : Int) > (0 : Int))
 (gS ((↑f4 : Int) ≠ (0 : Int)) <|
 gS ((0 : Int) ≤ shut (f10.tmod (↑f4 : Int)) ∧ shut (f10.tmod (↑f4 : Int)) < (↑f4 : Int)) <|
 guardO (shut !(false && f4.beq (0 : Nat))) <|
 gS ((shut (f10.tmod (↑f4 : Int))).toNat * 1 + 1 ≤ f5.length) <|
 kg.1 f1 f2 f3 f4 (putCells f5 ((shut (f10.tmod (↑f4 : Int))).toNat * 1) [AV.flo Go.FloatKind.f32 (shut (clean1 f0))]) f6 f7 f8 f9 f10 f11 f12 f13 f14 f15 f16 f17 f18 f19 f20 f21 f22 f23 f24 f25 f26 f27 f28 (f29 + 1) (f30 ++ putCells (zrow (ofV (Go.Value.float Go.FloatKind.f32 0)).cells 1) 0 [AV.flo Go.FloatKind.f32 (shut (clean1 f0))]) 1 (putCells (zrow (ofV (Go.Value.float Go.FloatKind.f32 0)).cells 1) 0 [AV.flo Go.FloatKind.f32 (shut (clean1 f0))]))
 (kg.1 f1 f2 f3 f4 f5 f6 f7 f8 f9 f10 f11 f12 f13 f14 f15 f16 f17 f18 f19 f20 f21 f22 f23 f24 f25 f26 f27 f28 (f29 + 1) (f30 ++ putCells (zrow (ofV (Go.Value.float Go.FloatKind.f32 0)).cells 1) 0 [AV.flo Go.FloatKind.f32 (shut (clean1 f0))]) 1 (putCells (zrow (ofV (Go.Value.float Go.FloatKind.f32 0)).cells 1) 0 [AV.flo Go.FloatKind.f32 (shut (clean1 f0))]))), PUnit.unit) fun kf =>
 condO v16
 (kf.1 v14 false x7 x8 x9 x10 x11 x12 x13 x14 x15 (shut (IntKind.i64.wrap (x16 + (1 : Int)))) x17 x18 x19 x20 x21 x22 x23 x24 x25 x26 x27 x28 x29 x30 x31 x32 x33 x34 x35)
 (kf.1 v14 false x7 x8 x9 x10 x11 x12 x13 x14 x15 x16 x17 x18 x19 x20 x21 x22 x23 x24 x25 x26 x27 x28 x29 x30 x31 x32 x33 x34 x35)))
 (rb x0 x1 x2 x3 x5 (shut (IntKind.i64.wrap (x6 + (1 : Int)))) x7 x8 x9 x10 x11 x12 x13 x14 x15 x16 x17 x18 x19 x20 x21 x22 x23 x24 x25 x26 x27 x28 x29 x30 x31 x32 x33 x34 x35)))
noncomputable def outF36 (N : Nat) (r_6 : RN36 × RO36 × PUnit.{1}) : RN36 × RO36 × PUnit.{1} :=
 (
 (fun x0 x1 x2 x3 x4 x5 x6 x7 x8 x9 x10 x11 x12 x13 x14 x15 x16 x17 x18 x19 x20 x21 x22 x23 x24 x25 x26 x27 x28 =>
 cS (x5 < x4)
 ((loopC N (fun (r_8 : TN36 × PUnit.{1}) => (
 stepN36 N r_8.1 r_6.1 r_6.2.1, PUnit.unit))
 ((fun _ _ _ _ _ _ _ _ _ _ _ _ _ _ _ _ _ _ _ _ _ _ _ _ _ _ _ _ _ _ => none), PUnit.unit)).1 x0 x1 x2 x3 x5 x4 x5 x6 x7 x8 x9 x10 x11 x12 x13 x14 x15 x16 x17 x18 x19 x20 x21 x22 x23 x24 x25 x26 x27 x28)
 (some ([RLeaf.fz x25 x26, RLeaf.v (AV.int IntKind.i64 (0 : Int))]))),
 (fun x0 x1 x2 x3 x4 x5 x6 x7 x8 x9 x10 x11 x12 x13 x14 x15 x16 x17 x18 x19 x20 x21 x22 x23 x24 x25 x26 x27 x28 x29 x30 x31 x32 x33 x34 =>
 cS (x5 < x4)
 ((loopC N (fun (r_8 : TN36 × TO36 × PUnit.{1}) => (
 stepN36 N r_8.1 r_6.1 r_6.2.1,
 stepO36 N r_8.1 r_8.2.1 r_6.1 r_6.2.1, PUnit.unit))
 ((fun _ _ _ _ _ _ _ _ _ _ _ _ _ _ _ _ _ _ _ _ _ _ _ _ _ _ _ _ _ _ => none), (fun _ _ _ _ _ _ _ _ _ _ _ _ _ _ _ _ _ _ _ _ _ _ _ _ _ _ _ _ _ _ _ _ _ _ _ _ => none), PUnit.unit)).2.1 x0 x1 x2 x3 x5 x4 x5 x6 x7 x8 x9 x10 x11 x12 x13 x14 x15 x16 x17 x18 x19 x20 x21 x22 x23 x24 x25 x26 x27 x28 x29 x30 x31 x32 x33 x34)
 (some ([RLeaf.fz x25 x26, RLeaf.v (AV.int IntKind.i64 (0 : Int))]))), PUnit.unit)
theorem run_36 (N : Nat) (pre post hold segs : Int) (m : Nat) (fs : List AV) (q : Nat) (ar : List AV) : (fsW tzx waysN N 12).call (List RLeaf) 36 [.s (.agg [.b (.int .i64 pre), .b (.int .i64 post), .b (.int .i64 hold), .b (.int .i64 segs)]), .ofB (.list m fs), .ofB (.list q ar)] [] (resK [true, false]) = (
 condO (shut (shut (setupE pre post hold segs) != (0 : Int)))
 (gS (Ints q ar) <|
 gS (Ints 3 (putCells (putCells (putCells (zrow (ofV (Go.Value.int IntKind.i64 (0 : Int))).cells 3) 0 [AV.int IntKind.i64 (shut (setupE pre post hold segs))]) 1 [AV.int IntKind.i64 (shut (if shut (decide ((↑m : Int) > (4096 : Int))) = true then (5 : Int) else (0 : Int)))]) 2 [AV.int IntKind.i64 (shut (armsE q (intsOf ar) (↑m : Int)))])) <|
 condO (shut (shut (firstNZ (intsOf (putCells (putCells (putCells (zrow (ofV (Go.Value.int IntKind.i64 (0 : Int))).cells 3) 0 [AV.int IntKind.i64 (shut (setupE pre post hold segs))]) 1 [AV.int IntKind.i64 (shut (if shut (decide ((↑m : Int) > (4096 : Int))) = true then (5 : Int) else (0 : Int)))]) 2 [AV.int IntKind.i64 (shut (armsE q (intsOf ar) (↑m : Int)))]))) != (0 : Int)))
 (some ([RLeaf.fz 0 [], RLeaf.v (AV.int IntKind.i64 (shut (firstNZ (intsOf (putCells (putCells (putCells (zrow (ofV (Go.Value.int IntKind.i64 (0 : Int))).cells 3) 0 [AV.int IntKind.i64 (shut (setupE pre post hold segs))]) 1 [AV.int IntKind.i64 (shut (if shut (decide ((↑m : Int) > (4096 : Int))) = true then (5 : Int) else (0 : Int)))]) 2 [AV.int IntKind.i64 (shut (armsE q (intsOf ar) (↑m : Int)))])))))]))
 (gS ((0 : Int) ≤ (↑m : Int) ∧ (↑m : Int) ≤ (↑m : Int) ∧ (↑m : Int) ≤ (281474976710656 : Int) ∧ (↑4 : Int) * (↑m : Int) ≤ (281474976710656 : Int)) <|
 none))
 (gS ((0 : Int) ≤ pre ∧ pre ≤ pre ∧ pre ≤ (281474976710656 : Int) ∧ (↑4 : Int) * pre ≤ (281474976710656 : Int)) <|
 gS (Ints q ar) <|
 gS (Ints 3 (putCells (putCells (putCells (zrow (ofV (Go.Value.int IntKind.i64 (0 : Int))).cells 3) 0 [AV.int IntKind.i64 (0 : Int)]) 1 [AV.int IntKind.i64 (shut (if shut (decide ((↑m : Int) > (4096 : Int))) = true then (5 : Int) else (0 : Int)))]) 2 [AV.int IntKind.i64 (shut (armsE q (intsOf ar) (↑m : Int)))])) <|
 condO (shut (shut (firstNZ (intsOf (putCells (putCells (putCells (zrow (ofV (Go.Value.int IntKind.i64 (0 : Int))).cells 3) 0 [AV.int IntKind.i64 (0 : Int)]) 1 [AV.int IntKind.i64 (shut (if shut (decide ((↑m : Int) > (4096 : Int))) = true then (5 : Int) else (0 : Int)))]) 2 [AV.int IntKind.i64 (shut (armsE q (intsOf ar) (↑m : Int)))]))) != (0 : Int)))
 (some ([RLeaf.fz 0 [], RLeaf.v (AV.int IntKind.i64 (shut (firstNZ (intsOf (putCells (putCells (putCells (zrow (ofV (Go.Value.int IntKind.i64 (0 : Int))).cells 3) 0 [AV.int IntKind.i64 (0 : Int)]) 1 [AV.int IntKind.i64 (shut (if shut (decide ((↑m : Int) > (4096 : Int))) = true then (5 : Int) else (0 : Int)))]) 2 [AV.int IntKind.i64 (shut (armsE q (intsOf ar) (↑m : Int)))])))))]))
 (gS ((0 : Int) ≤ (↑m : Int) ∧ (↑m : Int) ≤ (↑m : Int) ∧ (↑m : Int) ≤ (281474976710656 : Int) ∧ (↑4 : Int) * (↑m : Int) ≤ (281474976710656 : Int)) <|
 (loopC N (outF36 N)
 ((fun _ _ _ _ _ _ _ _ _ _ _ _ _ _ _ _ _ _ _ _ _ _ _ _ _ _ _ _ _ => none), (fun _ _ _ _ _ _ _ _ _ _ _ _ _ _ _ _ _ _ _ _ _ _ _ _ _ _ _ _ _ _ _ _ _ _ _ => none), PUnit.unit)).1 m fs q ar (shut (IntKind.i64.wrap ((↑(↑m : Int).toNat : Int) + (1 : Int)))) ((0 : Int)) 0 ([]) (pre.toNat) (zrow (ofV (Go.Value.float Go.FloatKind.f32 0)).cells (pre.toNat * 1)) pre post hold segs ((0 : Int)) ((0 : Int)) ((0 : Int)) ((0 : Int)) ((0 : Int)) 3 (putCells (putCells (putCells (zrow (ofV (Go.Value.int IntKind.i64 (0 : Int))).cells 3) 0 [AV.int IntKind.i64 (0 : Int)]) 1 [AV.int IntKind.i64 (shut (if shut (decide ((↑m : Int) > (4096 : Int))) = true then (5 : Int) else (0 : Int)))]) 2 [AV.int IntKind.i64 (shut (armsE q (intsOf ar) (↑m : Int)))]) ((↑m : Int).toNat) (zrow (ofV (Go.Value.float Go.FloatKind.f32 0)).cells ((↑m : Int).toNat * 1)) 0 ([]) 0 ([]) 0 ([])))) := by kernel_rfl
end Go.Abs
end

section
/- The machine's run, one step after another. -/
set_option linter.unusedVariables false
set_option linter.unusedSimpArgs false
namespace Go.Mach
section
variable {α : Type} {z : α} {cl : α → α} {u : SU} {os : List α} {tr : List Bool} {M : MS α} {n : Nat}
theorem runArms_done (h : M.time = n) : runArms z cl u os tr n [] M = M := by
 simp only [runArms, h, Nat.sub_self, stepsM]
theorem runArms_arm {a : Nat} {ars : List Nat} (h : M.time = a) : runArms z cl u os tr n (a :: ars) M = runArms z cl u os tr n ars (rearmM z u M) := by
 simp only [runArms, h, Nat.sub_self, stepsM]
theorem stepsM_sub {t : Nat} (h : M.time < t) : stepsM z cl u os tr (t - M.time) M = stepsM z cl u os tr (t - (stepM cl u (os.getD M.time z) (tr.getD M.time false) M).time) (stepM cl u (os.getD M.time z) (tr.getD M.time false) M) := by
 rw [stepM_time, show t - M.time = (t - (M.time + 1)) + 1 by omega]
 rfl
theorem runArms_step {ars : List Nat} (ha : Asc M.time ars n) (hne : ∀ a ars', ars = a :: ars' → a ≠ M.time) (hlt : M.time < n) :
  runArms z cl u os tr n ars M = runArms z cl u os tr n ars (stepM cl u (os.getD M.time z) (tr.getD M.time false) M) := by
 cases ars with
 | nil => simp only [runArms]; exact stepsM_sub hlt
 | cons a ars =>
  have h1 := ha.1
  have h2 := hne a ars rfl
  simp only [runArms]
  rw [stepsM_sub (z := z) (cl := cl) (u := u) (os := os) (tr := tr) (M := M) (t := a) (by omega)]
variable {x : α} {b : Bool}
theorem stepM_idle (ho : M.opn = none) (hb : (b && accB u M) = false) :
  stepM cl u x b M = ⟨M.time + 1, M.trig + b.toNat, M.seen, M.segs, none, M.armed, M.comp, M.ring.set (M.time % u.pre) (cl x), M.out⟩ := by
 unfold stepM opnM outM
 rw [hb]
 simp only [ho]
theorem stepM_begin (hb : (b && accB u M) = true) (hl : (winM u M).length + 1 ≠ u.pre + u.post) :
  stepM cl u x b M = ⟨M.time + 1, M.trig + b.toNat, M.seen, M.segs, some { begM u M with smp := winM u M ++ [cl x] }, M.armed, M.comp, M.ring.set (M.time % u.pre) (cl x), M.out ++ [M.time]⟩ := by
 unfold stepM opnM outM
 rw [hb]
 simp only [List.length_append, List.length_cons, List.length_nil, Nat.zero_add, decide_eq_false hl]
theorem stepM_beginEnd (hb : (b && accB u M) = true) (hl : (winM u M).length + 1 = u.pre + u.post) :
  stepM cl u x b M = ⟨M.time + 1, M.trig + b.toNat, M.seen + (M.trig - M.seen) + 1, M.segs ++ [{ begM u M with smp := winM u M ++ [cl x] }], none, M.armed, M.comp + 1, M.ring.set (M.time % u.pre) (cl x), M.out ++ [M.time]⟩ := by
 unfold stepM opnM outM
 rw [hb]
 simp only [List.length_append, List.length_cons, List.length_nil, Nat.zero_add, decide_eq_true hl]
 rfl
theorem accB_some {s : SegF α} (h : M.opn = some s) : (b && accB u M) = false := by
 unfold accB; rw [h]; simp
theorem stepM_more {s : SegF α} (ho : M.opn = some s) (hl : s.smp.length + 1 ≠ u.pre + u.post) :
  stepM cl u x b M = ⟨M.time + 1, M.trig + b.toNat, M.seen, M.segs, some { s with smp := s.smp ++ [cl x] }, M.armed, M.comp, M.ring.set (M.time % u.pre) (cl x), M.out⟩ := by
 unfold stepM opnM outM
 rw [accB_some ho]
 simp only [ho, List.length_append, List.length_cons, List.length_nil, Nat.zero_add, decide_eq_false hl]
theorem stepM_end {s : SegF α} (ho : M.opn = some s) (hl : s.smp.length + 1 = u.pre + u.post) :
  stepM cl u x b M = ⟨M.time + 1, M.trig + b.toNat, M.seen + s.missed + 1, M.segs ++ [{ s with smp := s.smp ++ [cl x] }], none, M.armed, M.comp + 1, M.ring.set (M.time % u.pre) (cl x), M.out⟩ := by
 unfold stepM opnM outM
 rw [accB_some ho]
 simp only [ho, List.length_append, List.length_cons, List.length_nil, Nat.zero_add, decide_eq_true hl]
end
end Go.Mach
end

section
/- What holds of a machine at every step. -/
set_option linter.unusedVariables false
set_option linter.unusedSimpArgs false
namespace Go.Mach
section
variable {α : Type} {z : α} {cl : α → α} {u : SU} {M : MS α} {x : α} {b : Bool}
structure WF (u : SU) (M : MS α) : Prop where
 ring : M.ring.length = u.pre
 trig : M.trig ≤ M.time
 seen : M.seen ≤ M.trig
 last : lastF M.segs ≤ M.time
 arm0 : M.comp = 0 → lastF M.segs ≤ M.armed
 arm : M.armed ≤ M.time
 out : M.out.length ≤ M.time
 comp : M.comp ≤ M.time
 n64 : M.segs.length ≤ 64
 opn : ∀ s, M.opn = some s → M.segs.length < 64 ∧ M.seen + s.missed + 1 ≤ M.trig ∧ endF s = M.time ∧ s.smp.length < u.pre + u.post ∧ s.trig ≤ M.time ∧ s.lost ≤ M.time
theorem win_len (h : M.ring.length = u.pre) : (winM u M).length = u.pre := by
 unfold winM
 rw [List.length_append, List.length_drop, List.length_take, h]
 by_cases hp : u.pre = 0
 ·omega
 ·have := Nat.mod_lt M.time (show 0 < u.pre by omega); omega
structure Acc (u : SU) (M : MS α) : Prop where
 opn : M.opn = none
 lim : M.comp < u.lim
 n64 : M.segs.length < 64
 base : baseM M + u.pre ≤ M.time
 hold : 0 < M.comp → lastF M.segs + u.hold ≤ M.time
theorem acc_of (h : accB u M = true) : Acc u M := by
 unfold accB at h
 simp only [Bool.and_eq_true, decide_eq_true_eq, Option.isNone_iff_eq_none, Bool.not_eq_true', Bool.and_eq_false_iff, decide_eq_false_iff_not] at h
 obtain ⟨⟨⟨h1, h2, h3⟩, h4⟩, h5⟩ := h
 exact ⟨h1, h2, h3, h4, fun h => by rcases h5 with h5 | h5 <;> omega⟩
theorem Acc.start (ha : Acc u M) (h : WF u M) : lastF M.segs + u.pre ≤ M.time := by
 have := ha.base
 unfold baseM at this
 by_cases hc : 0 < M.comp
 ·rw [if_pos hc] at this; exact this
 ·rw [if_neg hc] at this
  have := h.arm0 (by omega)
  omega
theorem WF.new (u : SU) (z : α) : WF u (newM z u) :=
 ⟨by simp [newM], Nat.le_refl _, Nat.le_refl _, Nat.le_refl _, fun _ => Nat.le_refl _, Nat.le_refl _, Nat.le_refl _, Nat.le_refl _, by simp [newM], fun s h => by cases h⟩
theorem WF.rearm (h : WF u M) : WF u (rearmM z u M) := by
 unfold rearmM
 split
 ·exact h
 ·exact ⟨by simp, h.trig, h.seen, h.last, fun _ => h.last, Nat.le_refl _, h.out, Nat.zero_le _, h.n64, fun s hs => by cases hs⟩
theorem toNat_le (b : Bool) : b.toNat ≤ 1 := by cases b <;> decide
theorem WF.step (hp : 1 ≤ u.post) (h : WF u M) : WF u (stepM cl u x b M) := by
 have hb1 := toNat_le b
 have t1 := h.trig
 have t2 := h.seen
 have t3 := h.last
 have t5 := h.arm
 have t6 := h.out
 have t7 := h.comp
 have t8 := h.n64
 by_cases ha : (b && accB u M) = true
 ·have hb : b = true := by revert ha; cases b <;> simp
  have hA := acc_of (show accB u M = true by revert ha; cases b <;> simp)
  have hs := hA.start h
  have hw := win_len h.ring
  have a3 := hA.n64
  subst hb
  have bt : true.toNat = 1 := rfl
  by_cases hl : (winM u M).length + 1 = u.pre + u.post
  ·rw [stepM_beginEnd ha hl]
   refine ⟨by simp [h.ring], by simp only [bt]; omega, by simp only [bt]; omega, ?_, fun hc => by simp only at hc; omega, by simp only; omega, by simp only [List.length_append, List.length_cons, List.length_nil]; omega, by simp only; omega, by simp only [List.length_append, List.length_cons, List.length_nil]; omega, fun s hs => by cases hs⟩
   simp only [lastF_app, endF, begM, List.length_append, List.length_cons, List.length_nil, hw]
   omega
  ·rw [stepM_begin ha hl]
   refine ⟨by simp [h.ring], by simp only [bt]; omega, by simp only [bt]; omega, by simp only; omega, h.arm0, by simp only; omega, by simp only [List.length_append, List.length_cons, List.length_nil]; omega, by simp only; omega, t8, fun s hs => ?_⟩
   simp only [Option.some.injEq] at hs
   subst hs
   refine ⟨a3, ?_, ?_, ?_, ?_, ?_⟩
   ·simp only [begM, bt]; omega
   ·simp only [endF, begM, List.length_append, List.length_cons, List.length_nil, hw]; omega
   ·simp only [List.length_append, List.length_cons, List.length_nil]; omega
   ·simp only [begM]; omega
   ·simp only [begM]; omega
 ·have ha : (b && accB u M) = false := by simpa using ha
  cases ho : M.opn with
  | none =>
   rw [stepM_idle ho ha]
   exact ⟨by simp [h.ring], by simp only; omega, by simp only; omega, by simp only; omega, h.arm0, by simp only; omega, by simp only; omega, by simp only; omega, t8, fun s hs => by cases hs⟩
  | some s =>
   obtain ⟨o1, o2, o3, o4, o5, o6⟩ := h.opn s ho
   by_cases hl : s.smp.length + 1 = u.pre + u.post
   ·rw [stepM_end ho hl]
    refine ⟨by simp [h.ring], by simp only; omega, by simp only; omega, ?_, fun hc => by simp only at hc; omega, by simp only; omega, by simp only; omega, by simp only; omega, by simp only [List.length_append, List.length_cons, List.length_nil]; omega, fun s hs => by cases hs⟩
    simp only [lastF_app, endF, List.length_append, List.length_cons, List.length_nil] at o3 ⊢
    omega
   ·rw [stepM_more ho hl]
    refine ⟨by simp [h.ring], by simp only; omega, by simp only; omega, by simp only; omega, h.arm0, by simp only; omega, by simp only; omega, by simp only; omega, t8, fun s' hs => ?_⟩
    simp only [Option.some.injEq] at hs
    subst hs
    refine ⟨o1, by simp only; omega, ?_, by simp only [List.length_append, List.length_cons, List.length_nil]; omega, by simp only; omega, by simp only; omega⟩
    simp only [endF, List.length_append, List.length_cons, List.length_nil] at o3 ⊢
    omega
end
end Go.Mach
end

section
/- What the machine asks itself, and its cells. -/
set_option linter.unusedVariables false
set_option linter.unusedSimpArgs false
namespace Go.Abs
open Go.Proofs Classical Go.Mach
section
variable {R : Type} {x y : Option R}
theorem gS_pos {p : Prop} [Decidable p] (h : p) : gS p x = x := guardS h
theorem cS_pos {p : Prop} [Decidable p] (h : p) : cS p x y = x := condS_pos h
theorem cS_neg {p : Prop} [Decidable p] (h : ¬ p) : cS p x y = y := condS_neg h
theorem cond_tt : condO true x y = x := rfl
theorem cond_ff : condO false x y = y := rfl
end
theorem putCells_mid : ∀ (ys a b : List AV), ys.length ≤ b.length → putCells (a ++ b) a.length ys = a ++ ys ++ b.drop ys.length
 | [], a, b, h => by simp [putCells]
 | y :: ys, a, [], h => by simp at h
 | y :: ys, a, b0 :: b, h => by
  have h2 : ys.length ≤ b.length := by simpa using h
  have e : (a ++ b0 :: b).set a.length y = (a ++ [y]) ++ b := by simp
  simp only [putCells, e]
  have := putCells_mid ys (a ++ [y]) b h2
  rw [List.length_append, List.length_singleton] at this
  rw [this]; simp
theorem putCells_0 {ys b : List AV} (h : ys.length ≤ b.length) : putCells b 0 ys = ys ++ b.drop ys.length := by
 have := putCells_mid ys [] b h
 simpa using this
theorem winCells {zs : List AV} {r : List (Option Nat)} {p k : Nat} (hz : zs.length = p) (hr : r.length = p) (hk : k ≤ p) :
  putCells (putCells zs 0 (List.take ((p - k).min p) (List.take (p - k) (List.drop k (flosL r))))) ((p - k).min p) (List.take (k.min (p - (p - k).min p)) (List.take k (flosL r))) = flosL (r.drop k ++ r.take k) := by
 have e1 : (p - k).min p = p - k := Nat.min_eq_left (by omega)
 have e2 : k.min (p - (p - k)) = k := Nat.min_eq_left (by omega)
 have l1 : (flosL r).length = p := by rw [flosL_len, hr]
 rw [e1, e2, List.take_of_length_le (show (List.take (p - k) (List.drop k (flosL r))).length ≤ p - k by simp; omega), List.take_of_length_le (show (List.drop k (flosL r)).length ≤ p - k by simp [l1])]
 have hd : (List.drop k (flosL r)).length = p - k := by simp [l1]
 rw [putCells_0 (by rw [hd, hz]; omega), hd]
 have ht : (List.take k (List.take k (flosL r))) = List.take k (flosL r) := by rw [List.take_take, Nat.min_self]
 rw [ht]
 have := putCells_mid (List.take k (flosL r)) (List.drop k (flosL r)) (zs.drop (p - k)) (by simp [l1, hz]; omega)
 rw [hd] at this
 rw [this]
 have hnil : (List.drop (List.take k (flosL r)).length (zs.drop (p - k))) = [] := by
  rw [List.drop_eq_nil_iff]; simp [l1, hz]; omega
 rw [hnil, List.append_nil]
 simp [flosL, List.map_drop, List.map_take]
theorem ringCells {r : List (Option Nat)} {i : Nat} {v : Option Nat} : putCells (flosL r) i [AV.flo .f32 v] = flosL (r.set i v) := by
 simp [putCells, flosL, List.map_set]
theorem lastD_nil : lastD 0 (segCells []) = some (.int .i64 0) := by
 unfold lastD
 rw [shut_eq]; rfl
theorem lastD_ok {L : List SegO} (hl : L.length ≤ 64) (hb : lastF L ≤ 100000) : lastD L.length (segCells L) = some (.int .i64 (lastF L : Int)) := by
 rcases List.eq_nil_or_concat L with rfl | ⟨l, s, rfl⟩
 ·exact lastD_nil
 ·rw [List.concat_eq_append] at hl hb ⊢
  have hn : (l ++ [s]).length = l.length + 1 := by simp
  rw [hn] at hl ⊢
  have c1 : ¬ ((l.length + 1 : Nat) : Int) = 0 := by omega
  have w1 : IntKind.i64.wrap (((l.length + 1 : Nat) : Int) - 1) = (l.length : Int) := by rw [wrap64] <;> omega
  have g : ∀ r, r < 5 → (segCells (l ++ [s])).getD (l.length * 5 + r) .top = (cell5 s).getD r .top := by
   intro r hr
   have := segCells_get (L := l ++ [s]) (i := l.length) hr (by simp)
   rw [this]; simp
  have g0 : (segCells (l ++ [s])).getD (l.length * 5) .top = .int .i64 s.start := g 0 (by omega)
  have g1 : (segCells (l ++ [s])).getD (l.length * 5 + 1) .top = .int .i64 s.trig := g 1 (by omega)
  have g2 : (segCells (l ++ [s])).getD (l.length * 5 + 1 + 1) .top = .list s.smp.length (flosL s.smp) := g 2 (by omega)
  have g3 : (segCells (l ++ [s])).getD (l.length * 5 + 1 + 1 + 1) .top = .int .i64 s.lost := g 3 (by omega)
  have g4 : (segCells (l ++ [s])).getD (l.length * 5 + 1 + 1 + 1 + 1) .top = .int .i64 s.missed := g 4 (by omega)
  have hcl : (segCells (l ++ [s])).length = (l.length + 1) * 5 := by rw [segCells_len, hn]
  rw [lastF_app] at hb ⊢
  unfold endF at hb ⊢
  have w2 : IntKind.i64.wrap ((s.start : Int) + (s.smp.length : Int)) = ((s.start + s.smp.length : Nat) : Int) := by rw [wrap64] <;> omega
  have n0 : (true && (l.length + 1).beq 0) = false := rfl
  have i0 : ∀ z : Int, asInt .i64 (AV.int .i64 z) = some z := fun z => by simp [asInt]
  have i1 : asList (AV.list s.smp.length (flosL s.smp)) = some (s.smp.length, flosL s.smp) := rfl
  unfold lastD
  rw [shut_eq, condO_beq, if_neg c1]
  simp only [shut_eq, w1, Int.toNat_natCast, g0, g1, g2, g3, g4, i0, i1, bindO_ok, w2, hcl, n0, Bool.not_false]
  rw [gS_pos ⟨by omega, by omega⟩, gS_pos (by omega)]
  rfl
section
variable {u : SU} {M : MS (Option Nat)}
theorem accD_ok {N : Nat} (hN : 5 ≤ N) (hu : SUok u) (h : WF u M) (ho : M.opn = none) (ht : M.time ≤ 5000) :
  accD N (u.pre : Int) (u.hold : Int) (u.lim : Int) (M.time : Int) (M.armed : Int) (M.comp : Int) M.segs.length (segCells M.segs) = some (.bool (accB u M)) := by
 have t3 := h.last
 have t5 := h.arm
 have b1 := hu.pre
 have b2 := hu.hold
 have hL := lastD_ok (L := M.segs) h.n64 (by omega)
 have ab : ∀ b, asBool (AV.bool b) = some b := fun b => rfl
 have ai : ∀ z : Int, asInt .i64 (AV.int .i64 z) = some z := fun z => by simp [asInt]
 have w0 : IntKind.i64.wrap (0 + 1) = 1 := by decide
 have w1 : IntKind.i64.wrap (1 + 1) = 2 := by decide
 have w2 : IntKind.i64.wrap (2 + 1) = 3 := by decide
 have w3 : IntKind.i64.wrap (3 + 1) = 4 := by decide
 have v1 : IntKind.i64.wrap 1 = 1 := by decide
 have v2 : IntKind.i64.wrap 2 = 2 := by decide
 have w4 : IntKind.i64.wrap ((lastF M.segs : Int) + (u.pre : Int)) = ((lastF M.segs + u.pre : Nat) : Int) := by rw [wrap64] <;> omega
 have w5 : IntKind.i64.wrap ((M.armed : Int) + (u.pre : Int)) = ((M.armed + u.pre : Nat) : Int) := by rw [wrap64] <;> omega
 have w6 : IntKind.i64.wrap ((lastF M.segs : Int) + (u.hold : Int)) = ((lastF M.segs + u.hold : Nat) : Int) := by rw [wrap64] <;> omega
 unfold accD accB baseM
 simp only [ho, Option.isNone_none, Bool.true_and]
 simp only [cS, gS, shut_eq, guardO_dec, hN, if_true, Int.natCast_zero, Int.natCast_one, condO_dec]
 have e0 : ((0 : Int) < 4) := by omega
 by_cases c1 : M.comp < u.lim
 case neg =>
  have c1' : ¬ ((M.comp : Int) < (u.lim : Int)) := by omega
  simp [c1, c1', bindO_ok, ab, v1, v2, hL, ai, condO_not]
 have c1' : ((M.comp : Int) < (u.lim : Int)) := by omega
 by_cases c2 : M.segs.length < 64
 case neg =>
  have c2' : ¬ ((M.segs.length : Int) < 64) := by omega
  simp [c1, c1', c2, c2', bindO_ok, ab, v1, v2, hL, ai, condO_not]
 have c2' : ((M.segs.length : Int) < 64) := by omega
 by_cases c3 : 0 < M.comp
 ·have c3' : (M.comp : Int) > 0 := by omega
  by_cases c4 : lastF M.segs + u.pre ≤ M.time
  case neg =>
   have c4' : ¬ ((M.time : Int) ≥ ((lastF M.segs + u.pre : Nat) : Int)) := by omega
   simp only [c1, c1', c2, c2', c3, c3', c4, c4', bindO_ok, ab, w0, w1, w2, w3, w4, w5, w6, hL, ai, condO_not, if_true, if_false, decide_true, decide_false, Bool.and_true, Bool.and_false, Bool.true_and, Bool.false_and, Bool.not_true, Bool.not_false]
   simp [w0, w1, w2, w3, bindO_ok, ab]
  have c4' : ((M.time : Int) ≥ ((lastF M.segs + u.pre : Nat) : Int)) := by omega
  by_cases c5 : M.time < lastF M.segs + u.hold
  ·have c5' : ((M.time : Int) < ((lastF M.segs + u.hold : Nat) : Int)) := by omega
   simp only [c1, c1', c2, c2', c3, c3', c4, c4', c5, c5', bindO_ok, ab, w0, w1, w2, w3, w4, w5, w6, hL, ai, condO_not, if_true, if_false, decide_true, decide_false, Bool.and_true, Bool.and_false, Bool.true_and, Bool.false_and, Bool.not_true, Bool.not_false]
   simp [w0, w1, w2, w3, bindO_ok, ab]
  ·have c5' : ¬ ((M.time : Int) < ((lastF M.segs + u.hold : Nat) : Int)) := by omega
   simp only [c1, c1', c2, c2', c3, c3', c4, c4', c5, c5', bindO_ok, ab, w0, w1, w2, w3, w4, w5, w6, hL, ai, condO_not, if_true, if_false, decide_true, decide_false, Bool.and_true, Bool.and_false, Bool.true_and, Bool.false_and, Bool.not_true, Bool.not_false]
   simp [w0, w1, w2, w3, bindO_ok, ab]
 ·have c3' : ¬ (M.comp : Int) > 0 := by omega
  by_cases c4 : M.armed + u.pre ≤ M.time
  case neg =>
   have c4' : ¬ ((M.time : Int) ≥ ((M.armed + u.pre : Nat) : Int)) := by omega
   simp only [c1, c1', c2, c2', c3, c3', c4, c4', bindO_ok, ab, w0, w1, w2, w3, w4, w5, w6, hL, ai, condO_not, if_true, if_false, decide_true, decide_false, Bool.and_true, Bool.and_false, Bool.true_and, Bool.false_and, Bool.not_true, Bool.not_false]
   simp [w0, w1, w2, w3, bindO_ok, ab]
  have c4' : ((M.time : Int) ≥ ((M.armed + u.pre : Nat) : Int)) := by omega
  simp only [c1, c1', c2, c2', c3, c3', c4, c4', bindO_ok, ab, w0, w1, w2, w3, w4, w5, w6, hL, ai, condO_not, if_true, if_false, decide_true, decide_false, Bool.and_true, Bool.and_false, Bool.true_and, Bool.false_and, Bool.not_true, Bool.not_false]
  simp [w0, w1, w2, w3, bindO_ok, ab]
theorem accO_ok {N : Nat} (hN : 5 ≤ N) : accO N = some (.bool false) := by
 unfold accO
 simp only [cS, gS, shut_eq, guardO_dec, hN, if_true, Int.natCast_zero, condO_dec]
 rfl
end
end Go.Abs
end

section
/- The rounds of the machine that Accepted runs. -/
set_option linter.unusedVariables false
set_option linter.unusedSimpArgs false
set_option maxRecDepth 100000
namespace Go.Abs.A36
open Go.Proofs Classical Go.Mach
abbrev MO := MS (Option Nat)
structure Dead where
 a : Nat
 al1 : List AV
 b : Nat
 bl1 : List AV
 c : Nat
 cl1 : List AV
structure Ctx where
 m : Nat
 fs : List AV
 n1 : Int
 os : List (Option Nat)
 u : SU
 d : Dead
def natsL (l : List Nat) : List AV := intsL (l.map fun (k : Nat) => (k : Int))
def apTN (f : TN36) (c : Ctx) (al : List Nat) (i : Nat) (M : MO) : Option (List RLeaf) :=
 f c.m c.fs al.length (natsL al) (i : Int) c.n1 (i : Int) c.d.a c.d.al1 M.ring.length (flosL M.ring) (c.u.pre : Int) (c.u.post : Int) (c.u.hold : Int) (c.u.lim : Int) (M.time : Int) (M.trig : Int) (M.seen : Int) (M.armed : Int) (M.comp : Int) c.d.b c.d.bl1 c.os.length (flosL c.os) c.d.c c.d.cl1 M.out.length (natsL M.out) M.segs.length (segCells M.segs)
def apTO (f : TO36) (c : Ctx) (al : List Nat) (i : Nat) (M : MO) (s : SegO) : Option (List RLeaf) :=
 f c.m c.fs al.length (natsL al) (i : Int) c.n1 (i : Int) c.d.a c.d.al1 M.ring.length (flosL M.ring) (c.u.pre : Int) (c.u.post : Int) (c.u.hold : Int) (c.u.lim : Int) (M.time : Int) (M.trig : Int) (M.seen : Int) (M.armed : Int) (M.comp : Int) c.d.b c.d.bl1 c.os.length (flosL c.os) c.d.c c.d.cl1 M.out.length (natsL M.out) M.segs.length (segCells M.segs) (s.start : Int) (s.trig : Int) (s.lost : Int) (s.missed : Int) s.smp.length (flosL s.smp)
def apRN (f : RN36) (c : Ctx) (al : List Nat) (i : Nat) (M : MO) : Option (List RLeaf) :=
 f c.m c.fs al.length (natsL al) c.n1 (i : Int) c.d.a c.d.al1 M.ring.length (flosL M.ring) (c.u.pre : Int) (c.u.post : Int) (c.u.hold : Int) (c.u.lim : Int) (M.time : Int) (M.trig : Int) (M.seen : Int) (M.armed : Int) (M.comp : Int) c.d.b c.d.bl1 c.os.length (flosL c.os) c.d.c c.d.cl1 M.out.length (natsL M.out) M.segs.length (segCells M.segs)
def apRO (f : RO36) (c : Ctx) (al : List Nat) (i : Nat) (M : MO) (s : SegO) : Option (List RLeaf) :=
 f c.m c.fs al.length (natsL al) c.n1 (i : Int) c.d.a c.d.al1 M.ring.length (flosL M.ring) (c.u.pre : Int) (c.u.post : Int) (c.u.hold : Int) (c.u.lim : Int) (M.time : Int) (M.trig : Int) (M.seen : Int) (M.armed : Int) (M.comp : Int) c.d.b c.d.bl1 c.os.length (flosL c.os) c.d.c c.d.cl1 M.out.length (natsL M.out) M.segs.length (segCells M.segs) (s.start : Int) (s.trig : Int) (s.lost : Int) (s.missed : Int) s.smp.length (flosL s.smp)
theorem natsL_get {a : Nat} {al : List Nat} : asInt .i64 ((natsL (a :: al)).getD 0 .top) = some (a : Int) := by simp [natsL, intsL, asInt]
theorem natsL_len {al : List Nat} : (natsL al).length = al.length := by simp [natsL, intsL]
theorem natsL_tail {a : Nat} {al : List Nat} : List.take (((((a :: al).length : Nat) : Int).toNat - 1) * 1) (List.drop 1 (natsL (a :: al))) = natsL al := by
 have e : List.drop 1 (natsL (a :: al)) = natsL al := rfl
 rw [e, List.take_of_length_le]
 rw [natsL_len]; simp
theorem zeros {p : Nat} : zrow (ofV (Go.Value.float Go.FloatKind.f32 0)).cells (p * 1) = flosL (List.replicate p (some 0)) := by
 rw [Nat.mul_one]
 unfold zrow
 show (List.range p).map (fun j => ([AV.flo .f32 (some 0)][j % 1]?).getD .top) = _
 simp [flosL, Nat.mod_one, List.map_const']
section
variable {N : Nat} {r8 : TN36} {r9 : TO36} {ra : RN36} {rb : RO36} {c : Ctx} {M : MO} {i a : Nat} {al : List Nat} {s : SegO}
theorem head_ne {x y : Option (List RLeaf)} (h : ∀ a bl', al = a :: bl' → a ≠ i) : (bindO (cS ((al.length : Int) > (0 : Int)) (gS ((0 : Int) ≤ (0 : Int) ∧ (0 : Int) < (al.length : Int) ∧ 0 < (natsL al).length) <| bindO (asInt IntKind.i64 ((natsL al).getD 0 AV.top)) fun v => some (shut (v == (i : Int)))) (some false)) fun v => condO v x y) = y := by
 cases al with
 | nil => rw [cS_neg (by simp)]; rfl
 | cons a al =>
  have h1 := h a al rfl
  have e : ((a : Int) == (i : Int)) = false := by simp; omega
  rw [cS_pos (by simp only [List.length_cons]; omega), gS_pos ⟨by omega, by simp only [List.length_cons]; omega, by rw [natsL_len]; simp⟩, natsL_get, bindO_ok, shut_eq, e]; rfl
theorem head_eq {x y : Option (List RLeaf)} : (bindO (cS (((i :: al).length : Int) > (0 : Int)) (gS ((0 : Int) ≤ (0 : Int) ∧ (0 : Int) < ((i :: al).length : Int) ∧ 0 < (natsL (i :: al)).length) <| bindO (asInt IntKind.i64 ((natsL (i :: al)).getD 0 AV.top)) fun v => some (shut (v == (i : Int)))) (some false)) fun v => condO v x y) = x := by
 rw [cS_pos (by simp only [List.length_cons]; omega), gS_pos ⟨by omega, by simp only [List.length_cons]; omega, by rw [natsL_len]; simp⟩, natsL_get, bindO_ok, shut_eq, beq_self_eq_true]; rfl
theorem stepN_arm (hu : SUok c.u) (h : WF c.u M) (ho : M.opn = none) (ht : M.time = i) : apTN (stepN36 N r8 ra rb) c (i :: al) i M = apTN r8 c al i (rearmM (some 0) c.u M) := by
 unfold apTN stepN36
 rw [head_eq]
 have hp := hu.post0
 have c1 : ¬ (c.u.post : Int) = 0 := by omega
 have g1 : (0 : Int) ≤ 1 ∧ 1 ≤ ((i :: al).length : Int) ∧ ((i :: al).length : Int) ≤ ((i :: al).length : Int) := ⟨by omega, by simp; omega, Int.le_refl _⟩
 have g2 : (i :: al).length * 1 = (natsL (i :: al)).length := by rw [natsL_len, Nat.mul_one]
 have l1 : (((i :: al).length : Int)).toNat - 1 = al.length := by simp
 rw [shut_eq, condO_beq, if_neg c1]
 unfold rearmM
 by_cases h64 : 64 ≤ M.segs.length
 ·rw [if_pos h64, cS_pos (by omega), gS_pos g1, gS_pos g2, natsL_tail, l1]
 ·rw [if_neg h64, cS_neg (by omega), gS_pos g1, gS_pos g2, natsL_tail, l1, zeros, h.ring]
  simp only [List.length_replicate]
  rfl
theorem stepO_arm (hu : SUok c.u) (h : WF c.u M) (ho : M.opn = some s) (ht : M.time = i) : apTO (stepO36 N r8 r9 ra rb) c (i :: al) i M s = apTN r8 c al i (rearmM (some 0) c.u M) := by
 unfold apTO apTN stepO36
 rw [head_eq]
 have hp := hu.post0
 have c1 : ¬ (c.u.post : Int) = 0 := by omega
 have g1 : (0 : Int) ≤ 1 ∧ 1 ≤ ((i :: al).length : Int) ∧ ((i :: al).length : Int) ≤ ((i :: al).length : Int) := ⟨by omega, by simp; omega, Int.le_refl _⟩
 have g2 : (i :: al).length * 1 = (natsL (i :: al)).length := by rw [natsL_len, Nat.mul_one]
 have l1 : (((i :: al).length : Int)).toNat - 1 = al.length := by simp
 have h64 := (h.opn s ho).1
 rw [shut_eq, condO_beq, if_neg c1, cS_neg (by omega), gS_pos g1, gS_pos g2, natsL_tail, l1, zeros, h.ring]
 unfold rearmM
 rw [if_neg (by omega)]
 simp only [List.length_replicate]
 rfl
theorem stepN_over (hne : ∀ a bl', al = a :: bl' → a ≠ i) (hn : c.os.length = i) (hi : i ≤ 5000) : apTN (stepN36 N r8 ra rb) c al i M = apRN ra c al (i + 1) M := by
 unfold apTN apRN stepN36
 have w : IntKind.i64.wrap ((i : Int) + 1) = ((i + 1 : Nat) : Int) := by rw [wrap64] <;> omega
 rw [head_ne hne, cS_neg (by omega), shut_eq, w]
theorem stepO_over (hne : ∀ a bl', al = a :: bl' → a ≠ i) (hn : c.os.length = i) (hi : i ≤ 5000) : apTO (stepO36 N r8 r9 ra rb) c al i M s = apRO rb c al (i + 1) M s := by
 unfold apTO apRO stepO36
 have w : IntKind.i64.wrap ((i : Int) + 1) = ((i + 1 : Nat) : Int) := by rw [wrap64] <;> omega
 rw [head_ne hne, cS_neg (by omega), shut_eq, w]
theorem flo_get {os : List (Option Nat)} {i : Nat} (h : i < os.length) : asFloat .f32 ((flosL os).getD ((i : Int).toNat * 1) .top) = some (os.getD i (some 0)) := by
 simp [flosL, List.getD, h, asFloat]
theorem bool_get {m : Nat} {fs : List AV} (hB : Bls m fs) {i : Nat} (h : i < m) : asBool (fs.getD ((i : Int).toNat * 1) .top) = some ((boolsOf fs).getD i false) := by
 simp only [Int.toNat_natCast, Nat.mul_one]; exact hB.get h
theorem tm {M : MO} {p : Nat} (h : M.ring.length = p) : (M.time : Int).tmod (M.ring.length : Int) = ((M.time % p : Nat) : Int) := by rw [h]; rfl
theorem ringC {M : MO} {p : Nat} {X Y Z : Option (List RLeaf)} (hr : M.ring.length = p) (h1 : 0 < p → X = Z) (h2 : p = 0 → Y = Z) :
  cS ((M.ring.length : Int) > 0) (gS ((M.ring.length : Int) ≠ 0) (gS (0 ≤ shut ((M.time : Int).tmod (M.ring.length : Int)) ∧ shut ((M.time : Int).tmod (M.ring.length : Int)) < (M.ring.length : Int))
   (guardO (shut !(false && M.ring.length.beq 0)) (gS ((shut ((M.time : Int).tmod (M.ring.length : Int))).toNat * 1 + 1 ≤ (flosL M.ring).length) X)))) Y = Z := by
 by_cases hp : p = 0
 ·rw [cS_neg (by omega), h2 hp]
 ·have hm := Nat.mod_lt M.time (show 0 < p by omega)
  have g0 : (!(false && M.ring.length.beq 0)) = true := rfl
  rw [cS_pos (by omega), gS_pos (by omega), shut_eq, tm hr, gS_pos ⟨by omega, by omega⟩, shut_eq, g0]
  show gS _ _ = _
  rw [gS_pos (by rw [flosL_len, Int.toNat_natCast]; omega), h1 (by omega)]
theorem winC {M : MO} {p : Nat} {X Y Z : Option (List RLeaf)} (hr : M.ring.length = p) (h1 : 0 < p → X = Z) (h2 : p = 0 → Y = Z) :
  cS ((M.ring.length : Int) > 0) (gS ((M.ring.length : Int) ≠ 0) (gS (0 ≤ shut ((M.time : Int).tmod (M.ring.length : Int)) ∧ shut ((M.time : Int).tmod (M.ring.length : Int)) ≤ (M.ring.length : Int) ∧ (M.ring.length : Int) ≤ (M.ring.length : Int))
   (gS (0 ≤ shut ((((M.ring.length : Int).toNat - (shut ((M.time : Int).tmod (M.ring.length : Int))).toNat).min (p : Int).toNat : Nat) : Int) ∧ shut ((((M.ring.length : Int).toNat - (shut ((M.time : Int).tmod (M.ring.length : Int))).toNat).min (p : Int).toNat : Nat) : Int) ≤ (((p : Int).toNat : Nat) : Int) ∧ (((p : Int).toNat : Nat) : Int) ≤ (((p : Int).toNat : Nat) : Int))
   (gS ((M.ring.length : Int) ≠ 0) (gS ((0 : Int) ≤ 0 ∧ 0 ≤ shut ((M.time : Int).tmod (M.ring.length : Int)) ∧ shut ((M.time : Int).tmod (M.ring.length : Int)) ≤ (M.ring.length : Int)) X))))) Y = Z := by
 by_cases hp : p = 0
 ·rw [cS_neg (by omega), h2 hp]
 ·have hm := Nat.mod_lt M.time (show 0 < p by omega)
  have e : ((M.ring.length : Int).toNat - (((M.time % p : Nat) : Int)).toNat).min (p : Int).toNat ≤ p := by simp only [Int.toNat_natCast]; exact Nat.min_le_right _ _
  rw [cS_pos (by omega), gS_pos (by omega), shut_eq, tm hr, gS_pos ⟨by omega, by omega, Int.le_refl _⟩, shut_eq, gS_pos ⟨by omega, by simp only [Int.toNat_natCast] at e ⊢; omega, Int.le_refl _⟩, gS_pos (by omega), gS_pos ⟨Int.le_refl _, by omega, by omega⟩, h1 (by omega)]
theorem set0 {M : MO} {p : Nat} (hr : M.ring.length = p) (hp : p = 0) {v : Option Nat} : M.ring.set (M.time % p) v = M.ring := List.set_eq_of_length_le (by omega)
theorem stepN_idle (hN : 5 ≤ N) (hu : SUok c.u) (h : WF c.u M) (ho : M.opn = none) (ht : M.time = i) (hne : ∀ a bl', al = a :: bl' → a ≠ i) (hn : i < c.os.length) (hm : c.m = c.os.length) (hB : Bls c.m c.fs) (h5 : c.os.length ≤ 5000)
  (hb : ((boolsOf c.fs).getD i false && accB c.u M) = false) : apTN (stepN36 N r8 ra rb) c al i M = apRN ra c al (i + 1) (stepM clean1 c.u (c.os.getD i (some 0)) ((boolsOf c.fs).getD i false) M) := by
 have hN0 : 0 < N := by omega
 unfold apTN stepN36
 have hl0 : 0 < c.fs.length := by rw [hB.2.2]; omega
 rw [head_ne hne, cS_pos (by omega), gS_pos ⟨by omega, by omega⟩]
 have g0 : (!(false && c.os.length.beq 0)) = true := rfl
 rw [shut_eq, g0]
 show bindO _ _ = _
 rw [flo_get hn, bindO_ok, gS_pos ⟨by omega, by omega, hl0⟩, bool_get hB (by omega), bindO_ok]
 generalize hbv : (boolsOf c.fs).getD i false = b at hb
 generalize hxv : c.os.getD i (some 0) = x
 have t1 := h.trig
 have w1 : IntKind.i64.wrap ((i : Int) + 1) = ((i + 1 : Nat) : Int) := by rw [wrap64] <;> omega
 have w2 : IntKind.i64.wrap ((M.time : Int) + 1) = ((M.time + 1 : Nat) : Int) := by rw [wrap64] <;> omega
 have w3 : IntKind.i64.wrap ((M.trig : Int) + 1) = ((M.trig + 1 : Nat) : Int) := by rw [wrap64] <;> omega
 rw [stepM_idle ho hb]
 cases b with
 | false =>
  rw [cond_ff]
  simp only [joinC_pos hN0, cond_ff]
  refine ringC h.ring (fun hp => ?_) (fun hp => ?_)
  ·simp only [apRN, shut_eq, w1, w2, tm h.ring, Int.toNat_natCast, Nat.mul_one, ringCells, List.length_set]
   rfl
  ·simp only [apRN, shut_eq, w1, w2, set0 h.ring hp]
   rfl
 | true =>
  have ha : accB c.u M = false := by simpa using hb
  have ab : asBool (AV.bool false) = some false := rfl
  rw [cond_tt, accD_ok hN hu h ho (by omega), ha, bindO_ok, ab, bindO_ok]
  simp only [joinC_pos hN0, cond_ff, cond_tt]
  refine ringC h.ring (fun hp => ?_) (fun hp => ?_)
  ·simp only [apRN, shut_eq, w1, w2, w3, tm h.ring, Int.toNat_natCast, Nat.mul_one, ringCells, List.length_set]
   rfl
  ·simp only [apRN, shut_eq, w1, w2, w3, set0 h.ring hp]
   rfl
theorem winW {M : MO} {u : SU} (hr : M.ring.length = u.pre) (hp : 0 < u.pre) :
  (putCells (putCells (zrow (ofV (Go.Value.float Go.FloatKind.f32 0)).cells ((u.pre : Int).toNat * 1)) 0 (List.take (((M.ring.length : Int).toNat - (shut ((M.time : Int).tmod (M.ring.length : Int))).toNat).min (u.pre : Int).toNat * 1) (List.take (((M.ring.length : Int).toNat - (shut ((M.time : Int).tmod (M.ring.length : Int))).toNat) * 1) (List.drop ((shut ((M.time : Int).tmod (M.ring.length : Int))).toNat * 1) (flosL M.ring))))) ((shut ((((M.ring.length : Int).toNat - (shut ((M.time : Int).tmod (M.ring.length : Int))).toNat).min (u.pre : Int).toNat : Nat) : Int)).toNat * 1) (List.take (((shut ((M.time : Int).tmod (M.ring.length : Int))).toNat - 0).min ((((u.pre : Int).toNat : Nat) : Int).toNat - (shut ((((M.ring.length : Int).toNat - (shut ((M.time : Int).tmod (M.ring.length : Int))).toNat).min (u.pre : Int).toNat : Nat) : Int)).toNat) * 1) (List.take (((shut ((M.time : Int).tmod (M.ring.length : Int))).toNat - 0) * 1) (List.drop 0 (flosL M.ring))))) = flosL (winM u M) := by
 simp only [shut_eq, tm hr, Int.toNat_natCast, Nat.mul_one, Nat.sub_zero, List.drop_zero]
 rw [hr]
 exact winCells (by rw [zrow_length]) hr (Nat.le_of_lt (Nat.mod_lt _ hp))
theorem win0 {M : MO} {u : SU} (hr : M.ring.length = u.pre) (hp : u.pre = 0) : zrow (ofV (Go.Value.float Go.FloatKind.f32 0)).cells ((u.pre : Int).toNat * 1) = flosL (winM u M) := by
 have e1 : winM u M = [] := List.eq_nil_of_length_eq_zero (by rw [win_len hr, hp])
 rw [e1, hp]; rfl
theorem segPut {L : List SegO} (s : SegO) : segCells L ++ putCells (zrow (ofV (Go.Value.agg #[Go.Value.int IntKind.i64 (0 : Int), Go.Value.int IntKind.i64 (0 : Int), Go.Value.slice Option.none 0 0, Go.Value.int IntKind.i64 (0 : Int), Go.Value.int IntKind.i64 (0 : Int)])).cells 5) 0 [AV.int IntKind.i64 s.start, AV.int IntKind.i64 s.trig, AV.list s.smp.length (flosL s.smp), AV.int IntKind.i64 s.lost, AV.int IntKind.i64 s.missed] = segCells (L ++ [s]) := by
 rw [put5s, segCells_app]; simp [segCells, cell5]
theorem smpPut {l : List (Option Nat)} {v : Option Nat} : flosL l ++ putCells (zrow (ofV (Go.Value.float Go.FloatKind.f32 0)).cells 1) 0 [AV.flo Go.FloatKind.f32 v] = flosL (l ++ [v]) := by
 rw [putF, flosL_app]; rfl
theorem outPut {l : List Nat} {v : Nat} : natsL l ++ putCells (zrow (ofV (Go.Value.int IntKind.i64 (0 : Int))).cells 1) 0 [AV.int IntKind.i64 (v : Int)] = natsL (l ++ [v]) := by
 simp [natsL, intsL]; rfl
theorem stepN_acc (hN : 5 ≤ N) (hu : SUok c.u) (h : WF c.u M) (ho : M.opn = none) (ht : M.time = i) (hne : ∀ a bl', al = a :: bl' → a ≠ i) (hn : i < c.os.length) (hm : c.m = c.os.length) (hB : Bls c.m c.fs) (h5 : c.os.length ≤ 5000)
  (hb : ((boolsOf c.fs).getD i false && accB c.u M) = true) : apTN (stepN36 N r8 ra rb) c al i M =
   if (winM c.u M).length + 1 = c.u.pre + c.u.post then apRN ra c al (i + 1) (stepM clean1 c.u (c.os.getD i (some 0)) ((boolsOf c.fs).getD i false) M)
   else apRO rb c al (i + 1) (stepM clean1 c.u (c.os.getD i (some 0)) ((boolsOf c.fs).getD i false) M) { begM c.u M with smp := winM c.u M ++ [clean1 (c.os.getD i (some 0))] } := by
 have hN0 : 0 < N := by omega
 subst ht
 unfold apTN stepN36
 have hl0 : 0 < c.fs.length := by rw [hB.2.2]; omega
 rw [head_ne hne, cS_pos (by omega), gS_pos ⟨by omega, by omega⟩]
 have g0 : (!(false && c.os.length.beq 0)) = true := rfl
 rw [shut_eq, g0]
 show bindO _ _ = _
 rw [flo_get hn, bindO_ok, gS_pos ⟨by omega, by omega, hl0⟩, bool_get hB (by omega), bindO_ok]
 generalize hbv : (boolsOf c.fs).getD M.time false = b at hb
 generalize hxv : c.os.getD M.time (some 0) = x
 have hbt : b = true := by revert hb; cases b <;> simp
 subst hbt
 have ha : accB c.u M = true := by simpa using hb
 have hA := acc_of ha
 have hs := hA.start h
 have hw := win_len h.ring
 have t1 := h.trig
 have t2 := h.seen
 have t6 := h.out
 have t7 := h.comp
 have a3 := hA.n64
 have b1 := hu.pre
 have b2 := hu.post
 have ab : asBool (AV.bool true) = some true := rfl
 have ai : ∀ z : Int, asInt .i64 (AV.int .i64 z) = some z := fun z => by simp [asInt]
 have w1 : IntKind.i64.wrap ((M.time : Int) + 1) = ((M.time + 1 : Nat) : Int) := by rw [wrap64] <;> omega
 have w2 : IntKind.i64.wrap ((M.time : Int) + 1) = ((M.time + 1 : Nat) : Int) := by rw [wrap64] <;> omega
 have w3 : IntKind.i64.wrap ((M.trig : Int) + 1) = ((M.trig + 1 : Nat) : Int) := by rw [wrap64] <;> omega
 have w4 : IntKind.i64.wrap ((c.u.pre : Int) + (c.u.post : Int)) = ((c.u.pre + c.u.post : Nat) : Int) := by rw [wrap64] <;> omega
 have w5 : IntKind.i64.wrap ((M.time : Int) - (c.u.pre : Int)) = ((M.time - c.u.pre : Nat) : Int) := by rw [wrap64] <;> omega
 have w6 : IntKind.i64.wrap (((M.time - c.u.pre : Nat) : Int) - (lastF M.segs : Int)) = ((M.time - c.u.pre - lastF M.segs : Nat) : Int) := by rw [wrap64] <;> omega
 have w7 : IntKind.i64.wrap ((M.trig : Int) - (M.seen : Int)) = ((M.trig - M.seen : Nat) : Int) := by rw [wrap64] <;> omega
 have w8 : IntKind.i64.wrap (((M.trig - M.seen : Nat) : Int) + 1) = ((M.trig - M.seen + 1 : Nat) : Int) := by rw [wrap64] <;> omega
 have w9 : IntKind.i64.wrap ((M.seen : Int) + ((M.trig - M.seen + 1 : Nat) : Int)) = ((M.seen + (M.trig - M.seen) + 1 : Nat) : Int) := by rw [wrap64] <;> omega
 have w10 : IntKind.i64.wrap ((M.comp : Int) + 1) = ((M.comp + 1 : Nat) : Int) := by rw [wrap64] <;> omega
 rw [cond_tt, accD_ok hN hu h ho (by omega), ha, bindO_ok, ab, bindO_ok, cond_tt, lastD_ok h.n64 (by omega), bindO_ok, ai, bindO_ok]
 rw [gS_pos (by rw [shut_eq, w4]; omega)]
 simp only [joinC_pos hN0, cond_ff, cond_tt]
 have k1 : (M.segs.length + 1) * 57 ≤ 549755813888 := by omega
 have k2 : (M.out.length + 1) * 9 ≤ 549755813888 := by omega
 have k3 : ((c.u.pre : Int).toNat + 1) * 5 ≤ 549755813888 := by simp only [Int.toNat_natCast]; omega
 have sp := segPut (L := M.segs) { begM c.u M with smp := winM c.u M ++ [clean1 x] }
 simp only [begM, List.length_append, List.length_singleton, hw] at sp
 by_cases hl : (winM c.u M).length + 1 = c.u.pre + c.u.post
 ·have e1 : ((c.u.pre + 1 : Nat) : Int) = ((c.u.pre + c.u.post : Nat) : Int) := by omega
  rw [if_pos hl, stepM_beginEnd hb hl]
  refine winC h.ring (fun hp => ?_) (fun hp => ?_)
  ·rw [winW h.ring hp, gS_pos k3]
   refine ringC h.ring (fun _ => ?_) (fun h0 => absurd h0 (by omega))
   rw [gS_pos k1, gS_pos k2]
   simp only [shut_eq, w1, w2, w3, w4, w5, w6, w7, w8, w9, w10, tm h.ring, Int.toNat_natCast, Nat.mul_one, ringCells, condO_beq, e1, if_true, smpPut, outPut, sp, apRN, List.length_set, List.length_append, List.length_singleton, begM]
   rfl
  ·rw [win0 h.ring hp, gS_pos k3]
   refine ringC h.ring (fun h0 => absurd h0 (by omega)) (fun _ => ?_)
   rw [gS_pos k1, gS_pos k2]
   simp only [shut_eq, w1, w2, w3, w4, w5, w6, w7, w8, w9, w10, set0 h.ring hp, Int.toNat_natCast, Nat.mul_one, condO_beq, e1, if_true, smpPut, outPut, sp, apRN, List.length_append, List.length_singleton, begM]
   rfl
 ·have e1 : ¬ ((c.u.pre + 1 : Nat) : Int) = ((c.u.pre + c.u.post : Nat) : Int) := by omega
  rw [if_neg hl, stepM_begin hb hl]
  refine winC h.ring (fun hp => ?_) (fun hp => ?_)
  ·rw [winW h.ring hp, gS_pos k3]
   refine ringC h.ring (fun _ => ?_) (fun h0 => absurd h0 (by omega))
   simp only [shut_eq, w1, w2, w3, w4, w5, w6, w7, w8, w9, w10, tm h.ring, Int.toNat_natCast, Nat.mul_one, ringCells, condO_beq, e1, if_false, smpPut, outPut, apRO, List.length_set, List.length_append, List.length_singleton, begM, hw]
   rw [gS_pos k2]
   rfl
  ·rw [win0 h.ring hp, gS_pos k3]
   refine ringC h.ring (fun h0 => absurd h0 (by omega)) (fun _ => ?_)
   simp only [shut_eq, w1, w2, w3, w4, w5, w6, w7, w8, w9, w10, set0 h.ring hp, Int.toNat_natCast, Nat.mul_one, condO_beq, e1, if_false, smpPut, outPut, apRO, List.length_append, List.length_singleton, begM, hw]
   rw [gS_pos k2]
   rfl
theorem stepO_step (hN : 5 ≤ N) (hu : SUok c.u) (h : WF c.u M) (ho : M.opn = some s) (ht : M.time = i) (hne : ∀ a bl', al = a :: bl' → a ≠ i) (hn : i < c.os.length) (hm : c.m = c.os.length) (hB : Bls c.m c.fs) (h5 : c.os.length ≤ 5000) :
  apTO (stepO36 N r8 r9 ra rb) c al i M s =
   if s.smp.length + 1 = c.u.pre + c.u.post then apRN ra c al (i + 1) (stepM clean1 c.u (c.os.getD i (some 0)) ((boolsOf c.fs).getD i false) M)
   else apRO rb c al (i + 1) (stepM clean1 c.u (c.os.getD i (some 0)) ((boolsOf c.fs).getD i false) M) { s with smp := s.smp ++ [clean1 (c.os.getD i (some 0))] } := by
 have hN0 : 0 < N := by omega
 subst ht
 unfold apTO stepO36
 have hl0 : 0 < c.fs.length := by rw [hB.2.2]; omega
 rw [head_ne hne, cS_pos (by omega), gS_pos ⟨by omega, by omega⟩]
 have g0 : (!(false && c.os.length.beq 0)) = true := rfl
 rw [shut_eq, g0]
 show bindO _ _ = _
 rw [flo_get hn, bindO_ok, gS_pos ⟨by omega, by omega, hl0⟩, bool_get hB (by omega), bindO_ok]
 generalize hbv : (boolsOf c.fs).getD M.time false = b
 generalize hxv : c.os.getD M.time (some 0) = x
 obtain ⟨o1, o2, o3, o4, o5, o6⟩ := h.opn s ho
 have t1 := h.trig
 have t2 := h.seen
 have t7 := h.comp
 have b1 := hu.pre
 have b2 := hu.post
 have ab : asBool (AV.bool false) = some false := rfl
 have w2 : IntKind.i64.wrap ((M.time : Int) + 1) = ((M.time + 1 : Nat) : Int) := by rw [wrap64] <;> omega
 have w3 : IntKind.i64.wrap ((M.trig : Int) + 1) = ((M.trig + 1 : Nat) : Int) := by rw [wrap64] <;> omega
 have w4 : IntKind.i64.wrap ((c.u.pre : Int) + (c.u.post : Int)) = ((c.u.pre + c.u.post : Nat) : Int) := by rw [wrap64] <;> omega
 have w8 : IntKind.i64.wrap ((s.missed : Int) + 1) = ((s.missed + 1 : Nat) : Int) := by rw [wrap64] <;> omega
 have w9 : IntKind.i64.wrap ((M.seen : Int) + ((s.missed + 1 : Nat) : Int)) = ((M.seen + s.missed + 1 : Nat) : Int) := by rw [wrap64] <;> omega
 have w10 : IntKind.i64.wrap ((M.comp : Int) + 1) = ((M.comp + 1 : Nat) : Int) := by rw [wrap64] <;> omega
 have k1 : (M.segs.length + 1) * 57 ≤ 549755813888 := by omega
 have k3 : (s.smp.length + 1) * 5 ≤ 549755813888 := by omega
 have sp := segPut (L := M.segs) { s with smp := s.smp ++ [clean1 x] }
 simp only [List.length_append, List.length_singleton] at sp
 cases b with
 | false =>
  rw [cond_ff]
  simp only [joinC_pos hN0, cond_ff]
  by_cases hl : s.smp.length + 1 = c.u.pre + c.u.post
  ·have e1 : ((s.smp.length + 1 : Nat) : Int) = ((c.u.pre + c.u.post : Nat) : Int) := by omega
   rw [if_pos hl, stepM_end ho hl, gS_pos k3]
   refine ringC h.ring (fun hp => ?_) (fun hp => ?_)
   ·rw [gS_pos k1]
    simp only [shut_eq, w2, w4, w8, w9, w10, tm h.ring, Int.toNat_natCast, Nat.mul_one, ringCells, condO_beq, e1, if_true, smpPut, sp, apRN, List.length_set, List.length_append, List.length_singleton]
    rfl
   ·rw [gS_pos k1]
    simp only [shut_eq, w2, w4, w8, w9, w10, set0 h.ring hp, Int.toNat_natCast, Nat.mul_one, condO_beq, e1, if_true, smpPut, sp, apRN, List.length_append, List.length_singleton]
    rfl
  ·have e1 : ¬ ((s.smp.length + 1 : Nat) : Int) = ((c.u.pre + c.u.post : Nat) : Int) := by omega
   rw [if_neg hl, stepM_more ho hl, gS_pos k3]
   refine ringC h.ring (fun hp => ?_) (fun hp => ?_)
   ·simp only [shut_eq, w2, w4, w8, w9, w10, tm h.ring, Int.toNat_natCast, Nat.mul_one, ringCells, condO_beq, e1, if_false, smpPut, apRO, List.length_set, List.length_append, List.length_singleton]
    rfl
   ·simp only [shut_eq, w2, w4, w8, w9, w10, set0 h.ring hp, Int.toNat_natCast, Nat.mul_one, condO_beq, e1, if_false, smpPut, apRO, List.length_append, List.length_singleton]
    rfl
 | true =>
  rw [cond_tt, accO_ok hN, bindO_ok, ab, bindO_ok, cond_ff]
  simp only [joinC_pos hN0, cond_ff, cond_tt]
  by_cases hl : s.smp.length + 1 = c.u.pre + c.u.post
  ·have e1 : ((s.smp.length + 1 : Nat) : Int) = ((c.u.pre + c.u.post : Nat) : Int) := by omega
   rw [if_pos hl, stepM_end ho hl, gS_pos k3]
   refine ringC h.ring (fun hp => ?_) (fun hp => ?_)
   ·rw [gS_pos k1]
    simp only [shut_eq, w2, w3, w4, w8, w9, w10, tm h.ring, Int.toNat_natCast, Nat.mul_one, ringCells, condO_beq, e1, if_true, smpPut, sp, apRN, List.length_set, List.length_append, List.length_singleton]
    rfl
   ·rw [gS_pos k1]
    simp only [shut_eq, w2, w3, w4, w8, w9, w10, set0 h.ring hp, Int.toNat_natCast, Nat.mul_one, condO_beq, e1, if_true, smpPut, sp, apRN, List.length_append, List.length_singleton]
    rfl
  ·have e1 : ¬ ((s.smp.length + 1 : Nat) : Int) = ((c.u.pre + c.u.post : Nat) : Int) := by omega
   rw [if_neg hl, stepM_more ho hl, gS_pos k3]
   refine ringC h.ring (fun hp => ?_) (fun hp => ?_)
   ·simp only [shut_eq, w2, w3, w4, w8, w9, w10, tm h.ring, Int.toNat_natCast, Nat.mul_one, ringCells, condO_beq, e1, if_false, smpPut, apRO, List.length_set, List.length_append, List.length_singleton]
    rfl
   ·simp only [shut_eq, w2, w3, w4, w8, w9, w10, set0 h.ring hp, Int.toNat_natCast, Nat.mul_one, condO_beq, e1, if_false, smpPut, apRO, List.length_append, List.length_singleton]
    rfl
end
end Go.Abs.A36
end

section
/- What errors that are 0 say. -/
set_option linter.unusedVariables false
set_option linter.unusedSimpArgs false
namespace Go.Abs
open Go.Proofs Classical Go.Mach
section
variable {a b c d : Int} {n m q : Nat} {cs fs ar : List AV}
theorem nz4 {w x y z : Int} (h : firstNZ [w, x, y, z] = 0) : w = 0 ∧ x = 0 ∧ y = 0 ∧ z = 0 := by
 simp only [firstNZ] at h
 by_cases h1 : w = 0
 ·by_cases h2 : x = 0
  ·by_cases h3 : y = 0
   ·by_cases h4 : z = 0
    ·exact ⟨h1, h2, h3, h4⟩
    ·simp [h1, h2, h3, h4] at h
   ·simp [h1, h2, h3] at h
  ·simp [h1, h2] at h
 ·simp [h1] at h
theorem nz3 {w x y : Int} (h : firstNZ [w, x, y] = 0) : w = 0 ∧ x = 0 ∧ y = 0 := by
 simp only [firstNZ] at h
 by_cases h1 : w = 0
 ·by_cases h2 : x = 0
  ·by_cases h3 : y = 0
   ·exact ⟨h1, h2, h3⟩
   ·simp [h1, h2, h3] at h
  ·simp [h1, h2] at h
 ·simp [h1] at h
theorem acq_ok (hI : Ints q ar) (hB : Bls m fs) (h : acqE a b c d n cs m q ar = 0) : n ≤ 4096 ∧ (flosOf cs).all finB = true ∧ m = n ∧ ShotsOk a b c d n fs q ar (n : Int) := by
 obtain ⟨h1, h2, h3, h4⟩ := nz4 h
 obtain ⟨h5, h6⟩ := Arms.of hI h4
 have h7 : n ≤ 4096 ∧ (flosOf cs).all finB = true := by
  unfold sampErr at h2
  split at h2
  ·cases h2
  ·split at h2
   ·exact ⟨by omega, by assumption⟩
   ·cases h2
 have h8 : m = n := by
  by_cases e : m = n
  ·exact e
  ·rw [if_neg e] at h3; cases h3
 subst h8
 exact ⟨h7.1, h7.2, rfl, h1, hB, by omega, h5, by omega, by omega, by rw [Int.toNat_natCast]; exact h6⟩
theorem acc_ok (hI : Ints q ar) (hB : Bls m fs) (h : accE a b c d m q ar = 0) : ShotsOk a b c d m fs q ar (m : Int) := by
 obtain ⟨h1, h2, h3⟩ := nz3 h
 obtain ⟨h5, h6⟩ := Arms.of hI h3
 have h7 : m ≤ 4096 := by
  by_cases e : m > 4096
  ·rw [if_pos e] at h2; cases h2
  ·omega
 exact ⟨h1, hB, by omega, h5, by omega, by omega, by rw [Int.toNat_natCast]; exact h6⟩
end
end Go.Abs
end

section
/- The run of the machine that Accepted runs. -/
set_option linter.unusedVariables false
set_option linter.unusedSimpArgs false
set_option maxRecDepth 100000
namespace Go.Abs.A36
open Go.Proofs Classical Go.Mach
def fin (M : MO) : Option (List RLeaf) := some [RLeaf.fz M.out.length (natsL M.out), RLeaf.v (AV.int IntKind.i64 (0 : Int))]
noncomputable def run (c : Ctx) (al : List Nat) (M : MO) : MO := runArms (some 0) clean1 c.u c.os (boolsOf c.fs) c.os.length al M
structure Good (N : Nat) (c : Ctx) : Prop where
 n5 : 5 ≤ N
 su : SUok c.u
 m : c.m = c.os.length
 bls : Bls c.m c.fs
 h5 : c.os.length ≤ 5000
 n1 : c.n1 = ((c.os.length + 1 : Nat) : Int)
 big : 300 ≤ N
structure St (c : Ctx) (al : List Nat) (i : Nat) (M : MO) : Prop where
 wf : WF c.u M
 le : i ≤ c.os.length + 1
 on : i ≤ c.os.length → M.time = i ∧ Asc i al c.os.length
 off : i = c.os.length + 1 → al = [] ∧ M.time = c.os.length
 few : al.length ≤ 256
def Out (c : Ctx) (k : Nat) (r : RN36 × RO36 × PUnit.{1}) : Prop := ∀ i M al, i + k = c.os.length + 1 → St c al i M →
 (M.opn = none → apRN r.1 c al i M = fin (run c al M)) ∧ (∀ s, M.opn = some s → apRO r.2.1 c al i M s = fin (run c al M))
section
variable {N : Nat} {c : Ctx} {M : MO} {i k : Nat} {al : List Nat} {s : SegO} {r : RN36 × RO36 × PUnit.{1}} {r8 : TN36} {r9 : TO36}
theorem St.next (hg : Good N c) (h : St c al i M) (hi : i < c.os.length) (hne : ∀ a bl', al = a :: bl' → a ≠ i) {x : Option Nat} {b : Bool} : St c al (i + 1) (stepM clean1 c.u x b M) := by
 obtain ⟨h1, h2⟩ := h.on (by omega)
 refine ⟨h.wf.step hg.su.post0, by omega, fun _ => ⟨by rw [stepM_time, h1], ?_⟩, fun he => by omega, h.few⟩
 cases al with
 | nil => have : i ≤ c.os.length := h2; show i + 1 ≤ c.os.length; omega
 | cons a al =>
  have := hne a al rfl
  exact ⟨by have := h2.1; omega, h2.2⟩
theorem run_next (h : St c al i M) (hi : i < c.os.length) (hne : ∀ a bl', al = a :: bl' → a ≠ i) : run c al M = run c al (stepM clean1 c.u (c.os.getD i (some 0)) ((boolsOf c.fs).getD i false) M) := by
 obtain ⟨h1, h2⟩ := h.on (by omega)
 subst h1
 exact runArms_step h2 hne hi
theorem nextN (hg : Good N c) (ih : ∀ j, j < k → Out c j r) (hk : i + k = c.os.length + 1) (h : St c al i M) (hi : i ≤ c.os.length) (hne : ∀ a bl', al = a :: bl' → a ≠ i) (ho : M.opn = none) : apTN (stepN36 N r8 r.1 r.2.1) c al i M = fin (run c al M) := by
 obtain ⟨h1, h2⟩ := h.on hi
 have h5 := hg.h5
 by_cases hlt : i < c.os.length
 ·rw [run_next h hlt hne]
  have hS := h.next hg hlt hne (x := c.os.getD i (some 0)) (b := (boolsOf c.fs).getD i false)
  have ih' := ih (k - 1) (by omega) (i + 1) _ al (by omega) hS
  by_cases hb : ((boolsOf c.fs).getD i false && accB c.u M) = true
  ·rw [stepN_acc hg.n5 hg.su h.wf ho h1 hne hlt hg.m hg.bls h5 hb]
   by_cases hl : (winM c.u M).length + 1 = c.u.pre + c.u.post
   ·rw [if_pos hl]; exact ih'.1 (by rw [stepM_beginEnd hb hl])
   ·rw [if_neg hl]; exact ih'.2 _ (by rw [stepM_begin hb hl])
  ·have hb : ((boolsOf c.fs).getD i false && accB c.u M) = false := by simpa using hb
   rw [stepN_idle hg.n5 hg.su h.wf ho h1 hne hlt hg.m hg.bls h5 hb]
   exact ih'.1 (by rw [stepM_idle ho hb])
 ·have hn : c.os.length = i := by omega
  have ha : al = [] := by
   cases al with
   | nil => rfl
   | cons a al => have := hne a al rfl; have := h2.1; have := h2.2.le; omega
  subst ha
  rw [stepN_over hne hn (by omega)]
  have hS : St c [] (i + 1) M := ⟨h.wf, by omega, fun he => by omega, fun _ => ⟨rfl, by omega⟩, by simp⟩
  exact (ih (k - 1) (by omega) (i + 1) M [] (by omega) hS).1 ho
theorem nextO (hg : Good N c) (ih : ∀ j, j < k → Out c j r) (hk : i + k = c.os.length + 1) (h : St c al i M) (hi : i ≤ c.os.length) (hne : ∀ a bl', al = a :: bl' → a ≠ i) (ho : M.opn = some s) : apTO (stepO36 N r8 r9 r.1 r.2.1) c al i M s = fin (run c al M) := by
 obtain ⟨h1, h2⟩ := h.on hi
 have h5 := hg.h5
 by_cases hlt : i < c.os.length
 ·rw [run_next h hlt hne]
  have hS := h.next hg hlt hne (x := c.os.getD i (some 0)) (b := (boolsOf c.fs).getD i false)
  have ih' := ih (k - 1) (by omega) (i + 1) _ al (by omega) hS
  rw [stepO_step hg.n5 hg.su h.wf ho h1 hne hlt hg.m hg.bls h5]
  by_cases hl : s.smp.length + 1 = c.u.pre + c.u.post
  ·rw [if_pos hl]; exact ih'.1 (by rw [stepM_end ho hl])
  ·rw [if_neg hl]; exact ih'.2 _ (by rw [stepM_more ho hl])
 ·have hn : c.os.length = i := by omega
  have ha : al = [] := by
   cases al with
   | nil => rfl
   | cons a al => have := hne a al rfl; have := h2.1; have := h2.2.le; omega
  subst ha
  rw [stepO_over hne hn (by omega)]
  have hS : St c [] (i + 1) M := ⟨h.wf, by omega, fun he => by omega, fun _ => ⟨rfl, by omega⟩, by simp⟩
  exact (ih (k - 1) (by omega) (i + 1) M [] (by omega) hS).2 s ho
theorem St.arm {al : List Nat} (h : St c (i :: al) i M) (hi : i ≤ c.os.length) : St c al i (rearmM (some 0) c.u M) ∧ run c (i :: al) M = run c al (rearmM (some 0) c.u M) ∧ (rearmM (some 0) c.u M).time = i := by
 obtain ⟨h1, h2⟩ := h.on hi
 have ht : (rearmM (some 0) c.u M).time = i := by unfold rearmM; split <;> exact h1
 refine ⟨⟨h.wf.rearm, h.le, fun _ => ⟨ht, h2.2⟩, fun he => by omega, by have := h.few; simp only [List.length_cons] at this; omega⟩, runArms_arm h1, ht⟩
theorem rearm_none (ho : M.opn = none) {z : Option Nat} {u : SU} : (rearmM z u M).opn = none := by unfold rearmM; split <;> first | exact ho | rfl
theorem innN (hg : Good N c) (ih : ∀ j, j < k → Out c j r) (hk : i + k = c.os.length + 1) (hi : i ≤ c.os.length) (bot : TN36 × PUnit.{1}) (h : St c al i M) (ho : M.opn = none) :
  apTN (loopC N (fun (r_8 : TN36 × PUnit.{1}) => (stepN36 N r_8.1 r.1 r.2.1, PUnit.unit)) bot).1 c al i M = fin (run c al M) := by
 refine loopC_rule (fun j (q : TN36 × PUnit.{1}) => ∀ al M, al.length = j → St c al i M → M.opn = none → apTN q.1 c al i M = fin (run c al M)) ?_ N al.length (by have := h.few; have := hg.big; omega) al M rfl h ho
 intro j q ihj al M hj h ho
 cases al with
 | nil => exact nextN hg ih hk h hi (fun a bl' e => by cases e) ho
 | cons a al =>
  by_cases he : a = i
  ·subst he
   obtain ⟨a1, a2, a3⟩ := h.arm hi
   rw [a2, stepN_arm hg.su h.wf ho (h.on hi).1]
   exact ihj al.length (by simp only [List.length_cons] at hj; omega) al _ rfl a1 (rearm_none ho)
  ·exact nextN hg ih hk h hi (fun a' bl' e => by cases e; exact he) ho
theorem innO (hg : Good N c) (ih : ∀ j, j < k → Out c j r) (hk : i + k = c.os.length + 1) (hi : i ≤ c.os.length) (bot : TN36 × TO36 × PUnit.{1}) (h : St c al i M) (ho : M.opn = some s) :
  apTO (loopC N (fun (r_8 : TN36 × TO36 × PUnit.{1}) => (stepN36 N r_8.1 r.1 r.2.1, stepO36 N r_8.1 r_8.2.1 r.1 r.2.1, PUnit.unit)) bot).2.1 c al i M s = fin (run c al M) := by
 refine (loopC_rule (fun j (q : TN36 × TO36 × PUnit.{1}) => ∀ al M, al.length = j → St c al i M → (M.opn = none → apTN q.1 c al i M = fin (run c al M)) ∧ (∀ s, M.opn = some s → apTO q.2.1 c al i M s = fin (run c al M))) ?_ N al.length (by have := h.few; have := hg.big; omega) al M rfl h).2 s ho
 intro j q ihj al M hj h
 cases al with
 | nil => exact ⟨fun ho => nextN hg ih hk h hi (fun a bl' e => by cases e) ho, fun s ho => nextO hg ih hk h hi (fun a bl' e => by cases e) ho⟩
 | cons a al =>
  by_cases he : a = i
  ·subst he
   obtain ⟨a1, a2, a3⟩ := h.arm hi
   have ih1 := ihj al.length (by simp only [List.length_cons] at hj; omega) al _ rfl a1
   refine ⟨fun ho => ?_, fun s ho => ?_⟩
   ·rw [a2, stepN_arm hg.su h.wf ho (h.on hi).1]
    exact ih1.1 (rearm_none ho)
   ·rw [a2, stepO_arm hg.su h.wf ho (h.on hi).1]
    refine ih1.1 ?_
    unfold rearmM
    have := (h.wf.opn s ho).1
    rw [if_neg (by omega)]
  ·exact ⟨fun ho => nextN hg ih hk h hi (fun a' bl' e => by cases e; exact he) ho, fun s ho => nextO hg ih hk h hi (fun a' bl' e => by cases e; exact he) ho⟩
theorem outer (hg : Good N c) (hN : c.os.length + 1 < N) (bot : RN36 × RO36 × PUnit.{1}) : ∀ k, k ≤ c.os.length + 1 → Out c k (loopC N (outF36 N) bot) := by
 intro k hk
 refine loopC_rule (fun k r => Out c k r) ?_ N k (by omega)
 intro k r ih i M al hik h
 by_cases hi : i ≤ c.os.length
 ·have hlt : (i : Int) < c.n1 := by rw [hg.n1]; omega
  refine ⟨fun ho => ?_, fun s ho => ?_⟩
  ·exact (cS_pos hlt).trans (innN hg ih hik hi _ h ho)
  ·exact (cS_pos hlt).trans (innO hg ih hik hi _ h ho)
 ·have hlt : ¬ (i : Int) < c.n1 := by rw [hg.n1]; omega
  obtain ⟨h1, h2⟩ := h.off (by have := h.le; omega)
  subst h1
  have hr : run c [] M = M := runArms_done h2
  rw [hr]
  exact ⟨fun ho => cS_neg hlt, fun s ho => cS_neg hlt⟩
end
end Go.Abs.A36
end

section
/- The rounds of the machine that Acquire runs. -/
set_option linter.unusedVariables false
set_option linter.unusedSimpArgs false
set_option maxRecDepth 100000
namespace Go.Abs.A35
open Go.Proofs Classical Go.Mach
open Go.Abs.A36 (natsL natsL_get natsL_len natsL_tail zeros head_ne head_eq flo_get bool_get tm ringC winC winW win0 segPut smpPut outPut set0 MO Dead Ctx rearm_none run run_next)
def apTN (f : TN35) (c : Ctx) (al : List Nat) (i : Nat) (M : MO) : Option (List RLeaf) :=
 f c.os.length (flosL c.os) c.m c.fs al.length (natsL al) (i : Int) c.n1 (i : Int) c.d.a c.d.al1 M.ring.length (flosL M.ring) (c.u.pre : Int) (c.u.post : Int) (c.u.hold : Int) (c.u.lim : Int) (M.time : Int) (M.trig : Int) (M.seen : Int) (M.armed : Int) (M.comp : Int) c.d.b c.d.bl1 c.d.c c.d.cl1 M.out.length (natsL M.out) M.segs.length (segCells M.segs)
def apTO (f : TO35) (c : Ctx) (al : List Nat) (i : Nat) (M : MO) (s : SegO) : Option (List RLeaf) :=
 f c.os.length (flosL c.os) c.m c.fs al.length (natsL al) (i : Int) c.n1 (i : Int) c.d.a c.d.al1 M.ring.length (flosL M.ring) (c.u.pre : Int) (c.u.post : Int) (c.u.hold : Int) (c.u.lim : Int) (M.time : Int) (M.trig : Int) (M.seen : Int) (M.armed : Int) (M.comp : Int) c.d.b c.d.bl1 c.d.c c.d.cl1 M.out.length (natsL M.out) M.segs.length (segCells M.segs) (s.start : Int) (s.trig : Int) (s.lost : Int) (s.missed : Int) s.smp.length (flosL s.smp)
def apRN (f : RN35) (c : Ctx) (al : List Nat) (i : Nat) (M : MO) : Option (List RLeaf) :=
 f c.os.length (flosL c.os) c.m c.fs al.length (natsL al) c.n1 (i : Int) c.d.a c.d.al1 M.ring.length (flosL M.ring) (c.u.pre : Int) (c.u.post : Int) (c.u.hold : Int) (c.u.lim : Int) (M.time : Int) (M.trig : Int) (M.seen : Int) (M.armed : Int) (M.comp : Int) c.d.b c.d.bl1 c.d.c c.d.cl1 M.out.length (natsL M.out) M.segs.length (segCells M.segs)
def apRO (f : RO35) (c : Ctx) (al : List Nat) (i : Nat) (M : MO) (s : SegO) : Option (List RLeaf) :=
 f c.os.length (flosL c.os) c.m c.fs al.length (natsL al) c.n1 (i : Int) c.d.a c.d.al1 M.ring.length (flosL M.ring) (c.u.pre : Int) (c.u.post : Int) (c.u.hold : Int) (c.u.lim : Int) (M.time : Int) (M.trig : Int) (M.seen : Int) (M.armed : Int) (M.comp : Int) c.d.b c.d.bl1 c.d.c c.d.cl1 M.out.length (natsL M.out) M.segs.length (segCells M.segs) (s.start : Int) (s.trig : Int) (s.lost : Int) (s.missed : Int) s.smp.length (flosL s.smp)
section
variable {N : Nat} {r8 : TN35} {r9 : TO35} {ra : RN35} {rb : RO35} {c : Ctx} {M : MO} {i a : Nat} {al : List Nat} {s : SegO}
theorem stepN_arm (hu : SUok c.u) (h : WF c.u M) (ho : M.opn = none) (ht : M.time = i) : apTN (stepN35 N r8 ra rb) c (i :: al) i M = apTN r8 c al i (rearmM (some 0) c.u M) := by
 unfold apTN stepN35
 rw [head_eq]
 have hp := hu.post0
 have c1 : ¬ (c.u.post : Int) = 0 := by omega
 have g1 : (0 : Int) ≤ 1 ∧ 1 ≤ ((i :: al).length : Int) ∧ ((i :: al).length : Int) ≤ ((i :: al).length : Int) := ⟨by omega, by simp; omega, Int.le_refl _⟩
 have g2 : (i :: al).length * 1 = (natsL (i :: al)).length := by rw [natsL_len, Nat.mul_one]
 have l1 : (((i :: al).length : Int)).toNat - 1 = al.length := by simp
 rw [shut_eq, condO_beq, if_neg c1]
 unfold rearmM
 by_cases h64 : 64 ≤ M.segs.length
 ·rw [if_pos h64, cS_pos (by omega), gS_pos g1, gS_pos g2, natsL_tail, l1]
 ·rw [if_neg h64, cS_neg (by omega), gS_pos g1, gS_pos g2, natsL_tail, l1, zeros, h.ring]
  simp only [List.length_replicate]
  rfl
theorem stepO_arm (hu : SUok c.u) (h : WF c.u M) (ho : M.opn = some s) (ht : M.time = i) : apTO (stepO35 N r8 r9 ra rb) c (i :: al) i M s = apTN r8 c al i (rearmM (some 0) c.u M) := by
 unfold apTO apTN stepO35
 rw [head_eq]
 have hp := hu.post0
 have c1 : ¬ (c.u.post : Int) = 0 := by omega
 have g1 : (0 : Int) ≤ 1 ∧ 1 ≤ ((i :: al).length : Int) ∧ ((i :: al).length : Int) ≤ ((i :: al).length : Int) := ⟨by omega, by simp; omega, Int.le_refl _⟩
 have g2 : (i :: al).length * 1 = (natsL (i :: al)).length := by rw [natsL_len, Nat.mul_one]
 have l1 : (((i :: al).length : Int)).toNat - 1 = al.length := by simp
 have h64 := (h.opn s ho).1
 rw [shut_eq, condO_beq, if_neg c1, cS_neg (by omega), gS_pos g1, gS_pos g2, natsL_tail, l1, zeros, h.ring]
 unfold rearmM
 rw [if_neg (by omega)]
 simp only [List.length_replicate]
 rfl
theorem stepN_over (hne : ∀ a bl', al = a :: bl' → a ≠ i) (hn : c.os.length = i) (hi : i ≤ 5000) : apTN (stepN35 N r8 ra rb) c al i M = apRN ra c al (i + 1) M := by
 unfold apTN apRN stepN35
 have w : IntKind.i64.wrap ((i : Int) + 1) = ((i + 1 : Nat) : Int) := by rw [wrap64] <;> omega
 rw [head_ne hne, cS_neg (by omega), shut_eq, w]
theorem stepO_over (hne : ∀ a bl', al = a :: bl' → a ≠ i) (hn : c.os.length = i) (hi : i ≤ 5000) : apTO (stepO35 N r8 r9 ra rb) c al i M s = apRO rb c al (i + 1) M s := by
 unfold apTO apRO stepO35
 have w : IntKind.i64.wrap ((i : Int) + 1) = ((i + 1 : Nat) : Int) := by rw [wrap64] <;> omega
 rw [head_ne hne, cS_neg (by omega), shut_eq, w]
theorem stepN_idle (hN : 5 ≤ N) (hu : SUok c.u) (h : WF c.u M) (ho : M.opn = none) (ht : M.time = i) (hne : ∀ a bl', al = a :: bl' → a ≠ i) (hn : i < c.os.length) (hm : c.m = c.os.length) (hB : Bls c.m c.fs) (h5 : c.os.length ≤ 5000)
  (hb : ((boolsOf c.fs).getD i false && accB c.u M) = false) : apTN (stepN35 N r8 ra rb) c al i M = apRN ra c al (i + 1) (stepM clean1 c.u (c.os.getD i (some 0)) ((boolsOf c.fs).getD i false) M) := by
 have hN0 : 0 < N := by omega
 unfold apTN stepN35
 have hl0 : 0 < c.fs.length := by rw [hB.2.2]; omega
 have hc0 : 0 < (flosL c.os).length := by rw [flosL_len]; omega
 rw [head_ne hne, cS_pos (by omega), gS_pos ⟨by omega, by omega, hc0⟩, flo_get hn, bindO_ok, gS_pos ⟨by omega, by omega, hl0⟩, bool_get hB (by omega), bindO_ok]
 generalize hbv : (boolsOf c.fs).getD i false = b at hb
 generalize hxv : c.os.getD i (some 0) = x
 have t1 := h.trig
 have w1 : IntKind.i64.wrap ((i : Int) + 1) = ((i + 1 : Nat) : Int) := by rw [wrap64] <;> omega
 have w2 : IntKind.i64.wrap ((M.time : Int) + 1) = ((M.time + 1 : Nat) : Int) := by rw [wrap64] <;> omega
 have w3 : IntKind.i64.wrap ((M.trig : Int) + 1) = ((M.trig + 1 : Nat) : Int) := by rw [wrap64] <;> omega
 rw [stepM_idle ho hb]
 cases b with
 | false =>
  rw [cond_ff]
  simp only [joinC_pos hN0, cond_ff]
  refine ringC h.ring (fun hp => ?_) (fun hp => ?_)
  ·simp only [apRN, shut_eq, w1, w2, tm h.ring, Int.toNat_natCast, Nat.mul_one, ringCells, List.length_set]
   rfl
  ·simp only [apRN, shut_eq, w1, w2, set0 h.ring hp]
   rfl
 | true =>
  have ha : accB c.u M = false := by simpa using hb
  have ab : asBool (AV.bool false) = some false := rfl
  rw [cond_tt, accD_ok hN hu h ho (by omega), ha, bindO_ok, ab, bindO_ok]
  simp only [joinC_pos hN0, cond_ff, cond_tt]
  refine ringC h.ring (fun hp => ?_) (fun hp => ?_)
  ·simp only [apRN, shut_eq, w1, w2, w3, tm h.ring, Int.toNat_natCast, Nat.mul_one, ringCells, List.length_set]
   rfl
  ·simp only [apRN, shut_eq, w1, w2, w3, set0 h.ring hp]
   rfl
theorem stepN_acc (hN : 5 ≤ N) (hu : SUok c.u) (h : WF c.u M) (ho : M.opn = none) (ht : M.time = i) (hne : ∀ a bl', al = a :: bl' → a ≠ i) (hn : i < c.os.length) (hm : c.m = c.os.length) (hB : Bls c.m c.fs) (h5 : c.os.length ≤ 5000)
  (hb : ((boolsOf c.fs).getD i false && accB c.u M) = true) : apTN (stepN35 N r8 ra rb) c al i M =
   if (winM c.u M).length + 1 = c.u.pre + c.u.post then apRN ra c al (i + 1) (stepM clean1 c.u (c.os.getD i (some 0)) ((boolsOf c.fs).getD i false) M)
   else apRO rb c al (i + 1) (stepM clean1 c.u (c.os.getD i (some 0)) ((boolsOf c.fs).getD i false) M) { begM c.u M with smp := winM c.u M ++ [clean1 (c.os.getD i (some 0))] } := by
 have hN0 : 0 < N := by omega
 subst ht
 unfold apTN stepN35
 have hl0 : 0 < c.fs.length := by rw [hB.2.2]; omega
 have hc0 : 0 < (flosL c.os).length := by rw [flosL_len]; omega
 rw [head_ne hne, cS_pos (by omega), gS_pos ⟨by omega, by omega, hc0⟩, flo_get hn, bindO_ok, gS_pos ⟨by omega, by omega, hl0⟩, bool_get hB (by omega), bindO_ok]
 generalize hbv : (boolsOf c.fs).getD M.time false = b at hb
 generalize hxv : c.os.getD M.time (some 0) = x
 have hbt : b = true := by revert hb; cases b <;> simp
 subst hbt
 have ha : accB c.u M = true := by simpa using hb
 have hA := acc_of ha
 have hs := hA.start h
 have hw := win_len h.ring
 have t1 := h.trig
 have t2 := h.seen
 have t6 := h.out
 have t7 := h.comp
 have a3 := hA.n64
 have b1 := hu.pre
 have b2 := hu.post
 have ab : asBool (AV.bool true) = some true := rfl
 have ai : ∀ z : Int, asInt .i64 (AV.int .i64 z) = some z := fun z => by simp [asInt]
 have w1 : IntKind.i64.wrap ((M.time : Int) + 1) = ((M.time + 1 : Nat) : Int) := by rw [wrap64] <;> omega
 have w2 : IntKind.i64.wrap ((M.time : Int) + 1) = ((M.time + 1 : Nat) : Int) := by rw [wrap64] <;> omega
 have w3 : IntKind.i64.wrap ((M.trig : Int) + 1) = ((M.trig + 1 : Nat) : Int) := by rw [wrap64] <;> omega
 have w4 : IntKind.i64.wrap ((c.u.pre : Int) + (c.u.post : Int)) = ((c.u.pre + c.u.post : Nat) : Int) := by rw [wrap64] <;> omega
 have w5 : IntKind.i64.wrap ((M.time : Int) - (c.u.pre : Int)) = ((M.time - c.u.pre : Nat) : Int) := by rw [wrap64] <;> omega
 have w6 : IntKind.i64.wrap (((M.time - c.u.pre : Nat) : Int) - (lastF M.segs : Int)) = ((M.time - c.u.pre - lastF M.segs : Nat) : Int) := by rw [wrap64] <;> omega
 have w7 : IntKind.i64.wrap ((M.trig : Int) - (M.seen : Int)) = ((M.trig - M.seen : Nat) : Int) := by rw [wrap64] <;> omega
 have w8 : IntKind.i64.wrap (((M.trig - M.seen : Nat) : Int) + 1) = ((M.trig - M.seen + 1 : Nat) : Int) := by rw [wrap64] <;> omega
 have w9 : IntKind.i64.wrap ((M.seen : Int) + ((M.trig - M.seen + 1 : Nat) : Int)) = ((M.seen + (M.trig - M.seen) + 1 : Nat) : Int) := by rw [wrap64] <;> omega
 have w10 : IntKind.i64.wrap ((M.comp : Int) + 1) = ((M.comp + 1 : Nat) : Int) := by rw [wrap64] <;> omega
 rw [cond_tt, accD_ok hN hu h ho (by omega), ha, bindO_ok, ab, bindO_ok, cond_tt, lastD_ok h.n64 (by omega), bindO_ok, ai, bindO_ok]
 rw [gS_pos (by rw [shut_eq, w4]; omega)]
 simp only [joinC_pos hN0, cond_ff, cond_tt]
 have k1 : (M.segs.length + 1) * 57 ≤ 549755813888 := by omega
 have k2 : (M.out.length + 1) * 9 ≤ 549755813888 := by omega
 have k3 : ((c.u.pre : Int).toNat + 1) * 5 ≤ 549755813888 := by simp only [Int.toNat_natCast]; omega
 have sp := segPut (L := M.segs) { begM c.u M with smp := winM c.u M ++ [clean1 x] }
 simp only [begM, List.length_append, List.length_singleton, hw] at sp
 by_cases hl : (winM c.u M).length + 1 = c.u.pre + c.u.post
 ·have e1 : ((c.u.pre + 1 : Nat) : Int) = ((c.u.pre + c.u.post : Nat) : Int) := by omega
  rw [if_pos hl, stepM_beginEnd hb hl]
  refine winC h.ring (fun hp => ?_) (fun hp => ?_)
  ·rw [winW h.ring hp, gS_pos k3]
   refine ringC h.ring (fun _ => ?_) (fun h0 => absurd h0 (by omega))
   rw [gS_pos k1, gS_pos k2]
   simp only [shut_eq, w1, w2, w3, w4, w5, w6, w7, w8, w9, w10, tm h.ring, Int.toNat_natCast, Nat.mul_one, ringCells, condO_beq, e1, if_true, smpPut, outPut, sp, apRN, List.length_set, List.length_append, List.length_singleton, begM]
   rfl
  ·rw [win0 h.ring hp, gS_pos k3]
   refine ringC h.ring (fun h0 => absurd h0 (by omega)) (fun _ => ?_)
   rw [gS_pos k1, gS_pos k2]
   simp only [shut_eq, w1, w2, w3, w4, w5, w6, w7, w8, w9, w10, set0 h.ring hp, Int.toNat_natCast, Nat.mul_one, condO_beq, e1, if_true, smpPut, outPut, sp, apRN, List.length_append, List.length_singleton, begM]
   rfl
 ·have e1 : ¬ ((c.u.pre + 1 : Nat) : Int) = ((c.u.pre + c.u.post : Nat) : Int) := by omega
  rw [if_neg hl, stepM_begin hb hl]
  refine winC h.ring (fun hp => ?_) (fun hp => ?_)
  ·rw [winW h.ring hp, gS_pos k3]
   refine ringC h.ring (fun _ => ?_) (fun h0 => absurd h0 (by omega))
   simp only [shut_eq, w1, w2, w3, w4, w5, w6, w7, w8, w9, w10, tm h.ring, Int.toNat_natCast, Nat.mul_one, ringCells, condO_beq, e1, if_false, smpPut, outPut, apRO, List.length_set, List.length_append, List.length_singleton, begM, hw]
   rw [gS_pos k2]
   rfl
  ·rw [win0 h.ring hp, gS_pos k3]
   refine ringC h.ring (fun h0 => absurd h0 (by omega)) (fun _ => ?_)
   simp only [shut_eq, w1, w2, w3, w4, w5, w6, w7, w8, w9, w10, set0 h.ring hp, Int.toNat_natCast, Nat.mul_one, condO_beq, e1, if_false, smpPut, outPut, apRO, List.length_append, List.length_singleton, begM, hw]
   rw [gS_pos k2]
   rfl
theorem stepO_step (hN : 5 ≤ N) (hu : SUok c.u) (h : WF c.u M) (ho : M.opn = some s) (ht : M.time = i) (hne : ∀ a bl', al = a :: bl' → a ≠ i) (hn : i < c.os.length) (hm : c.m = c.os.length) (hB : Bls c.m c.fs) (h5 : c.os.length ≤ 5000) :
  apTO (stepO35 N r8 r9 ra rb) c al i M s =
   if s.smp.length + 1 = c.u.pre + c.u.post then apRN ra c al (i + 1) (stepM clean1 c.u (c.os.getD i (some 0)) ((boolsOf c.fs).getD i false) M)
   else apRO rb c al (i + 1) (stepM clean1 c.u (c.os.getD i (some 0)) ((boolsOf c.fs).getD i false) M) { s with smp := s.smp ++ [clean1 (c.os.getD i (some 0))] } := by
 have hN0 : 0 < N := by omega
 subst ht
 unfold apTO stepO35
 have hl0 : 0 < c.fs.length := by rw [hB.2.2]; omega
 have hc0 : 0 < (flosL c.os).length := by rw [flosL_len]; omega
 rw [head_ne hne, cS_pos (by omega), gS_pos ⟨by omega, by omega, hc0⟩, flo_get hn, bindO_ok, gS_pos ⟨by omega, by omega, hl0⟩, bool_get hB (by omega), bindO_ok]
 generalize hbv : (boolsOf c.fs).getD M.time false = b
 generalize hxv : c.os.getD M.time (some 0) = x
 obtain ⟨o1, o2, o3, o4, o5, o6⟩ := h.opn s ho
 have t1 := h.trig
 have t2 := h.seen
 have t7 := h.comp
 have b1 := hu.pre
 have b2 := hu.post
 have ab : asBool (AV.bool false) = some false := rfl
 have w2 : IntKind.i64.wrap ((M.time : Int) + 1) = ((M.time + 1 : Nat) : Int) := by rw [wrap64] <;> omega
 have w3 : IntKind.i64.wrap ((M.trig : Int) + 1) = ((M.trig + 1 : Nat) : Int) := by rw [wrap64] <;> omega
 have w4 : IntKind.i64.wrap ((c.u.pre : Int) + (c.u.post : Int)) = ((c.u.pre + c.u.post : Nat) : Int) := by rw [wrap64] <;> omega
 have w8 : IntKind.i64.wrap ((s.missed : Int) + 1) = ((s.missed + 1 : Nat) : Int) := by rw [wrap64] <;> omega
 have w9 : IntKind.i64.wrap ((M.seen : Int) + ((s.missed + 1 : Nat) : Int)) = ((M.seen + s.missed + 1 : Nat) : Int) := by rw [wrap64] <;> omega
 have w10 : IntKind.i64.wrap ((M.comp : Int) + 1) = ((M.comp + 1 : Nat) : Int) := by rw [wrap64] <;> omega
 have k1 : (M.segs.length + 1) * 57 ≤ 549755813888 := by omega
 have k3 : (s.smp.length + 1) * 5 ≤ 549755813888 := by omega
 have sp := segPut (L := M.segs) { s with smp := s.smp ++ [clean1 x] }
 simp only [List.length_append, List.length_singleton] at sp
 cases b with
 | false =>
  rw [cond_ff]
  simp only [joinC_pos hN0, cond_ff]
  by_cases hl : s.smp.length + 1 = c.u.pre + c.u.post
  ·have e1 : ((s.smp.length + 1 : Nat) : Int) = ((c.u.pre + c.u.post : Nat) : Int) := by omega
   rw [if_pos hl, stepM_end ho hl, gS_pos k3]
   refine ringC h.ring (fun hp => ?_) (fun hp => ?_)
   ·rw [gS_pos k1]
    simp only [shut_eq, w2, w4, w8, w9, w10, tm h.ring, Int.toNat_natCast, Nat.mul_one, ringCells, condO_beq, e1, if_true, smpPut, sp, apRN, List.length_set, List.length_append, List.length_singleton]
    rfl
   ·rw [gS_pos k1]
    simp only [shut_eq, w2, w4, w8, w9, w10, set0 h.ring hp, Int.toNat_natCast, Nat.mul_one, condO_beq, e1, if_true, smpPut, sp, apRN, List.length_append, List.length_singleton]
    rfl
  ·have e1 : ¬ ((s.smp.length + 1 : Nat) : Int) = ((c.u.pre + c.u.post : Nat) : Int) := by omega
   rw [if_neg hl, stepM_more ho hl, gS_pos k3]
   refine ringC h.ring (fun hp => ?_) (fun hp => ?_)
   ·simp only [shut_eq, w2, w4, w8, w9, w10, tm h.ring, Int.toNat_natCast, Nat.mul_one, ringCells, condO_beq, e1, if_false, smpPut, apRO, List.length_set, List.length_append, List.length_singleton]
    rfl
   ·simp only [shut_eq, w2, w4, w8, w9, w10, set0 h.ring hp, Int.toNat_natCast, Nat.mul_one, condO_beq, e1, if_false, smpPut, apRO, List.length_append, List.length_singleton]
    rfl
 | true =>
  rw [cond_tt, accO_ok hN, bindO_ok, ab, bindO_ok, cond_ff]
  simp only [joinC_pos hN0, cond_ff, cond_tt]
  by_cases hl : s.smp.length + 1 = c.u.pre + c.u.post
  ·have e1 : ((s.smp.length + 1 : Nat) : Int) = ((c.u.pre + c.u.post : Nat) : Int) := by omega
   rw [if_pos hl, stepM_end ho hl, gS_pos k3]
   refine ringC h.ring (fun hp => ?_) (fun hp => ?_)
   ·rw [gS_pos k1]
    simp only [shut_eq, w2, w3, w4, w8, w9, w10, tm h.ring, Int.toNat_natCast, Nat.mul_one, ringCells, condO_beq, e1, if_true, smpPut, sp, apRN, List.length_set, List.length_append, List.length_singleton]
    rfl
   ·rw [gS_pos k1]
    simp only [shut_eq, w2, w3, w4, w8, w9, w10, set0 h.ring hp, Int.toNat_natCast, Nat.mul_one, condO_beq, e1, if_true, smpPut, sp, apRN, List.length_append, List.length_singleton]
    rfl
  ·have e1 : ¬ ((s.smp.length + 1 : Nat) : Int) = ((c.u.pre + c.u.post : Nat) : Int) := by omega
   rw [if_neg hl, stepM_more ho hl, gS_pos k3]
   refine ringC h.ring (fun hp => ?_) (fun hp => ?_)
   ·simp only [shut_eq, w2, w3, w4, w8, w9, w10, tm h.ring, Int.toNat_natCast, Nat.mul_one, ringCells, condO_beq, e1, if_false, smpPut, apRO, List.length_set, List.length_append, List.length_singleton]
    rfl
   ·simp only [shut_eq, w2, w3, w4, w8, w9, w10, set0 h.ring hp, Int.toNat_natCast, Nat.mul_one, condO_beq, e1, if_false, smpPut, apRO, List.length_append, List.length_singleton]
    rfl
end
def fin (M : MO) : Option (List RLeaf) := some [RLeaf.v (AV.list M.segs.length (segCells M.segs)), RLeaf.v (AV.int IntKind.i64 (0 : Int))]
def Out (c : Ctx) (k : Nat) (r : RN35 × RO35 × PUnit.{1}) : Prop := ∀ i M al, i + k = c.os.length + 1 → A36.St c al i M →
 (M.opn = none → apRN r.1 c al i M = fin (run c al M)) ∧ (∀ s, M.opn = some s → apRO r.2.1 c al i M s = fin (run c al M))
section
variable {N : Nat} {c : Ctx} {M : MO} {i k : Nat} {al : List Nat} {s : SegO} {r : RN35 × RO35 × PUnit.{1}} {r8 : TN35} {r9 : TO35}
theorem nextN (hg : A36.Good N c) (ih : ∀ j, j < k → Out c j r) (hk : i + k = c.os.length + 1) (h : A36.St c al i M) (hi : i ≤ c.os.length) (hne : ∀ a bl', al = a :: bl' → a ≠ i) (ho : M.opn = none) : apTN (stepN35 N r8 r.1 r.2.1) c al i M = fin (run c al M) := by
 obtain ⟨h1, h2⟩ := h.on hi
 have h5 := hg.h5
 by_cases hlt : i < c.os.length
 ·rw [run_next h hlt hne]
  have hS := h.next hg hlt hne (x := c.os.getD i (some 0)) (b := (boolsOf c.fs).getD i false)
  have ih' := ih (k - 1) (by omega) (i + 1) _ al (by omega) hS
  by_cases hb : ((boolsOf c.fs).getD i false && accB c.u M) = true
  ·rw [stepN_acc hg.n5 hg.su h.wf ho h1 hne hlt hg.m hg.bls h5 hb]
   by_cases hl : (winM c.u M).length + 1 = c.u.pre + c.u.post
   ·rw [if_pos hl]; exact ih'.1 (by rw [stepM_beginEnd hb hl])
   ·rw [if_neg hl]; exact ih'.2 _ (by rw [stepM_begin hb hl])
  ·have hb : ((boolsOf c.fs).getD i false && accB c.u M) = false := by simpa using hb
   rw [stepN_idle hg.n5 hg.su h.wf ho h1 hne hlt hg.m hg.bls h5 hb]
   exact ih'.1 (by rw [stepM_idle ho hb])
 ·have hn : c.os.length = i := by omega
  have ha : al = [] := by
   cases al with
   | nil => rfl
   | cons a al => have := hne a al rfl; have := h2.1; have := h2.2.le; omega
  subst ha
  rw [stepN_over hne hn (by omega)]
  have hS : A36.St c [] (i + 1) M := ⟨h.wf, by omega, fun he => by omega, fun _ => ⟨rfl, by omega⟩, by simp⟩
  exact (ih (k - 1) (by omega) (i + 1) M [] (by omega) hS).1 ho
theorem nextO (hg : A36.Good N c) (ih : ∀ j, j < k → Out c j r) (hk : i + k = c.os.length + 1) (h : A36.St c al i M) (hi : i ≤ c.os.length) (hne : ∀ a bl', al = a :: bl' → a ≠ i) (ho : M.opn = some s) : apTO (stepO35 N r8 r9 r.1 r.2.1) c al i M s = fin (run c al M) := by
 obtain ⟨h1, h2⟩ := h.on hi
 have h5 := hg.h5
 by_cases hlt : i < c.os.length
 ·rw [run_next h hlt hne]
  have hS := h.next hg hlt hne (x := c.os.getD i (some 0)) (b := (boolsOf c.fs).getD i false)
  have ih' := ih (k - 1) (by omega) (i + 1) _ al (by omega) hS
  rw [stepO_step hg.n5 hg.su h.wf ho h1 hne hlt hg.m hg.bls h5]
  by_cases hl : s.smp.length + 1 = c.u.pre + c.u.post
  ·rw [if_pos hl]; exact ih'.1 (by rw [stepM_end ho hl])
  ·rw [if_neg hl]; exact ih'.2 _ (by rw [stepM_more ho hl])
 ·have hn : c.os.length = i := by omega
  have ha : al = [] := by
   cases al with
   | nil => rfl
   | cons a al => have := hne a al rfl; have := h2.1; have := h2.2.le; omega
  subst ha
  rw [stepO_over hne hn (by omega)]
  have hS : A36.St c [] (i + 1) M := ⟨h.wf, by omega, fun he => by omega, fun _ => ⟨rfl, by omega⟩, by simp⟩
  exact (ih (k - 1) (by omega) (i + 1) M [] (by omega) hS).2 s ho
theorem innN (hg : A36.Good N c) (ih : ∀ j, j < k → Out c j r) (hk : i + k = c.os.length + 1) (hi : i ≤ c.os.length) (bot : TN35 × PUnit.{1}) (h : A36.St c al i M) (ho : M.opn = none) :
  apTN (loopC N (fun (r_8 : TN35 × PUnit.{1}) => (stepN35 N r_8.1 r.1 r.2.1, PUnit.unit)) bot).1 c al i M = fin (run c al M) := by
 refine loopC_rule (fun j (q : TN35 × PUnit.{1}) => ∀ al M, al.length = j → A36.St c al i M → M.opn = none → apTN q.1 c al i M = fin (run c al M)) ?_ N al.length (by have := h.few; have := hg.big; omega) al M rfl h ho
 intro j q ihj al M hj h ho
 cases al with
 | nil => exact nextN hg ih hk h hi (fun a bl' e => by cases e) ho
 | cons a al =>
  by_cases he : a = i
  ·subst he
   obtain ⟨a1, a2, a3⟩ := h.arm hi
   rw [a2, stepN_arm hg.su h.wf ho (h.on hi).1]
   exact ihj al.length (by simp only [List.length_cons] at hj; omega) al _ rfl a1 (rearm_none ho)
  ·exact nextN hg ih hk h hi (fun a' bl' e => by cases e; exact he) ho
theorem innO (hg : A36.Good N c) (ih : ∀ j, j < k → Out c j r) (hk : i + k = c.os.length + 1) (hi : i ≤ c.os.length) (bot : TN35 × TO35 × PUnit.{1}) (h : A36.St c al i M) (ho : M.opn = some s) :
  apTO (loopC N (fun (r_8 : TN35 × TO35 × PUnit.{1}) => (stepN35 N r_8.1 r.1 r.2.1, stepO35 N r_8.1 r_8.2.1 r.1 r.2.1, PUnit.unit)) bot).2.1 c al i M s = fin (run c al M) := by
 refine (loopC_rule (fun j (q : TN35 × TO35 × PUnit.{1}) => ∀ al M, al.length = j → A36.St c al i M → (M.opn = none → apTN q.1 c al i M = fin (run c al M)) ∧ (∀ s, M.opn = some s → apTO q.2.1 c al i M s = fin (run c al M))) ?_ N al.length (by have := h.few; have := hg.big; omega) al M rfl h).2 s ho
 intro j q ihj al M hj h
 cases al with
 | nil => exact ⟨fun ho => nextN hg ih hk h hi (fun a bl' e => by cases e) ho, fun s ho => nextO hg ih hk h hi (fun a bl' e => by cases e) ho⟩
 | cons a al =>
  by_cases he : a = i
  ·subst he
   obtain ⟨a1, a2, a3⟩ := h.arm hi
   have ih1 := ihj al.length (by simp only [List.length_cons] at hj; omega) al _ rfl a1
   refine ⟨fun ho => ?_, fun s ho => ?_⟩
   ·rw [a2, stepN_arm hg.su h.wf ho (h.on hi).1]
    exact ih1.1 (rearm_none ho)
   ·rw [a2, stepO_arm hg.su h.wf ho (h.on hi).1]
    refine ih1.1 ?_
    unfold rearmM
    have := (h.wf.opn s ho).1
    rw [if_neg (by omega)]
  ·exact ⟨fun ho => nextN hg ih hk h hi (fun a' bl' e => by cases e; exact he) ho, fun s ho => nextO hg ih hk h hi (fun a' bl' e => by cases e; exact he) ho⟩
theorem outer (hg : A36.Good N c) (hN : c.os.length + 1 < N) (bot : RN35 × RO35 × PUnit.{1}) : ∀ k, k ≤ c.os.length + 1 → Out c k (loopC N (outF35 N) bot) := by
 intro k hk
 refine loopC_rule (fun k r => Out c k r) ?_ N k (by omega)
 intro k r ih i M al hik h
 by_cases hi : i ≤ c.os.length
 ·have hlt : (i : Int) < c.n1 := by rw [hg.n1]; omega
  refine ⟨fun ho => ?_, fun s ho => ?_⟩
  ·exact (cS_pos hlt).trans (innN hg ih hik hi _ h ho)
  ·exact (cS_pos hlt).trans (innO hg ih hik hi _ h ho)
 ·have hlt : ¬ (i : Int) < c.n1 := by rw [hg.n1]; omega
  obtain ⟨h1, h2⟩ := h.off (by have := h.le; omega)
  subst h1
  have hr : run c [] M = M := runArms_done h2
  rw [hr]
  exact ⟨fun ho => cS_neg hlt, fun s ho => cS_neg hlt⟩
end
end Go.Abs.A35
end

section
/- What Accepted gives. -/
set_option linter.unusedVariables false
set_option linter.unusedSimpArgs false
set_option maxRecDepth 100000
namespace Go.Abs
open Go.Proofs Classical Go.Mach
theorem put3' (a b c : Int) : putCells (putCells (putCells (zrow (ofV (Go.Value.int IntKind.i64 (0 : Int))).cells 3) 0 [AV.int IntKind.i64 a]) 1 [AV.int IntKind.i64 b]) 2 [AV.int IntKind.i64 c] = [AV.int .i64 a, AV.int .i64 b, AV.int .i64 c] := rfl
theorem intsOf3' (a b c : Int) : intsOf [AV.int .i64 a, AV.int .i64 b, AV.int .i64 c] = [a, b, c] := rfl
theorem ints3'' (a b c : Int) : Ints 3 [AV.int .i64 a, AV.int .i64 b, AV.int .i64 c] := ⟨by omega, rfl, rfl⟩
theorem arms_len {q : Nat} {ar : List AV} {n : Nat} (h : Arms q ar n) : (armsN ar).length = q := by simp [armsN, h.ints.len]
theorem arms_nats {q : Nat} {ar : List AV} {n : Nat} (h : Arms q ar n) : intsL ((armsN ar).map fun (k : Nat) => (k : Int)) = ar := by
 have e : (armsN ar).map (fun (k : Nat) => (k : Int)) = intsOf ar := by
  unfold armsN
  rw [List.map_map]
  have : ∀ x ∈ intsOf ar, ((fun (k : Nat) => (k : Int)) ∘ Int.toNat) x = x := fun x hx => Int.toNat_of_nonneg (h.nn x hx)
  exact (List.map_congr_left (g := id) this).trans (List.map_id _)
 rw [e]
 exact h.ints.2.1.symm
namespace A36
theorem run_36' {a b c d : Int} {m q : Nat} {fs ar : List AV} (hB : Bls m fs) (hI : Ints q ar) : (fsW tzx waysN 6000 12).call (List RLeaf) 36 [setupS a b c d, .ofB (.list m fs), .ofB (.list q ar)] [] (resK [true, false]) =
  some [.fz (accL a b c d m fs q ar).length (intsL (accL a b c d m fs q ar)), .v (.int .i64 (accE a b c d m q ar))] := by
 rw [run_36]
 have o2 : firstNZ [setupE a b c d, if decide ((m : Int) > (4096 : Int)) = true then (5 : Int) else (0 : Int), armsE q (intsOf ar) (m : Int)] = accE a b c d m q ar := by
  unfold accE
  have : ((m : Int) > 4096) ↔ m > 4096 := by omega
  simp only [decide_eq_true_eq, this]
 simp only [put3', intsOf3', shut_eq, condO_bne]
 by_cases hs : setupE a b c d = 0
 ·have o3 : firstNZ [0, if decide ((m : Int) > (4096 : Int)) = true then (5 : Int) else (0 : Int), armsE q (intsOf ar) (m : Int)] = accE a b c d m q ar := by rw [← o2, hs]
  obtain ⟨h1, h2, h3, h4⟩ := setup_ok hs
  rw [if_pos hs, o3, gS_pos ⟨by omega, by omega, by omega, by omega⟩, gS_pos hI, gS_pos (ints3'' _ _ _)]
  by_cases he : accE a b c d m q ar = 0
  ·have hS := acc_ok hI hB he
   have hA := hS.arms
   rw [Int.toNat_natCast] at hA
   obtain ⟨u1, u2, u3, u4, u5⟩ := su_ok hs
   have hm : m ≤ 4096 := by
    obtain ⟨_, e2, _⟩ := nz3 he
    by_cases e : m > 4096
    ·rw [if_pos e] at e2; cases e2
    ·omega
   rw [if_pos he, gS_pos ⟨by omega, by omega, by omega, by omega⟩]
   have w : IntKind.i64.wrap ((((m : Int).toNat : Nat) : Int) + 1) = ((m + 1 : Nat) : Int) := by rw [Int.toNat_natCast, wrap64] <;> omega
   let os : List (Option Nat) := List.replicate m (some 0)
   have hos : os.length = m := List.length_replicate
   generalize hbot : ((fun _ _ _ _ _ _ _ _ _ _ _ _ _ _ _ _ _ _ _ _ _ _ _ _ _ _ _ _ _ => none, fun _ _ _ _ _ _ _ _ _ _ _ _ _ _ _ _ _ _ _ _ _ _ _ _ _ _ _ _ _ _ _ _ _ _ _ => none, PUnit.unit) : RN36 × RO36 × PUnit.{1}) = bot
   generalize hdd : [AV.int IntKind.i64 0, AV.int IntKind.i64 (if decide ((m : Int) > 4096) = true then 5 else 0), AV.int IntKind.i64 (armsE q (intsOf ar) (m : Int))] = dd
   let cx : Ctx := ⟨m, fs, ((m + 1 : Nat) : Int), os, suOf a b c d, ⟨0, [], 3, dd, 0, []⟩⟩
   have hg : Good 6000 cx := ⟨by omega, u1, hos.symm, hB, by show os.length ≤ 5000; omega, by show ((m + 1 : Nat) : Int) = ((os.length + 1 : Nat) : Int); rw [hos], by omega⟩
   have hst : St cx (armsN ar) 0 (newM (some 0) cx.u) := ⟨WF.new _ _, by omega, fun _ => ⟨rfl, by show Asc 0 (armsN ar) os.length; rw [hos]; exact hA.asc⟩, fun e => by omega, by rw [arms_len hA]; exact hS.qle⟩
   have key := (outer hg (show os.length + 1 < 6000 by omega) bot (os.length + 1) (Nat.le_refl _) 0 (newM (some 0) cx.u) (armsN ar) (Nat.zero_add _) hst).1 rfl
   have hn : (runArms (some 0) clean1 (suOf a b c d) os (boolsOf fs) os.length (armsN ar) (newM (some 0) (suOf a b c d))).out = (shotsArm (suOf a b c d) (boolsOf fs) os.length (armsN ar) 0 0 []).map (·.1) := (run_new u1.post0 (by rw [hos]; exact hA.asc)).2
   have hout : (run cx (armsN ar) (newM (some 0) cx.u)).out = (shotsP a b c d fs ar (m : Int)).map (·.1) := by
    refine hn.trans ?_
    unfold shotsP
    rw [hos, Int.toNat_natCast]
   have hL : accL a b c d m fs q ar = timesP a b c d m fs ar := if_pos he
   have fe : fin (run cx (armsN ar) (newM (some 0) cx.u)) = some [.fz (accL a b c d m fs q ar).length (intsL (accL a b c d m fs q ar)), .v (.int .i64 (accE a b c d m q ar))] := by
    unfold fin natsL
    rw [hout, hL, he]
    unfold timesP
    simp only [List.map_map, List.length_map]
    rfl
   rw [← fe, ← key]
   unfold apRN
   have e1 : natsL (armsN ar) = ar := arms_nats hA
   have e2 : (armsN ar).length = q := arms_len hA
   have e3 : zrow (ofV (Go.Value.float Go.FloatKind.f32 0)).cells (a.toNat * 1) = flosL (newM (some 0) cx.u).ring := zeros
   have e4 : zrow (ofV (Go.Value.float Go.FloatKind.f32 0)).cells ((m : Int).toNat * 1) = flosL os := by rw [Int.toNat_natCast]; exact zeros
   have e5 : (newM (some 0) cx.u).ring.length = a.toNat := by simp [newM]; rfl
   rw [e1, e2, e3, e4, e5, w]
   show _ = (loopC 6000 (outF36 6000) bot).1 m fs q ar ((m + 1 : Nat) : Int) ((0 : Nat) : Int) 0 [] a.toNat (flosL (newM (some 0) cx.u).ring) ((suOf a b c d).pre : Int) ((suOf a b c d).post : Int) ((suOf a b c d).hold : Int) ((suOf a b c d).lim : Int) ((0 : Nat) : Int) ((0 : Nat) : Int) ((0 : Nat) : Int) ((0 : Nat) : Int) ((0 : Nat) : Int) 3 dd os.length (flosL os) 0 [] 0 [] 0 []
   rw [u2, u3, u4, u5, hos, Int.toNat_natCast]
   rfl
  ·have hL : accL a b c d m fs q ar = [] := if_neg he
   rw [if_neg he, hL]
   rfl
 ·have he : ¬ accE a b c d m q ar = 0 := by
   intro he; exact hs (nz3 he).1
  have hL : accL a b c d m fs q ar = [] := if_neg he
  rw [if_neg hs, gS_pos hI, gS_pos (ints3'' _ _ _), o2, if_neg he, hL]
  rfl
end A36
end Go.Abs
end

section
/- What Acquire gives. -/
set_option linter.unusedVariables false
set_option linter.unusedSimpArgs false
set_option maxRecDepth 100000
namespace Go.Abs.A35
open Go.Proofs Classical Go.Mach
open Go.Abs.A36 (Ctx run natsL zeros)
theorem intsOf4' (a b c d : Int) : intsOf [AV.int .i64 a, AV.int .i64 b, AV.int .i64 c, AV.int .i64 d] = [a, b, c, d] := rfl
theorem run_35' {a b c d : Int} {n m q : Nat} {cs fs ar : List AV} (hF : Flos n cs) (hB : Bls m fs) (hI : Ints q ar) : (fsW tzx waysN 6000 12).call (List RLeaf) 35 [setupS a b c d, .ofB (.list n cs), .ofB (.list m fs), .ofB (.list q ar)] [] (resK [false, false]) =
  some [.v (.list (acqL a b c d n cs m fs q ar).length (segCells (acqL a b c d n cs m fs q ar))), .v (.int .i64 (acqE a b c d n cs m q ar))] := by
 rw [run_35]
 have o2 : firstNZ [setupE a b c d, sampErr n (flosOf cs), if ((m : Int) != (n : Int)) = true then (2 : Int) else (0 : Int), armsE q (intsOf ar) (n : Int)] = acqE a b c d n cs m q ar := by
  unfold acqE
  by_cases h : m = n
  ·subst h; simp
  ·have h2 : ¬ (m : Int) = (n : Int) := by omega
   simp [h, h2]
 simp only [put4, intsOf4', shut_eq, condO_bne]
 by_cases hs : setupE a b c d = 0
 ·have o3 : firstNZ [0, sampErr n (flosOf cs), if ((m : Int) != (n : Int)) = true then (2 : Int) else (0 : Int), armsE q (intsOf ar) (n : Int)] = acqE a b c d n cs m q ar := by rw [← o2, hs]
  obtain ⟨h1, h2, h3, h4⟩ := setup_ok hs
  rw [if_pos hs, o3, gS_pos ⟨by omega, by omega, by omega, by omega⟩, gS_pos hF, gS_pos hI, gS_pos (ints4 _ _ _ _)]
  by_cases he : acqE a b c d n cs m q ar = 0
  ·obtain ⟨hn4, hfin, hmn, hS⟩ := acq_ok hI hB he
   subst hmn
   have hA := hS.arms
   rw [Int.toNat_natCast] at hA
   obtain ⟨u1, u2, u3, u4, u5⟩ := su_ok hs
   rw [if_pos he]
   have w : IntKind.i64.wrap ((m : Int) + 1) = ((m + 1 : Nat) : Int) := by rw [wrap64] <;> omega
   have hos : (flosOf cs).length = m := hF.len
   generalize hbot : ((fun _ _ _ _ _ _ _ _ _ _ _ _ _ _ _ _ _ _ _ _ _ _ _ _ _ _ _ _ _ => none, fun _ _ _ _ _ _ _ _ _ _ _ _ _ _ _ _ _ _ _ _ _ _ _ _ _ _ _ _ _ _ _ _ _ _ _ => none, PUnit.unit) : RN35 × RO35 × PUnit.{1}) = bot
   generalize hdd : [AV.int IntKind.i64 0, AV.int IntKind.i64 (sampErr m (flosOf cs)), AV.int IntKind.i64 (if ((m : Int) != (m : Int)) = true then 2 else 0), AV.int IntKind.i64 (armsE q (intsOf ar) (m : Int))] = dd
   let cx : Ctx := ⟨m, fs, ((m + 1 : Nat) : Int), flosOf cs, suOf a b c d, ⟨0, [], 4, dd, 0, []⟩⟩
   have hg : A36.Good 6000 cx := ⟨by omega, u1, hos.symm, hB, by show (flosOf cs).length ≤ 5000; omega, by show ((m + 1 : Nat) : Int) = (((flosOf cs).length + 1 : Nat) : Int); rw [hos], by omega⟩
   have hst : A36.St cx (armsN ar) 0 (newM (some 0) cx.u) := ⟨WF.new _ _, by omega, fun _ => ⟨rfl, by show Asc 0 (armsN ar) (flosOf cs).length; rw [hos]; exact hA.asc⟩, fun e => by omega, by rw [arms_len hA]; exact hS.qle⟩
   have key := (outer hg (show (flosOf cs).length + 1 < 6000 by omega) bot ((flosOf cs).length + 1) (Nat.le_refl _) 0 (newM (some 0) cx.u) (armsN ar) (Nat.zero_add _) hst).1 rfl
   have hn : (runArms (some 0) clean1 (suOf a b c d) (flosOf cs) (boolsOf fs) (flosOf cs).length (armsN ar) (newM (some 0) (suOf a b c d))).segs = segL clean1 (suOf a b c d) (flosOf cs) (boolsOf fs) 0 0 (wholes (shotsArm (suOf a b c d) (boolsOf fs) (flosOf cs).length (armsN ar) 0 0 [])) := (run_new u1.post0 (by rw [hos]; exact hA.asc)).1
   have hseg : (run cx (armsN ar) (newM (some 0) cx.u)).segs = segsP a b c d m cs fs ar := by
    refine hn.trans ?_
    unfold segsP shotsP
    rw [hos, Int.toNat_natCast]
   have hL : acqL a b c d m cs m fs q ar = segsP a b c d m cs fs ar := if_pos he
   have fe : fin (run cx (armsN ar) (newM (some 0) cx.u)) = some [.v (.list (acqL a b c d m cs m fs q ar).length (segCells (acqL a b c d m cs m fs q ar))), .v (.int .i64 (acqE a b c d m cs m q ar))] := by
    unfold fin
    rw [hseg, hL, he]
   rw [← fe, ← key]
   unfold apRN
   have e1 : natsL (armsN ar) = ar := arms_nats hA
   have e2 : (armsN ar).length = q := arms_len hA
   have e3 : zrow (ofV (Go.Value.float Go.FloatKind.f32 0)).cells (a.toNat * 1) = flosL (newM (some 0) cx.u).ring := zeros
   have e4 : flosL (flosOf cs) = cs := hF.2.1.symm
   have e5 : (newM (some 0) cx.u).ring.length = a.toNat := by simp [newM]; rfl
   rw [e1, e2, e3, e5, w]
   show _ = (loopC 6000 (outF35 6000) bot).1 (flosOf cs).length (flosL (flosOf cs)) m fs q ar ((m + 1 : Nat) : Int) ((0 : Nat) : Int) 0 [] a.toNat (flosL (newM (some 0) cx.u).ring) ((suOf a b c d).pre : Int) ((suOf a b c d).post : Int) ((suOf a b c d).hold : Int) ((suOf a b c d).lim : Int) ((0 : Nat) : Int) ((0 : Nat) : Int) ((0 : Nat) : Int) ((0 : Nat) : Int) ((0 : Nat) : Int) 4 dd 0 [] 0 [] 0 []
   rw [u2, u3, u4, u5, hos, e4]
   rfl
  ·have hL : acqL a b c d n cs m fs q ar = [] := if_neg he
   rw [if_neg he, hL]
   rfl
 ·have he : ¬ acqE a b c d n cs m q ar = 0 := by
   intro he; exact hs (nz4 he).1
  have hL : acqL a b c d n cs m fs q ar = [] := if_neg he
  have hb : (acqE a b c d n cs m q ar != 0) = true := by simpa using he
  rw [if_neg hs, gS_pos hF, gS_pos hI, gS_pos (ints4 _ _ _ _), o2, hb, hL]
  rfl
end Go.Abs.A35
end

section
/- Entries: Acquire and Accepted. -/
set_option linter.unusedVariables false
set_option linter.unusedSimpArgs false
namespace Go.Abs
open Go.Proofs Classical Go.Mach
theorem acqL_segs {a b c d : Int} {n m q : Nat} {cs fs ar : List AV} (hF : Flos n cs) (hB : Bls m fs) (hI : Ints q ar) : Segs (acqL a b c d n cs m fs q ar).length (segCells (acqL a b c d n cs m fs q ar)) := by
 unfold acqL
 split
 ·rename_i h
  obtain ⟨h1, h2, rfl, hS⟩ := acq_ok hI hB h
  exact segsP_ok hS hF
 ·exact segs_C (by simp) (fun s h => by cases h)
theorem eAcq_35 : EntOk Tryz.prog 35 eAcq := by
 intro args' R K r ha h
 unfold eAcq at h
 split at h
 ·rename_i a b c d n cs m fs q ar
  obtain ⟨h1, h2⟩ := guardO_some h
  rw [shut_eq] at h1
  have h1' := of_decide_eq_true h1
  refine ⟨[.v (.list (acqL a b c d n cs m fs q ar).length (segCells (acqL a b c d n cs m fs q ar))), .v (.int .i64 (acqE a b c d n cs m q ar))], fun _ _ => by simp only [eAcq, shut_eq, decide_eq_true h1', guardO], ?_, con_ofW tzx_ok (W := waysN) (N := 6000) (k := 12) (ms := [false, false]) ?_ ha trivial⟩
  ·intro l hl; rcases List.mem_cons.1 hl with rfl | hl
   ·exact leaf_segs (acqL_segs h1'.1 h1'.2.1 h1'.2.2)
   rcases List.mem_cons.1 hl with rfl | hl
   ·exact leaf_int
   cases hl
  ·exact A35.run_35' h1'.1 h1'.2.1 h1'.2.2
 ·cases h
theorem eAcc_36 : EntOk Tryz.prog 36 eAcc := by
 intro args' R K r ha h
 unfold eAcc at h
 split at h
 ·rename_i a b c d m fs q ar
  obtain ⟨h1, h2⟩ := guardO_some h
  rw [shut_eq] at h1
  have h1' := of_decide_eq_true h1
  refine ⟨[.fz (accL a b c d m fs q ar).length (intsL (accL a b c d m fs q ar)), .v (.int .i64 (accE a b c d m q ar))], fun _ _ => by simp only [eAcc, shut_eq, decide_eq_true h1', guardO], ?_, con_ofW tzx_ok (W := waysN) (N := 6000) (k := 12) (ms := [true, false]) ?_ ha ⟨intsL_plain, trivial⟩⟩
  ·intro l hl; rcases List.mem_cons.1 hl with rfl | hl
   ·exact leaf_fz intsL_plain
   rcases List.mem_cons.1 hl with rfl | hl
   ·exact leaf_int
   cases hl
  ·exact A36.run_36' h1'.1 h1'.2
 ·cases h
theorem tzs_ok : TabLOk Tryz.prog tzs := ⟨eAcq_35, eAcc_36, eSegs_27, eAccR_41, eSetR_16, eSetR_18, eDeadP_37, eDeadR_39, eArmsR_38, tzn_ok⟩
end Go.Abs
end

section
/- The law AcquireStreams, lifted (printed by the tool gen.py). -/
set_option maxRecDepth 100000
set_option linter.unusedVariables false
namespace Go.Abs
open Go.Proofs Classical
theorem run_4 (N : Nat) (a b c d : Int) (n : Nat) (cs : List AV) (m : Nat) (fs : List AV) (q : Nat) (ar : List AV) : (fsW tzs waysN N 8).call (List RLeaf) 4 [.s (.agg [.b (.int .i64 a), .b (.int .i64 b), .b (.int .i64 c), .b (.int .i64 d)]), .s (.agg [.b (.list n cs), .b (.list m fs), .b (.list q ar)])] [] (resK [false]) = (
 bindO (
  condO (!shut (shortN n (60 : Int)))
   (
   some (true))
   (
   condO (shut (decide ((↑m : Int) > (60 : Int))))
   (
   some (shut (decide ((↑m : Int) ≤ (4096 : Int)))))
   (
   some (false)))) fun v0 =>
 bindO (
  condO (v0)
   (
   some (true))
   (
   some (shut (decide ((↑m : Int) > (4098 : Int)))))) fun v1 =>
 bindO (
  condO (v1)
   (
   some (true))
   (
   condO (shut (decide ((↑q : Int) > (8 : Int))))
   (
   some (shut (decide ((↑q : Int) ≤ (256 : Int)))))
   (
   some (false)))) fun v2 =>
 bindO (
  condO (v2)
   (
   some (true))
   (
   some (shut (decide ((↑q : Int) > (258 : Int)))))) fun v3 =>
 condO (v3)
 (
 some ([RLeaf.v (AV.bool true)]))
 (
 guardO (shut (decide (Flos n cs ∧ Bls m fs ∧ Ints q ar))) <|
 guardO (shut (decide (Bls m fs ∧ Ints q ar))) <|
 guardO (shut (decide (Flos n cs))) <|
 guardO (shut (decide (Ints q ar))) <|
 guardO (shut (decide (Ints 4 (putCells (putCells (putCells (putCells (zrow (ofV (Go.Value.int IntKind.i64 (0 : Int))).cells 4) 0 [AV.int IntKind.i64 (shut (setupE a b c d))]) 1 [AV.int IntKind.i64 (shut (sampErr n (flosOf cs)))]) 2 [AV.int IntKind.i64 (shut (if shut ((↑m : Int) != (↑n : Int)) = true then (2 : Int) else (0 : Int)))]) 3 [AV.int IntKind.i64 (shut (armsE q (intsOf ar) (↑n : Int)))])))) <|
 guardO (shut (decide (Ints q ar))) <|
 guardO (shut (decide (Ints 3 (putCells (putCells (putCells (zrow (ofV (Go.Value.int IntKind.i64 (0 : Int))).cells 3) 0 [AV.int IntKind.i64 (shut (setupE a b c d))]) 1 [AV.int IntKind.i64 (shut (if shut (decide ((↑m : Int) > (4096 : Int))) = true then (5 : Int) else (0 : Int)))]) 2 [AV.int IntKind.i64 (shut (armsE q (intsOf ar) (↑m : Int)))])))) <|
 bindO (
   condO (shut (shut (setupE a b c d) != (0 : Int)))
   (
   condO (shut (shut (deadV a b c d) != (0 : Int)))
    (
    some (true))
    (
    some (shut (shut (setupE a b c d) != shut (setupE a b c d)))))
   (
   some (false))) fun v12 =>
 bindO (
   condO (v12)
   (
   some (true))
   (
   condO (shut (shut (setupE a b c d) == (0 : Int)))
    (
    guardO (shut (decide (setupE a b c d = (0 : Int)))) <|
    condO (shut (shut (deadV a b c d) != shut (deadV a b c d)))
    (
    some (true))
    (
    some (shut (shut (setupE a b c d) != (0 : Int)))))
    (
    some (false)))) fun v13 =>
 condO (v13)
  (
  some ([RLeaf.v (AV.bool false)]))
  (
  joinC N (
   (fun (y0_15 : Nat) (y1_15 : List AV) (y2_15 : Int) (y3_15 : Int) (y4_15 : Bool) (y5_15 : Int) (y6_15 : Int) (y7_15 : Int) (y8_15 : Int) (y9_15 : Nat) (y10_15 : List AV) (y11_15 : Nat) (y12_15 : List AV) (y13_15 : Nat) (y14_15 : List AV) (y15_15 : Int) (y16_15 : Int) (y17_15 : Int) (y18_15 : Int) (y19_15 : Nat) (y20_15 : List AV) (y21_15 : Nat) (y22_15 : List AV) =>
   condO (y4_15)
    (
    some ([RLeaf.v (AV.bool false)]))
    (
    condO (shut (y3_15 != (0 : Int)))
    (
    bindO (
      condO (shut ((↑y0_15 : Int) == (0 : Int)))
      (
      some (shut (y2_15 == y3_15)))
      (
      some (false))) fun v18 =>
    some ([RLeaf.v (AV.bool v18)]))
    (
    bindO (
      condO (shut (y2_15 == (0 : Int)))
      (
      guardO (shut (decide (ShotsOk y15_15 y16_15 y17_15 y18_15 y11_15 y12_15 y13_15 y14_15 (↑y11_15 : Int)))) <|
      guardO (shut (decide (Ints y0_15 y1_15 ∧ Ints (shut (timesP y15_15 y16_15 y17_15 y18_15 y11_15 y12_15 y14_15).length) (shut (intsL (timesP y15_15 y16_15 y17_15 y18_15 y11_15 y12_15 y14_15)))))) <|
      some (shut (decide (intsOf y1_15 = intsOf (shut (intsL (timesP y15_15 y16_15 y17_15 y18_15 y11_15 y12_15 y14_15)))))))
      (
      some (false))) fun v18 =>
    some ([RLeaf.v (AV.bool v18)])))), PUnit.unit) fun (k_15 : (Nat → List AV → Int → Int → Bool → Int → Int → Int → Int → Nat → List AV → Nat → List AV → Nat → List AV → Int → Int → Int → Int → Nat → List AV → Nat → List AV → Option (List RLeaf)) × PUnit.{1}) =>
  condO (shut (shut (firstNZ (intsOf (putCells (putCells (putCells (putCells (zrow (ofV (Go.Value.int IntKind.i64 (0 : Int))).cells 4) 0 [AV.int IntKind.i64 (shut (setupE a b c d))]) 1 [AV.int IntKind.i64 (shut (sampErr n (flosOf cs)))]) 2 [AV.int IntKind.i64 (shut (if shut ((↑m : Int) != (↑n : Int)) = true then (2 : Int) else (0 : Int)))]) 3 [AV.int IntKind.i64 (shut (armsE q (intsOf ar) (↑n : Int)))]))) != (0 : Int)))
   (
   condO (shut ((↑(shut (acqL a b c d n cs m fs q ar).length) : Int) != (0 : Int)))
   (
   k_15.1 (shut (accL a b c d m fs q ar).length) (shut (intsL (accL a b c d m fs q ar))) (shut (accE a b c d m q ar)) (shut (firstNZ (intsOf (putCells (putCells (putCells (zrow (ofV (Go.Value.int IntKind.i64 (0 : Int))).cells 3) 0 [AV.int IntKind.i64 (shut (setupE a b c d))]) 1 [AV.int IntKind.i64 (shut (if shut (decide ((↑m : Int) > (4096 : Int))) = true then (5 : Int) else (0 : Int)))]) 2 [AV.int IntKind.i64 (shut (armsE q (intsOf ar) (↑m : Int)))])))) (true) (a) (b) (c) (d) (n) (cs) (m) (fs) (q) (ar) (a) (b) (c) (d) (4) (putCells (putCells (putCells (putCells (zrow (ofV (Go.Value.int IntKind.i64 (0 : Int))).cells 4) 0 [AV.int IntKind.i64 (shut (setupE a b c d))]) 1 [AV.int IntKind.i64 (shut (sampErr n (flosOf cs)))]) 2 [AV.int IntKind.i64 (shut (if shut ((↑m : Int) != (↑n : Int)) = true then (2 : Int) else (0 : Int)))]) 3 [AV.int IntKind.i64 (shut (armsE q (intsOf ar) (↑n : Int)))]) (3) (putCells (putCells (putCells (zrow (ofV (Go.Value.int IntKind.i64 (0 : Int))).cells 3) 0 [AV.int IntKind.i64 (shut (setupE a b c d))]) 1 [AV.int IntKind.i64 (shut (if shut (decide ((↑m : Int) > (4096 : Int))) = true then (5 : Int) else (0 : Int)))]) 2 [AV.int IntKind.i64 (shut (armsE q (intsOf ar) (↑m : Int)))]))
   (
   condO (shut (shut (acqE a b c d n cs m q ar) != shut (firstNZ (intsOf (putCells (putCells (putCells (putCells (zrow (ofV (Go.Value.int IntKind.i64 (0 : Int))).cells 4) 0 [AV.int IntKind.i64 (shut (setupE a b c d))]) 1 [AV.int IntKind.i64 (shut (sampErr n (flosOf cs)))]) 2 [AV.int IntKind.i64 (shut (if shut ((↑m : Int) != (↑n : Int)) = true then (2 : Int) else (0 : Int)))]) 3 [AV.int IntKind.i64 (shut (armsE q (intsOf ar) (↑n : Int)))])))))
    (
    k_15.1 (shut (accL a b c d m fs q ar).length) (shut (intsL (accL a b c d m fs q ar))) (shut (accE a b c d m q ar)) (shut (firstNZ (intsOf (putCells (putCells (putCells (zrow (ofV (Go.Value.int IntKind.i64 (0 : Int))).cells 3) 0 [AV.int IntKind.i64 (shut (setupE a b c d))]) 1 [AV.int IntKind.i64 (shut (if shut (decide ((↑m : Int) > (4096 : Int))) = true then (5 : Int) else (0 : Int)))]) 2 [AV.int IntKind.i64 (shut (armsE q (intsOf ar) (↑m : Int)))])))) (true) (a) (b) (c) (d) (n) (cs) (m) (fs) (q) (ar) (a) (b) (c) (d) (4) (putCells (putCells (putCells (putCells (zrow (ofV (Go.Value.int IntKind.i64 (0 : Int))).cells 4) 0 [AV.int IntKind.i64 (shut (setupE a b c d))]) 1 [AV.int IntKind.i64 (shut (sampErr n (flosOf cs)))]) 2 [AV.int IntKind.i64 (shut (if shut ((↑m : Int) != (↑n : Int)) = true then (2 : Int) else (0 : Int)))]) 3 [AV.int IntKind.i64 (shut (armsE q (intsOf ar) (↑n : Int)))]) (3) (putCells (putCells (putCells (zrow (ofV (Go.Value.int IntKind.i64 (0 : Int))).cells 3) 0 [AV.int IntKind.i64 (shut (setupE a b c d))]) 1 [AV.int IntKind.i64 (shut (if shut (decide ((↑m : Int) > (4096 : Int))) = true then (5 : Int) else (0 : Int)))]) 2 [AV.int IntKind.i64 (shut (armsE q (intsOf ar) (↑m : Int)))]))
    (
    condO (shut (shut (firstNZ (intsOf (putCells (putCells (putCells (putCells (zrow (ofV (Go.Value.int IntKind.i64 (0 : Int))).cells 4) 0 [AV.int IntKind.i64 (shut (setupE a b c d))]) 1 [AV.int IntKind.i64 (shut (sampErr n (flosOf cs)))]) 2 [AV.int IntKind.i64 (shut (if shut ((↑m : Int) != (↑n : Int)) = true then (2 : Int) else (0 : Int)))]) 3 [AV.int IntKind.i64 (shut (armsE q (intsOf ar) (↑n : Int)))]))) == (0 : Int)))
    (
    condO (shut (shut (acqE a b c d n cs m q ar) != (0 : Int)))
     (
     k_15.1 (shut (accL a b c d m fs q ar).length) (shut (intsL (accL a b c d m fs q ar))) (shut (accE a b c d m q ar)) (shut (firstNZ (intsOf (putCells (putCells (putCells (zrow (ofV (Go.Value.int IntKind.i64 (0 : Int))).cells 3) 0 [AV.int IntKind.i64 (shut (setupE a b c d))]) 1 [AV.int IntKind.i64 (shut (if shut (decide ((↑m : Int) > (4096 : Int))) = true then (5 : Int) else (0 : Int)))]) 2 [AV.int IntKind.i64 (shut (armsE q (intsOf ar) (↑m : Int)))])))) (true) (a) (b) (c) (d) (n) (cs) (m) (fs) (q) (ar) (a) (b) (c) (d) (4) (putCells (putCells (putCells (putCells (zrow (ofV (Go.Value.int IntKind.i64 (0 : Int))).cells 4) 0 [AV.int IntKind.i64 (shut (setupE a b c d))]) 1 [AV.int IntKind.i64 (shut (sampErr n (flosOf cs)))]) 2 [AV.int IntKind.i64 (shut (if shut ((↑m : Int) != (↑n : Int)) = true then (2 : Int) else (0 : Int)))]) 3 [AV.int IntKind.i64 (shut (armsE q (intsOf ar) (↑n : Int)))]) (3) (putCells (putCells (putCells (zrow (ofV (Go.Value.int IntKind.i64 (0 : Int))).cells 3) 0 [AV.int IntKind.i64 (shut (setupE a b c d))]) 1 [AV.int IntKind.i64 (shut (if shut (decide ((↑m : Int) > (4096 : Int))) = true then (5 : Int) else (0 : Int)))]) 2 [AV.int IntKind.i64 (shut (armsE q (intsOf ar) (↑m : Int)))]))
     (
     guardO (shut (decide (Segs (shut (acqL a b c d n cs m fs q ar).length) (shut (segCells (acqL a b c d n cs m fs q ar)))))) <|
     condO (!shut ((segsOf (shut (acqL a b c d n cs m fs q ar).length) (shut (segCells (acqL a b c d n cs m fs q ar)))).all fun s => (flosOf s.fs).all fun o => !negz o))
     (
     k_15.1 (shut (accL a b c d m fs q ar).length) (shut (intsL (accL a b c d m fs q ar))) (shut (accE a b c d m q ar)) (shut (firstNZ (intsOf (putCells (putCells (putCells (zrow (ofV (Go.Value.int IntKind.i64 (0 : Int))).cells 3) 0 [AV.int IntKind.i64 (shut (setupE a b c d))]) 1 [AV.int IntKind.i64 (shut (if shut (decide ((↑m : Int) > (4096 : Int))) = true then (5 : Int) else (0 : Int)))]) 2 [AV.int IntKind.i64 (shut (armsE q (intsOf ar) (↑m : Int)))])))) (true) (a) (b) (c) (d) (n) (cs) (m) (fs) (q) (ar) (a) (b) (c) (d) (4) (putCells (putCells (putCells (putCells (zrow (ofV (Go.Value.int IntKind.i64 (0 : Int))).cells 4) 0 [AV.int IntKind.i64 (shut (setupE a b c d))]) 1 [AV.int IntKind.i64 (shut (sampErr n (flosOf cs)))]) 2 [AV.int IntKind.i64 (shut (if shut ((↑m : Int) != (↑n : Int)) = true then (2 : Int) else (0 : Int)))]) 3 [AV.int IntKind.i64 (shut (armsE q (intsOf ar) (↑n : Int)))]) (3) (putCells (putCells (putCells (zrow (ofV (Go.Value.int IntKind.i64 (0 : Int))).cells 3) 0 [AV.int IntKind.i64 (shut (setupE a b c d))]) 1 [AV.int IntKind.i64 (shut (if shut (decide ((↑m : Int) > (4096 : Int))) = true then (5 : Int) else (0 : Int)))]) 2 [AV.int IntKind.i64 (shut (armsE q (intsOf ar) (↑m : Int)))]))
     (
     guardO (shut (decide (Segs (shut (acqL a b c d n cs m fs q ar).length) (shut (segCells (acqL a b c d n cs m fs q ar))) ∧ shut (acqL a b c d n cs m fs q ar).length ≤ 100000))) <|
     guardO (shut (decide (ShotsOk a b c d n fs q ar (↑n : Int) ∧ Flos n cs ∧ n = m ∧ (↑n : Int) = (↑n : Int)))) <|
     guardO (shut (decide (Segs (shut (shut (acqL a b c d n cs m fs q ar).length)) (shut (shut (segCells (acqL a b c d n cs m fs q ar)))) ∧ shut (shut (acqL a b c d n cs m fs q ar).length) = shut (segsP a b c d n cs fs ar).length ∧ shut (shut (segCells (acqL a b c d n cs m fs q ar))) = shut (segCells (segsP a b c d n cs fs ar)) ∧ SelfF (shut (shut (acqL a b c d n cs m fs q ar).length)) (shut (shut (segCells (acqL a b c d n cs m fs q ar))))))) <|
     k_15.1 (shut (accL a b c d m fs q ar).length) (shut (intsL (accL a b c d m fs q ar))) (shut (accE a b c d m q ar)) (shut (firstNZ (intsOf (putCells (putCells (putCells (zrow (ofV (Go.Value.int IntKind.i64 (0 : Int))).cells 3) 0 [AV.int IntKind.i64 (shut (setupE a b c d))]) 1 [AV.int IntKind.i64 (shut (if shut (decide ((↑m : Int) > (4096 : Int))) = true then (5 : Int) else (0 : Int)))]) 2 [AV.int IntKind.i64 (shut (armsE q (intsOf ar) (↑m : Int)))])))) (!shut true) (a) (b) (c) (d) (n) (cs) (m) (fs) (q) (ar) (a) (b) (c) (d) (4) (putCells (putCells (putCells (putCells (zrow (ofV (Go.Value.int IntKind.i64 (0 : Int))).cells 4) 0 [AV.int IntKind.i64 (shut (setupE a b c d))]) 1 [AV.int IntKind.i64 (shut (sampErr n (flosOf cs)))]) 2 [AV.int IntKind.i64 (shut (if shut ((↑m : Int) != (↑n : Int)) = true then (2 : Int) else (0 : Int)))]) 3 [AV.int IntKind.i64 (shut (armsE q (intsOf ar) (↑n : Int)))]) (3) (putCells (putCells (putCells (zrow (ofV (Go.Value.int IntKind.i64 (0 : Int))).cells 3) 0 [AV.int IntKind.i64 (shut (setupE a b c d))]) 1 [AV.int IntKind.i64 (shut (if shut (decide ((↑m : Int) > (4096 : Int))) = true then (5 : Int) else (0 : Int)))]) 2 [AV.int IntKind.i64 (shut (armsE q (intsOf ar) (↑m : Int)))]))))
    (
    k_15.1 (shut (accL a b c d m fs q ar).length) (shut (intsL (accL a b c d m fs q ar))) (shut (accE a b c d m q ar)) (shut (firstNZ (intsOf (putCells (putCells (putCells (zrow (ofV (Go.Value.int IntKind.i64 (0 : Int))).cells 3) 0 [AV.int IntKind.i64 (shut (setupE a b c d))]) 1 [AV.int IntKind.i64 (shut (if shut (decide ((↑m : Int) > (4096 : Int))) = true then (5 : Int) else (0 : Int)))]) 2 [AV.int IntKind.i64 (shut (armsE q (intsOf ar) (↑m : Int)))])))) (false) (a) (b) (c) (d) (n) (cs) (m) (fs) (q) (ar) (a) (b) (c) (d) (4) (putCells (putCells (putCells (putCells (zrow (ofV (Go.Value.int IntKind.i64 (0 : Int))).cells 4) 0 [AV.int IntKind.i64 (shut (setupE a b c d))]) 1 [AV.int IntKind.i64 (shut (sampErr n (flosOf cs)))]) 2 [AV.int IntKind.i64 (shut (if shut ((↑m : Int) != (↑n : Int)) = true then (2 : Int) else (0 : Int)))]) 3 [AV.int IntKind.i64 (shut (armsE q (intsOf ar) (↑n : Int)))]) (3) (putCells (putCells (putCells (zrow (ofV (Go.Value.int IntKind.i64 (0 : Int))).cells 3) 0 [AV.int IntKind.i64 (shut (setupE a b c d))]) 1 [AV.int IntKind.i64 (shut (if shut (decide ((↑m : Int) > (4096 : Int))) = true then (5 : Int) else (0 : Int)))]) 2 [AV.int IntKind.i64 (shut (armsE q (intsOf ar) (↑m : Int)))])))))
   (
   condO (shut (shut (firstNZ (intsOf (putCells (putCells (putCells (putCells (zrow (ofV (Go.Value.int IntKind.i64 (0 : Int))).cells 4) 0 [AV.int IntKind.i64 (shut (setupE a b c d))]) 1 [AV.int IntKind.i64 (shut (sampErr n (flosOf cs)))]) 2 [AV.int IntKind.i64 (shut (if shut ((↑m : Int) != (↑n : Int)) = true then (2 : Int) else (0 : Int)))]) 3 [AV.int IntKind.i64 (shut (armsE q (intsOf ar) (↑n : Int)))]))) == (0 : Int)))
   (
   condO (shut (shut (acqE a b c d n cs m q ar) != (0 : Int)))
    (
    k_15.1 (shut (accL a b c d m fs q ar).length) (shut (intsL (accL a b c d m fs q ar))) (shut (accE a b c d m q ar)) (shut (firstNZ (intsOf (putCells (putCells (putCells (zrow (ofV (Go.Value.int IntKind.i64 (0 : Int))).cells 3) 0 [AV.int IntKind.i64 (shut (setupE a b c d))]) 1 [AV.int IntKind.i64 (shut (if shut (decide ((↑m : Int) > (4096 : Int))) = true then (5 : Int) else (0 : Int)))]) 2 [AV.int IntKind.i64 (shut (armsE q (intsOf ar) (↑m : Int)))])))) (true) (a) (b) (c) (d) (n) (cs) (m) (fs) (q) (ar) (a) (b) (c) (d) (4) (putCells (putCells (putCells (putCells (zrow (ofV (Go.Value.int IntKind.i64 (0 : Int))).cells 4) 0 [AV.int IntKind.i64 (shut (setupE a b c d))]) 1 [AV.int IntKind.i64 (shut (sampErr n (flosOf cs)))]) 2 [AV.int IntKind.i64 (shut (if shut ((↑m : Int) != (↑n : Int)) = true then (2 : Int) else (0 : Int)))]) 3 [AV.int IntKind.i64 (shut (armsE q (intsOf ar) (↑n : Int)))]) (3) (putCells (putCells (putCells (zrow (ofV (Go.Value.int IntKind.i64 (0 : Int))).cells 3) 0 [AV.int IntKind.i64 (shut (setupE a b c d))]) 1 [AV.int IntKind.i64 (shut (if shut (decide ((↑m : Int) > (4096 : Int))) = true then (5 : Int) else (0 : Int)))]) 2 [AV.int IntKind.i64 (shut (armsE q (intsOf ar) (↑m : Int)))]))
    (
    guardO (shut (decide (Segs (shut (acqL a b c d n cs m fs q ar).length) (shut (segCells (acqL a b c d n cs m fs q ar)))))) <|
    condO (!shut ((segsOf (shut (acqL a b c d n cs m fs q ar).length) (shut (segCells (acqL a b c d n cs m fs q ar)))).all fun s => (flosOf s.fs).all fun o => !negz o))
    (
    k_15.1 (shut (accL a b c d m fs q ar).length) (shut (intsL (accL a b c d m fs q ar))) (shut (accE a b c d m q ar)) (shut (firstNZ (intsOf (putCells (putCells (putCells (zrow (ofV (Go.Value.int IntKind.i64 (0 : Int))).cells 3) 0 [AV.int IntKind.i64 (shut (setupE a b c d))]) 1 [AV.int IntKind.i64 (shut (if shut (decide ((↑m : Int) > (4096 : Int))) = true then (5 : Int) else (0 : Int)))]) 2 [AV.int IntKind.i64 (shut (armsE q (intsOf ar) (↑m : Int)))])))) (true) (a) (b) (c) (d) (n) (cs) (m) (fs) (q) (ar) (a) (b) (c) (d) (4) (putCells (putCells (putCells (putCells (zrow (ofV (Go.Value.int IntKind.i64 (0 : Int))).cells 4) 0 [AV.int IntKind.i64 (shut (setupE a b c d))]) 1 [AV.int IntKind.i64 (shut (sampErr n (flosOf cs)))]) 2 [AV.int IntKind.i64 (shut (if shut ((↑m : Int) != (↑n : Int)) = true then (2 : Int) else (0 : Int)))]) 3 [AV.int IntKind.i64 (shut (armsE q (intsOf ar) (↑n : Int)))]) (3) (putCells (putCells (putCells (zrow (ofV (Go.Value.int IntKind.i64 (0 : Int))).cells 3) 0 [AV.int IntKind.i64 (shut (setupE a b c d))]) 1 [AV.int IntKind.i64 (shut (if shut (decide ((↑m : Int) > (4096 : Int))) = true then (5 : Int) else (0 : Int)))]) 2 [AV.int IntKind.i64 (shut (armsE q (intsOf ar) (↑m : Int)))]))
    (
    guardO (shut (decide (Segs (shut (acqL a b c d n cs m fs q ar).length) (shut (segCells (acqL a b c d n cs m fs q ar))) ∧ shut (acqL a b c d n cs m fs q ar).length ≤ 100000))) <|
    guardO (shut (decide (ShotsOk a b c d n fs q ar (↑n : Int) ∧ Flos n cs ∧ n = m ∧ (↑n : Int) = (↑n : Int)))) <|
    guardO (shut (decide (Segs (shut (shut (acqL a b c d n cs m fs q ar).length)) (shut (shut (segCells (acqL a b c d n cs m fs q ar)))) ∧ shut (shut (acqL a b c d n cs m fs q ar).length) = shut (segsP a b c d n cs fs ar).length ∧ shut (shut (segCells (acqL a b c d n cs m fs q ar))) = shut (segCells (segsP a b c d n cs fs ar)) ∧ SelfF (shut (shut (acqL a b c d n cs m fs q ar).length)) (shut (shut (segCells (acqL a b c d n cs m fs q ar))))))) <|
    k_15.1 (shut (accL a b c d m fs q ar).length) (shut (intsL (accL a b c d m fs q ar))) (shut (accE a b c d m q ar)) (shut (firstNZ (intsOf (putCells (putCells (putCells (zrow (ofV (Go.Value.int IntKind.i64 (0 : Int))).cells 3) 0 [AV.int IntKind.i64 (shut (setupE a b c d))]) 1 [AV.int IntKind.i64 (shut (if shut (decide ((↑m : Int) > (4096 : Int))) = true then (5 : Int) else (0 : Int)))]) 2 [AV.int IntKind.i64 (shut (armsE q (intsOf ar) (↑m : Int)))])))) (!shut true) (a) (b) (c) (d) (n) (cs) (m) (fs) (q) (ar) (a) (b) (c) (d) (4) (putCells (putCells (putCells (putCells (zrow (ofV (Go.Value.int IntKind.i64 (0 : Int))).cells 4) 0 [AV.int IntKind.i64 (shut (setupE a b c d))]) 1 [AV.int IntKind.i64 (shut (sampErr n (flosOf cs)))]) 2 [AV.int IntKind.i64 (shut (if shut ((↑m : Int) != (↑n : Int)) = true then (2 : Int) else (0 : Int)))]) 3 [AV.int IntKind.i64 (shut (armsE q (intsOf ar) (↑n : Int)))]) (3) (putCells (putCells (putCells (zrow (ofV (Go.Value.int IntKind.i64 (0 : Int))).cells 3) 0 [AV.int IntKind.i64 (shut (setupE a b c d))]) 1 [AV.int IntKind.i64 (shut (if shut (decide ((↑m : Int) > (4096 : Int))) = true then (5 : Int) else (0 : Int)))]) 2 [AV.int IntKind.i64 (shut (armsE q (intsOf ar) (↑m : Int)))]))))
   (
   k_15.1 (shut (accL a b c d m fs q ar).length) (shut (intsL (accL a b c d m fs q ar))) (shut (accE a b c d m q ar)) (shut (firstNZ (intsOf (putCells (putCells (putCells (zrow (ofV (Go.Value.int IntKind.i64 (0 : Int))).cells 3) 0 [AV.int IntKind.i64 (shut (setupE a b c d))]) 1 [AV.int IntKind.i64 (shut (if shut (decide ((↑m : Int) > (4096 : Int))) = true then (5 : Int) else (0 : Int)))]) 2 [AV.int IntKind.i64 (shut (armsE q (intsOf ar) (↑m : Int)))])))) (false) (a) (b) (c) (d) (n) (cs) (m) (fs) (q) (ar) (a) (b) (c) (d) (4) (putCells (putCells (putCells (putCells (zrow (ofV (Go.Value.int IntKind.i64 (0 : Int))).cells 4) 0 [AV.int IntKind.i64 (shut (setupE a b c d))]) 1 [AV.int IntKind.i64 (shut (sampErr n (flosOf cs)))]) 2 [AV.int IntKind.i64 (shut (if shut ((↑m : Int) != (↑n : Int)) = true then (2 : Int) else (0 : Int)))]) 3 [AV.int IntKind.i64 (shut (armsE q (intsOf ar) (↑n : Int)))]) (3) (putCells (putCells (putCells (zrow (ofV (Go.Value.int IntKind.i64 (0 : Int))).cells 3) 0 [AV.int IntKind.i64 (shut (setupE a b c d))]) 1 [AV.int IntKind.i64 (shut (if shut (decide ((↑m : Int) > (4096 : Int))) = true then (5 : Int) else (0 : Int)))]) 2 [AV.int IntKind.i64 (shut (armsE q (intsOf ar) (↑m : Int)))])))))) := by kernel_rfl
end Go.Abs
end

section
/- Samples that are finite, and that are cleaned. -/
set_option linter.unusedVariables false
set_option linter.unusedSimpArgs false
namespace Go.Abs.Fin
open Go.Proofs Classical
theorem fin_of {o : Option Nat} (h : finB o = true) : ∃ b s m i, o = some b ∧ Go.FloatKind.f32.format.read b = .number s m i := by
 cases o with
 | none => exact absurd h (by decide)
 | some b =>
  cases hd : Go.FloatKind.f32.format.read b with
  | number s m i => exact ⟨b, s, m, i, rfl, hd⟩
  | infinity s =>
   exfalso
   have : arithO .sub .f32 (some b) (some b) = none := by
    simp only [arithO, arithF, Ieee.Format.sub, hd, Ieee.Datum.opposite, Ieee.Datum.sum]
    cases s <;> rfl
   unfold finB at h
   rw [this] at h
   exact absurd h (by decide)
  | nan s t =>
   exfalso
   have : arithO .sub .f32 (some b) (some b) = none := by
    simp only [arithO, arithF, Ieee.Format.sub, hd, Ieee.Datum.opposite, Ieee.Datum.sum, Option.map_none]
   unfold finB at h
   rw [this] at h
   exact absurd h (by decide)
theorem cmp_self (z : Int) : compare z z = .eq := by simp
theorem ord_refl {o : Option Nat} (h : finB o = true) : ordO .f32 o o = some .eq := by
 obtain ⟨b, s, m, i, rfl, hd⟩ := fin_of h
 simp only [ordO, Ieee.Format.order, hd, Ieee.Datum.order, cmp_self]
theorem zero_ord : ordO .f32 (some 0) (some 0) = some .eq := by decide +kernel
theorem ord_clean {o : Option Nat} (h : finB o = true) : ordO .f32 (clean1 o) (clean1 o) = some .eq := by
 unfold clean1
 split
 ·exact zero_ord
 ·exact ord_refl h
theorem negz_clean (o : Option Nat) : negz (clean1 o) = false := by
 unfold clean1
 split
 ·decide +kernel
 ·rename_i hz
  unfold negz
  rw [beq_eq_false_iff_ne.mpr hz]; rfl
theorem sameF_self {xs : List (Option Nat)} (h : ∀ o ∈ xs, ordO .f32 o o = some .eq) : sameF xs xs = true := by
 unfold sameF
 simp only [beq_self_eq_true, Bool.true_and, List.all_eq_true, List.mem_range, beq_iff_eq]
 intro i hi
 refine h _ ?_
 rw [List.getD_eq_getElem?_getD, List.getElem?_eq_getElem hi]; exact List.getElem_mem _
end Go.Abs.Fin
end

