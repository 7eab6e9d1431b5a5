/- Part 3 of the library that the proof of the statement uses: an abstract run of the program, proved right, and what its functions give. -/
import Derived.Test.YtkloadomnblkeaaGreatDoorBd2
import Derived.Below
import Derived.Deep.Slices
import Derived.OpenShut
set_option linter.unusedVariables false
set_option linter.unusedSimpArgs false

section
/- The functions of a program, run with temporaries in a tree. -/
set_option linter.unusedSimpArgs false
set_option linter.unusedVariables false
namespace Go.Abs

variable {P : Program} {Γ : Globs} {fs : Fns} {ops : Array Oper} {σ σ' : StT} {τ : St} {e : Exit} {lf : Nat} {ro : Option Nat}

theorem ajump_same {j : Option Code} {τ τ' : St} (h : ajump j τ = some (e, τ')) : τ' = τ := by
  unfold ajump at h
  split at h <;> first
    | (cases h; done)
    | (simp only [Option.some.injEq, Prod.mk.injEq] at h; exact h.2.symm)

theorem arange_tmps {g : Operand} {ps : Array Tmp} {as bd : Code} {τ' : St} (h : arange Γ fs ro g ps as bd τ = some (e, τ')) : τ'.tmps = τ.tmps := by
  unfold arange at h
  split at h
  · split at h
    · split at h
      · split at h
        · split at h
          · cases h
          · split at h
            · have := ajump_same h; rw [this]
            · cases h
        · cases h
      · cases h
    · cases h
  · cases h

theorem acodeT_ok : ∀ (c : Code) (σ : StT) (τ : St) (e : Exit) (σ' : StT), TRel σ τ → (acodeT P Γ lf ro c).run fs σ = some (e, σ') → ∃ τ', TRel σ' τ' ∧ acode P Γ fs (fun ops => adraw P Γ fs ops) lf ro c τ = some (e, τ') := by
  intro c
  induction c with
  | skip => intro σ τ e σ' h hr; simp only [acodeT, Option.some.injEq, Prod.mk.injEq] at hr; obtain ⟨rfl, rfl⟩ := hr; exact ⟨τ, h, rfl⟩
  | label l => intro σ τ e σ' h hr; simp only [acodeT, Option.some.injEq, Prod.mk.injEq] at hr; obtain ⟨rfl, rfl⟩ := hr; exact ⟨τ, h, rfl⟩
  | exit id => intro σ τ e σ' h hr; simp only [acodeT, Option.some.injEq, Prod.mk.injEq] at hr; obtain ⟨rfl, rfl⟩ := hr; exact ⟨τ, h, rfl⟩
  | goto l => intro σ τ e σ' h hr; simp only [acodeT, Option.some.injEq, Prod.mk.injEq] at hr; obtain ⟨rfl, rfl⟩ := hr; exact ⟨τ, h, rfl⟩
  | ret => intro σ τ e σ' h hr; simp only [acodeT, Option.some.injEq, Prod.mk.injEq] at hr; obtain ⟨rfl, rfl⟩ := hr; exact ⟨τ, h, rfl⟩
  | refuse s => intro σ τ e σ' h hr; simp [acodeT] at hr
  | scope b ih =>
    intro σ τ e σ' h hr
    simp only [acodeT] at hr
    split at hr
    · cases hr
    · rename_i hne
      obtain ⟨τ1, r1, g1⟩ := ih _ _ _ _ h hr
      refine ⟨τ1, r1, ?_⟩
      simp only [acode, g1]
      cases e <;> first | rfl | exact absurd hr (hne _ _)
  | region id ops d =>
    intro σ τ e σ' h hr
    cases d with
    | true =>
      simp only [acodeT] at hr
      split at hr
      · rename_i σ1 h1
        simp only [Option.some.injEq, Prod.mk.injEq] at hr; obtain ⟨rfl, rfl⟩ := hr
        obtain ⟨τ1, r1, g1⟩ := adrawT_ok h h1
        exact ⟨τ1, r1, by simp only [acode, g1]⟩
      · cases hr
    | false =>
      simp only [acodeT] at hr
      split at hr
      · rename_i σ1 h1
        simp only [Option.some.injEq, Prod.mk.injEq] at hr; obtain ⟨rfl, rfl⟩ := hr
        obtain ⟨τ1, r1, g1⟩ := aopsT_ok _ _ _ _ h h1
        exact ⟨τ1, r1, by simp only [acode, g1]⟩
      · cases hr
  | seq x y ihx ihy =>
    intro σ τ e σ' h hr
    simp only [acodeT] at hr
    split at hr
    · rename_i σ1 h1
      obtain ⟨τ1, r1, g1⟩ := ihx _ _ _ _ h h1
      obtain ⟨τ2, r2, g2⟩ := ihy _ _ _ _ r1 hr
      exact ⟨τ2, r2, by simp only [acode, g1, g2]⟩
    · rename_i hne
      obtain ⟨τ1, r1, g1⟩ := ihx _ _ _ _ h hr
      refine ⟨τ1, r1, ?_⟩
      simp only [acode, g1]
      cases e <;> first | exact absurd hr (hne _) | rfl
  | cond c x y ihx ihy =>
    intro σ τ e σ' h hr
    simp only [acodeT, evT_eq h.t] at hr
    split at hr
    · rename_i hc
      obtain ⟨τ1, r1, g1⟩ := ihx _ _ _ _ h hr
      exact ⟨τ1, r1, by simp only [acode, hc, g1]⟩
    · rename_i hc
      obtain ⟨τ1, r1, g1⟩ := ihy _ _ _ _ h hr
      exact ⟨τ1, r1, by simp only [acode, hc, g1]⟩
    · cases hr
  | block id x ih =>
    intro σ τ e σ' h hr
    simp only [acodeT] at hr
    split at hr
    · rename_i k σ1 h1
      obtain ⟨τ1, r1, g1⟩ := ih _ _ _ _ h h1
      split at hr
      · rename_i hk
        simp only [Option.some.injEq, Prod.mk.injEq] at hr; obtain ⟨rfl, rfl⟩ := hr
        exact ⟨τ1, r1, by simp only [acode, g1]; rw [if_pos hk]⟩
      · rename_i hk
        simp only [Option.some.injEq, Prod.mk.injEq] at hr; obtain ⟨rfl, rfl⟩ := hr
        exact ⟨τ1, r1, by simp only [acode, g1]; rw [if_neg hk]⟩
    · rename_i hne
      obtain ⟨τ1, r1, g1⟩ := ih _ _ _ _ h hr
      refine ⟨τ1, r1, ?_⟩
      simp only [acode, g1]
      cases e <;> first | exact absurd hr (hne _ _) | rfl
  | loop x ih =>
    intro σ τ e σ' h hr
    exact aloopT_ok (fun σ τ e σ' h hr => ih σ τ e σ' h hr) lf σ τ e σ' h hr
  | rangeFunc g ps as bd _ _ =>
    intro σ τ e σ' h hr
    simp only [acodeT] at hr
    rw [h.down] at hr
    split at hr
    · rename_i e1 τ1 h1
      simp only [Option.some.injEq, Prod.mk.injEq] at hr; obtain ⟨rfl, rfl⟩ := hr
      have ht := arange_tmps h1
      exact ⟨τ1, ⟨by rw [ht]; exact h.n, by rw [ht]; exact h.t, rfl, rfl⟩, h1⟩
    · cases hr

noncomputable def targs : List AV → Nat → TT → TT
  | [], _, t => t
  | x :: xs, k, t => targs xs (k + 1) ((setT (some k)).run x t)

def largs : List AV → Nat → List AV → List AV
  | [], _, l => l
  | x :: xs, k, l => largs xs (k + 1) (aput l (some k) x)

theorem targs_holds : ∀ (xs : List AV) (k : Nat) (t : TT) (l : List AV), Holds t l → Holds (targs xs k t) (largs xs k l) := by
  intro xs
  induction xs with
  | nil => intro k t l h; exact h
  | cons x xs ih => intro k t l h; exact ih (k + 1) _ _ (setT_holds h (some k) x)

theorem largs_eq (u : AV) (m : Nat) : ∀ (xs pre : List AV), largs xs pre.length (pre ++ List.replicate (xs.length + m) u) = pre ++ xs ++ List.replicate m u := by
  intro xs
  induction xs with
  | nil => intro pre; simp [largs]
  | cons x xs ih =>
    intro pre
    have e : aput (pre ++ List.replicate ((x :: xs).length + m) u) (some pre.length) x = (pre ++ [x]) ++ List.replicate (xs.length + m) u := by
      have : (x :: xs).length + m = (xs.length + m) + 1 := by simp; omega
      rw [this, List.replicate_succ]
      simp only [aput, List.set_append_right _ _ (Nat.le_refl _), Nat.sub_self, List.set_cons_zero, List.append_assoc, List.singleton_append]
    have h := ih (pre ++ [x])
    simp only [largs, e]
    simpa using h

noncomputable def acallT (P : Program) (Γ : Globs) (fs : Fns) (lf : Nat) (g : FuncId) (args : List AV) (H : Heap) : Option (AV × Heap) :=
  match P.funcs[g]? with
  | some fn => match fn.body with
    | some c => match Nat.blt (args.length + (fn.ntmps - args.length)) 65536 with
      | true => match (acodeT P Γ lf none c).run fs { t := targs args 0 (tfill (ofV undef) 16 (args.length + (fn.ntmps - args.length))), n := args.length + (fn.ntmps - args.length), H := H, d := [] } with
        | some (.normal, σ) => aleave P fn σ.down
        | some (.ret, σ) => aleave P fn σ.down
        | _ => none
      | false => none
    | none => none
  | none => none

theorem acallT_eq {g : FuncId} {args : List AV} {H : Heap} {r : AV × Heap} (h : acallT P Γ fs lf g args H = some r) : acall P (acode P Γ fs (fun ops => adraw P Γ fs ops) lf none) g args H = some r := by
  unfold acallT at h
  unfold acall
  split at h
  · rename_i fn hfn
    split at h
    · rename_i c hc
      split at h
      · rename_i hb
        have hlt := blt_lt hb
        try simp only [hfn, hc]
        have hh := targs_holds args 0 _ _ (holds_fill (ofV undef) (args.length + (fn.ntmps - args.length)) hlt)
        have hl := largs_eq (ofV undef) (fn.ntmps - args.length) args []
        simp only [List.nil_append, List.length_nil] at hl
        rw [hl] at hh
        have h0 : TRel { t := targs args 0 (tfill (ofV undef) 16 (args.length + (fn.ntmps - args.length))), n := args.length + (fn.ntmps - args.length), H := H, d := [] }
            { tmps := args ++ List.replicate (fn.ntmps - args.length) (ofV undef), H := H, defers := [] } := ⟨by simp, hh, rfl, rfl⟩
        split at h
        · rename_i σ hr
          obtain ⟨τ1, r1, g1⟩ := acodeT_ok c _ _ _ _ h0 hr
          simp only [g1]
          rw [r1.down] at h
          exact h
        · rename_i σ hr
          obtain ⟨τ1, r1, g1⟩ := acodeT_ok c _ _ _ _ h0 hr
          simp only [g1]
          rw [r1.down] at h
          exact h
        · cases h
      · cases h
    · cases h
  · cases h

/-- The functions of a program: with trees; calls that name no row on the empty heap, or looked up. -/
noncomputable def fnsT (P : Program) (Γ : Globs) (ext : FuncId → List AV → Option AV) (sel : FuncId → Nat) (T : Tab) (lf : Nat) : Nat → Fns
  | 0 => { call := fun _ _ _ => none, yield := fun _ _ _ => none, ext := ext }
  | k + 1 =>
    { call := callP (acallT P Γ (fnsT P Γ ext sel T lf k) lf) sel T,
      yield := ayield fun r c => (acodeS P Γ (fnsT P Γ ext sel T lf k) (adraw P Γ (fnsT P Γ ext sel T lf k)) lf (some r) c).run, ext := ext }

theorem acallT_ok (hm : P.follows .mixedOrders = true) (hnum : NoNum P) (hfs : FnsOk P Γ fs) {g : FuncId} {args : List AV} {H H' : Heap} {y : AV} (h : acallT P Γ fs lf g args H = some (y, H')) : CallOk P Γ g args H y H' :=
  acall_ok hnum (fun c σ e σ' h => acode_ok hm hfs (fun ops σ σ' h => adraw_ok hfs h) c σ e σ' h) (acallT_eq h)

theorem fnsT_ok (hm : P.follows .mixedOrders = true) (hnum : NoNum P) {ext : FuncId → List AV → Option AV} (hext : ExtOk P ext) (hΓ : PureGlobs Γ) {sel : FuncId → Nat} {T : Tab} (hT : TabOk P Γ T) {lf : Nat} :
    ∀ k, FnsOk P Γ (fnsT P Γ ext sel T lf k) := by
  intro k
  induction k with
  | zero => exact ⟨fun _ _ _ _ _ h => by simp [fnsT] at h, fun _ _ _ _ _ h => by simp [fnsT] at h, hext⟩
  | succ k ih =>
    refine ⟨fun g args H y H' h => callP_ok hΓ (fun g args H y H' h => acallT_ok hm hnum ih h) hT h, fun r args H y H' h => ?_, hext⟩
    have h' : ayield (fun r c => (acodeS P Γ (fnsT P Γ ext sel T lf k) (adraw P Γ (fnsT P Γ ext sel T lf k)) lf (some r) c).run) r args H = some (y, H') := h
    refine ayield_ok (fun r c σ e σ' h => ?_) h'
    rw [acodeS_run] at h
    exact acode_ok hm ih (fun ops σ σ' h => adraw_ok ih h) c σ e σ' h

end Go.Abs
end

section
/- Regions that draw: a new variable laid ahead that is written before the last values are drawn. -/
set_option linter.unusedSimpArgs false
set_option linter.unusedVariables false
namespace Go.Abs
section
variable {chk : Chk} {P : Program} {Γ : Globs} {fs : Fns} {ops : Array Oper} {Ms : List Nat} {dsts : List (Option Tmp)} {σ : St} {F G : Nat → Prop} {i : Nat → Nat} {a : Act} {w : World} {H : Heap} {ro : Option Nat} {Q : Exit → Act → World → Prop} {R : List Rec}

/-- What an operation need not have behind it: operations that do not hang on the heap, whose places nobody else writes. -/
def lateOk (P : Program) (m : Nat) (dsts : List (Option Tmp)) : List Oper → Nat → Bool
  | [], _ => true
  | o :: os, k => (m.testBit k || (pureOp o.op && quietAt P o && aalone o.dst k dsts 0)) && lateOk P m dsts os (k + 1)

theorem lateOk_spec {m : Nat} : ∀ (os : List Oper) (k : Nat), lateOk P m dsts os k = true → ∀ t o, os[t]? = some o → m.testBit (k + t) = true ∨ (pureOp o.op = true ∧ quietAt P o = true ∧ aalone o.dst (k + t) dsts 0 = true)
  | [], k, h, t, o, ht => by simp at ht
  | o' :: os, k, h, t, o, ht => by
    simp only [lateOk, Bool.and_eq_true, Bool.or_eq_true] at h
    cases t with
    | zero =>
      simp only [List.getElem?_cons_zero, Option.some.injEq] at ht; subst ht
      rcases h.1 with h1 | h1
      · exact .inl h1
      · exact .inr ⟨h1.1.1, h1.1.2, h1.2⟩
    | succ t =>
      have := lateOk_spec os (k + 1) h.2 t o (by simpa using ht)
      rwa [show k + 1 + t = k + (t + 1) by omega] at this

theorem arec_adds : ∀ (os : List Oper) (j : Nat) (acc R : List Rec), arecC chk P Γ fs ops Ms dsts σ os j acc = some R → (∀ r ∈ acc, r.add = true → quietAt P r.o = false) → ∀ r ∈ R, r.add = true → quietAt P r.o = false
  | [], j, acc, R, h, ha => by simp only [arecC, Option.some.injEq] at h; subst h; exact ha
  | o :: os, j, acc, R, h, ha => by
    simp only [arecC] at h
    split at h
    · split at h
      · refine arec_adds os _ _ R h fun r hr hd => ?_
        rcases List.mem_cons.1 hr with rfl | hr
        · cases hd
        · exact ha r hr hd
      · cases h
    · split at h
      · split at h
        · split at h
          · refine arec_adds os _ _ R h fun r hr hd => ?_
            rcases List.mem_cons.1 hr with rfl | hr
            · cases hd
            · exact ha r hr hd
          · cases h
        · rename_i hq
          split at h
          · refine arec_adds os _ _ R h fun r hr hd => ?_
            rcases List.mem_cons.1 hr with rfl | hr
            · exact hq
            · exact ha r hr hd
          · cases h
      · cases h

/-- As 'drawA', with what comes behind the first part left open. -/
theorem drawG (hk : ChkOk P fs ops chk) (hfs : FnsOk P Γ fs) {Mf : List Nat} (hm : ∀ j o, ops[j]? = some o → MaskAt Mf j o) {p : Nat} (hpn : p ≤ ops.size)
    (hMs : ∀ j, j < p → Ms.getD j 0 = Mf.getD j 0) (hg : Good chk P Γ fs ops Ms dsts σ R) (hlen : R.length = p) (hd : DstsOk dsts R) (hw : awriters Ms dsts dsts 0 = true) {F0 : Nat → Prop} {i0 : Nat → Nat} {w0 : World}
    (hfin : ∀ (fuel : Nat) (listed : Array Bool) (F : Nat → Prop) (pend i : Nat → Nat) (a : Act) (w : World), listed.size = ops.size → unl listed.toList ≤ fuel → InvA Γ Ms σ R F0 F G i0 w0 (fun k => listed.getD k false) pend i a w →
      (∀ k, k < p → listed.getD k false = true) → wpAnyIn (W ro) 0 P .any ops Q fuel listed a w)
    (hnext : ∀ (fuel : Nat) (listed : Array Bool) (F : Nat → Prop) (pend i : Nat → Nat) (a : Act) (w : World), listed.size = ops.size → unl listed.toList ≤ fuel + 1 → InvA Γ Ms σ R F0 F G i0 w0 (fun k => listed.getD k false) pend i a w →
      ∀ j, j ∈ Region.ready .any ops listed → p ≤ j → (∀ k, (Mf.getD j 0).testBit k = true → listed.getD k false = true) → wpOpIn (W ro) 0 P ops Q j (wpAnyIn (W ro) 0 P .any ops Q fuel (listed.setIfInBounds j true)) a w) :
    ∀ (fuel : Nat) (listed : Array Bool) (F : Nat → Prop) (pend i : Nat → Nat) (a : Act) (w : World), listed.size = ops.size → unl listed.toList ≤ fuel → InvA Γ Ms σ R F0 F G i0 w0 (fun k => listed.getD k false) pend i a w →
      wpAnyIn (W ro) 0 P .any ops Q fuel listed a w := by
  have hback : Backward ops := fun j o ho => (hm j o ho).1
  have hal : ∀ pre' r' rest', R = pre' ++ r' :: rest' → r'.fl.isSome = true → aalone r'.o.dst rest'.length dsts 0 = true := by
    intro pre' r' rest' he hf
    obtain ⟨_, h⟩ := good_at pre' hg he
    cases hfl : r'.fl with
    | none => rw [hfl] at hf; cases hf
    | some z => simp only [hfl] at h; exact h.2.2.2
  intro fuel
  induction fuel with
  | zero =>
    intro listed F pend i a w hsz hun hI
    refine hfin 0 listed F pend i a w hsz hun hI fun k hk => ?_
    cases hc : listed.getD k false with
    | true => rfl
    | false =>
      exfalso
      have hk2 : k < listed.size := by omega
      rw [Array.getD_eq_getD_getElem?, Array.getElem?_eq_getElem hk2] at hc
      have := unl_pos listed.toList k (by rw [Array.getElem?_toList, Array.getElem?_eq_getElem hk2]; simpa using hc)
      omega
  | succ fuel ih =>
    intro listed F pend i a w hsz hun hI
    by_cases hall : ∀ k, k < p → listed.getD k false = true
    · exact hfin (fuel + 1) listed F pend i a w hsz hun hI hall
    simp only [Classical.not_forall, not_imp, Bool.not_eq_true] at hall
    obtain ⟨k0, hk0, hu0⟩ := hall
    have hu1 : listed.getD k0 true = false := by
      have hk2 : k0 < listed.size := by omega
      rw [Array.getD_eq_getD_getElem?, Array.getElem?_eq_getElem hk2] at hu0 ⊢
      exact hu0
    obtain ⟨j0, hj0⟩ := exists_ready hback hsz k0 (by omega) hu1
    refine ⟨fun h0 => (by rw [h0] at hj0; cases hj0), fun j hj => ?_⟩
    obtain ⟨hj1, oj, hoj, hdirect⟩ := mem_ready.1 hj
    obtain ⟨hj2, hj3, hj4⟩ := getD_false_true hj1
    have hjn : j < ops.size := by omega
    -- what stands behind j is done
    have hancf : ∀ k, (Mf.getD j 0).testBit k = true → listed.getD k false = true := by
      intro k hb
      obtain ⟨e, he, hbi, h⟩ := ((hm j oj hoj).2 k).1 hb
      have hel := hdirect e he hbi
      rcases h with rfl | h
      · exact hel
      · refine hI.closed.down e.on k hel ?_
        rw [hMs e.on (by rw [← hlen]; exact hI.inA _ hel)]
        exact h
    rcases Nat.lt_or_ge j p with hjp | hjp
    case inr => exact hnext fuel listed F pend i a w hsz hun hI j hj hjp hancf
    have hanc : ∀ k, (Ms.getD j 0).testBit k = true → listed.getD k false = true := fun k hb => hancf k (by rw [← hMs j hjp]; exact hb)
    obtain ⟨pre, r, rest, he, hrl⟩ := rec_at R j (by omega)
    subst hrl
    obtain ⟨hro, hrec⟩ := good_at pre hg he
    rw [hro] at hoj
    simp only [Option.some.injEq] at hoj; subst hoj
    have hfun : (fun k => (listed.setIfInBounds rest.length true).getD k false) = (fun k => k == rest.length || listed.getD k false) := funext fun k => getD_set hj3
    have hunl : unl (listed.setIfInBounds rest.length true).toList ≤ fuel := by
      have := unl_set listed.toList rest.length hj4
      rw [Array.toList_setIfInBounds]
      omega
    have next : ∀ F' pend' i' a' w', InvA Γ Ms σ R F0 F' G i0 w0 (fun k => k == rest.length || listed.getD k false) pend' i' a' w' → wpAnyIn (W ro) 0 P .any ops Q fuel (listed.setIfInBounds rest.length true) a' w' :=
      fun F' pend' i' a' w' hI' => ih _ F' pend' i' a' w' (by simpa using hsz) hunl (by rw [hfun]; exact hI')
    unfold wpOpIn
    simp only [hro]
    cases hfl : r.fl with
    | some z =>
      simp only [hfl] at hrec
      obtain ⟨hy, hadd, hflt, _⟩ := hrec
      obtain ⟨t, hop, hgu, hz⟩ := float_spec hflt
      obtain ⟨o, hrun, hrow⟩ := alloc_run hz w
      have hwant : Region.wanted r.o (yielded ops a.tmps) = true := by simp [Region.wanted, hgu]
      rw [if_pos hwant]
      refine ⟨fun _ _ => trivial, ?_⟩
      rw [Oper.semAt_eq _ _ _ (fun c hc => by rw [hop] at hc; cases hc)]
      simp only [execOp, hop, Sem.run_bind, hrun, Result.andThen_ok, Sem.run_pure]
      exact next _ _ _ _ _ (hI.float hd hw he hj2 hanc hfl hy hadd hal hrow)
    | none =>
      simp only [hfl] at hrec
      obtain ⟨hρ, H', hst, hkind⟩ := hrec
      have hev : ∀ x, VRel ⟨F, w.heap, i, (curH σ.H (fun k => listed.getD k false) R).n⟩ (r.ρ x) (a.eval x) := by
        intro x
        rw [hρ]
        exact hI.val.eval hI.closed hd he hj2 hanc (ev_const hI.globs σ.tmps) x
      rcases hkind with ⟨hadd, hquiet, _⟩ | ⟨hadd, hH', hch, hup⟩
      · obtain ⟨H2, h2⟩ := curH_quiet hk hI.closed hg pre he hfl hadd hj2 hanc
        have hH2 := astep_quiet hquiet h2
        subst hH2
        exact astep_wp hfs hI.heap hI.globs hev h2 fun v w' F' i' hgv => next _ _ _ _ _ (hI.step hd hw he hj2 hanc hfl hal (curH_same pre he hadd) hgv)
      · obtain ⟨c1, c2⟩ := curH_add hI.closed hg pre he hadd hj2 hanc
        rw [← c1, hH'] at hst
        exact astep_wp hfs hI.heap hI.globs hev hst fun v w' F' i' hgv => next _ _ _ _ _ (hI.step hd hw he hj2 hanc hfl hal c2 hgv)


/-! Behind the first part but for late values -/

/-- A late value: its operation is not done. -/
def LateT (R : List Rec) (S : Nat → Bool) (t : Nat) : Prop := ∃ pre r rest, R = pre ++ r :: rest ∧ S rest.length = false ∧ r.o.dst = some t

open Classical in
noncomputable def hidT (p : Nat → Prop) (T : List AV) : List AV := T.mapIdx fun t x => if p t then .top else x

theorem hidT_get {p : Nat → Prop} {T : List AV} {t : Nat} {x : AV} (h : (hidT p T)[t]? = some x) : (p t ∧ x = .top) ∨ (¬ p t ∧ T[t]? = some x) := by
  unfold hidT at h
  rw [List.getElem?_mapIdx] at h
  cases hT : T[t]? with
  | none => rw [hT] at h; simp at h
  | some y =>
    rw [hT] at h
    simp only [Option.map_some, Option.some.injEq] at h
    by_cases hp : p t
    · rw [if_pos hp] at h; exact .inl ⟨hp, h.symm⟩
    · rw [if_neg hp] at h; exact .inr ⟨hp, by rw [h]⟩

theorem hidT_length {p : Nat → Prop} {T : List AV} : (hidT p T).length = T.length := by simp [hidT]

theorem alay_get {t : Nat} : ∀ (R : List Rec) (T : List AV) (H : Heap), (∀ r ∈ R, r.fl.isSome = true → r.o.dst ≠ some t) → (alay R T H).1[t]? = T[t]?
  | [], T, H, h => rfl
  | r :: R, T, H, h => by
    have ih := alay_get R T H fun r' hr => h r' (List.mem_cons_of_mem _ hr)
    simp only [alay]
    split
    · rename_i z hz
      have hne := h r List.mem_cons_self (by rw [hz]; rfl)
      cases hd : r.o.dst with
      | none => simp only [aput]; exact ih
      | some d =>
        simp only [aput]
        rw [List.getElem?_set]
        have : d ≠ t := by rintro rfl; exact hne hd
        rw [if_neg this]; exact ih
    · exact ih

theorem alay_len : ∀ (R : List Rec) (T : List AV) (H : Heap), (alay R T H).1.length = T.length
  | [], T, H => rfl
  | r :: R, T, H => by
    simp only [alay]
    split
    · rw [aput_length, alay_len R T H]
    · exact alay_len R T H

/-- What is laid hangs on the place alone. -/
theorem alay_swap {t : Nat} {T T' : List AV} {H : Heap} (hl : T.length = T'.length) : ∀ (R : List Rec), (alay R T H).2 = (alay R T' H).2 ∧ (T[t]? = T'[t]? → (alay R T H).1[t]? = (alay R T' H).1[t]?)
  | [] => ⟨rfl, fun h => h⟩
  | r :: R => by
    obtain ⟨h1, h2⟩ := alay_swap (t := t) hl R
    simp only [alay]
    split
    · refine ⟨by rw [h1], fun h => ?_⟩
      rw [h1]
      cases hd : r.o.dst with
      | none => exact h2 h
      | some d =>
        simp only [aput, List.getElem?_set, alay_len, hl, h2 h]
    · exact ⟨h1, h2⟩

theorem alast_alone {t : Nat} {r : Rec} {rest : List Rec} (hr : r.o.dst = some t) : ∀ (pre : List Rec), (∀ q ∈ pre, q.o.dst ≠ some t) → alast t (pre ++ r :: rest) = some r.y
  | [], _ => by simp [alast, hr]
  | q :: pre, h => by
    have ih := alast_alone (rest := rest) hr pre fun q' hq => h q' (List.mem_cons_of_mem _ hq)
    have hq := h q List.mem_cons_self
    simp only [List.cons_append, alast]
    split
    · rename_i u hu
      have : (u == t) = false := beq_eq_false_iff_ne.2 (by rintro rfl; exact hq hu)
      rw [this]; exact ih
    · exact ih

structure LateI (Γ : Globs) (Ms : List Nat) (σ : St) (R : List Rec) (F0 F G : Nat → Prop) (i0 : Nat → Nat) (w0 : World) (S : Nat → Bool) (T : List AV) (H1 : Heap) (i : Nat → Nat) (a : Act) (w : World) : Prop where
  closed : Closed Ms S
  srel : SRel Γ F G i { σ with tmps := hidT (LateT R S) T, H := H1 } a w
  val : ValOk ⟨F, w.heap, i, H1.n⟩ S R σ.tmps a
  ext : Ext σ.H.n F0 G i0 w0 F i w
  le : σ.H.n ≤ H1.n

/-- The late operations of a first part. -/
structure Lates (Mf : List Nat) (R : List Rec) (q : Nat) : Prop where
  pure : ∀ pre r rest, R = pre ++ r :: rest → (Mf.getD q 0).testBit rest.length = false → pureOp r.o.op = true ∧ r.add = false ∧ r.fl = none
  alone : ∀ pre r rest, R = pre ++ r :: rest → (Mf.getD q 0).testBit rest.length = false → ∀ t, r.o.dst = some t → ∀ pre' r' rest', R = pre' ++ r' :: rest' → r'.o.dst = some t → rest'.length = rest.length

theorem drawL (hfs : FnsOk P Γ fs) {Mf : List Nat} (hm : ∀ j o, ops[j]? = some o → MaskAt Mf j o) {q : Nat} (hq : q < ops.size) (hfull : ∀ j, q < j → j < ops.size → Mf.getD j 0 = 2 ^ j - 1)
    (hMs : ∀ j, j < q → Ms.getD j 0 = Mf.getD j 0) (hg : Good chk P Γ fs ops Ms dsts σ R) (hlen : R.length = q) (hd : DstsOk dsts R) (hw : awriters Ms dsts dsts 0 = true) (hlate : Lates Mf R q)
    {F0 : Nat → Prop} {i0 : Nat → Nat} {w0 : World} {σ' : St} {T : List AV} {H1 : Heap}
    (hT : ∀ pre r rest t x, R = pre ++ r :: rest → (Mf.getD q 0).testBit rest.length = false → r.o.dst = some t → T[t]? = some x → x = r.y)
    (hdlt : ∀ r ∈ σ.defers, r < σ.H.n)
    (hB : aops P Γ fs ops (ops.toList.drop (q + 1)) { σ with tmps := T, H := H1 } = some σ')
    (hQ : ∀ F' i' a' w', SRel Γ F' G i' σ' a' w' → Ext σ.H.n F0 G i0 w0 F' i' w' → σ.H.n ≤ σ'.H.n → Q .normal a' w') :
    ∀ (fuel : Nat) (listed : Array Bool) (S : Nat → Bool) (F : Nat → Prop) (i : Nat → Nat) (a : Act) (w : World), listed.size = ops.size → unl listed.toList ≤ fuel → (∀ k, listed.getD k false = (k == q || S k)) → (∀ k, S k = true → k < q) →
      (∀ k, (Mf.getD q 0).testBit k = true → S k = true) → LateI Γ Ms σ R F0 F G i0 w0 S T H1 i a w → wpAnyIn (W ro) 0 P .any ops Q fuel listed a w := by
  have hback : Backward ops := fun j o ho => (hm j o ho).1
  have finish : ∀ (fuel : Nat) (listed : Array Bool) (S : Nat → Bool) (F : Nat → Prop) (i : Nat → Nat) (a : Act) (w : World), listed.size = ops.size → unl listed.toList ≤ fuel → (∀ k, listed.getD k false = (k == q || S k)) → (∀ k, S k = true → k < q) →
      LateI Γ Ms σ R F0 F G i0 w0 S T H1 i a w → (∀ k, k < q → S k = true) → wpAnyIn (W ro) 0 P .any ops Q fuel listed a w := by
    intro fuel listed S F i a w hsz hun hl hS hI hall
    have hl2 : ∀ k, listed.getD k false = decide (k < q + 1) := by
      intro k
      rw [hl]
      by_cases hk : k < q
      · rw [hall k hk]; simp; omega
      · by_cases hk2 : k = q
        · subst hk2; simp
        · have : S k = false := by
            cases hc : S k with
            | false => rfl
            | true => exact absurd (hS k hc) hk
          rw [this, Bool.or_false, beq_eq_false_iff_ne.2 hk2]
          exact (decide_eq_false (by omega)).symm
    have hTT : hidT (LateT R S) T = T := by
      refine List.ext_getElem? fun t => ?_
      unfold hidT
      rw [List.getElem?_mapIdx]
      have hno : ¬ LateT R S t := by
        rintro ⟨pre, r, rest, he, hs, _⟩
        rw [hall rest.length (by rw [← hlen, he]; simp; omega)] at hs
        cases hs
      cases T[t]? with
      | none => rfl
      | some x => simp [hno]
    have hs := hI.srel
    rw [hTT] at hs
    refine drawB hfs hm (p := q + 1) (fun j hj hjn => hfull j (by omega) hjn) (ops.toList.drop (q + 1)) (q + 1) _ σ' F i a w listed fuel rfl (Nat.le_refl _) hsz hl2 (by omega) ?_ hB hs fun F'' i'' a'' w'' hs' he hle' => hQ F'' i'' a'' w'' hs' (hI.ext.trans he hI.le) (Nat.le_trans hI.le hle')
    have hge := unl_ge listed.toList (q + 1) fun k hk hkl => by
      have hk2 : k < listed.size := by simpa using hkl
      have := hl2 k
      rw [Array.getD_eq_getD_getElem?, Array.getElem?_eq_getElem hk2] at this
      rw [Array.getElem?_toList, Array.getElem?_eq_getElem hk2]
      have h3 : ¬ k < q + 1 := by omega
      simp only [Option.getD_some, h3, decide_false] at this
      rw [this]
    have : listed.toList.length = ops.size := by simpa using hsz
    omega
  intro fuel
  induction fuel with
  | zero =>
    intro listed S F i a w hsz hun hl hS hbits hI
    refine finish 0 listed S F i a w hsz hun hl hS hI fun k hk => ?_
    cases hc : S k with
    | true => rfl
    | false =>
      exfalso
      have hlk : listed.getD k false = false := by rw [hl, hc, beq_eq_false_iff_ne.2 (by omega)]; rfl
      have hk2 : k < listed.size := by omega
      rw [Array.getD_eq_getD_getElem?, Array.getElem?_eq_getElem hk2] at hlk
      have := unl_pos listed.toList k (by rw [Array.getElem?_toList, Array.getElem?_eq_getElem hk2]; simpa using hlk)
      omega
  | succ fuel ih =>
    intro listed S F i a w hsz hun hl hS hbits hI
    by_cases hall : ∀ k, k < q → S k = true
    · exact finish (fuel + 1) listed S F i a w hsz hun hl hS hI hall
    simp only [Classical.not_forall, not_imp, Bool.not_eq_true] at hall
    obtain ⟨k0, hk0, hu0⟩ := hall
    have hl0 : listed.getD k0 false = false := by rw [hl, hu0, beq_eq_false_iff_ne.2 (by omega)]; rfl
    have hu1 : listed.getD k0 true = false := by
      have hk2 : k0 < listed.size := by omega
      rw [Array.getD_eq_getD_getElem?, Array.getElem?_eq_getElem hk2] at hl0 ⊢
      exact hl0
    obtain ⟨j0, hj0⟩ := exists_ready hback hsz k0 (by omega) hu1
    refine ⟨fun h0 => (by rw [h0] at hj0; cases hj0), fun j hj => ?_⟩
    obtain ⟨hj1, oj, hoj, hdirect⟩ := mem_ready.1 hj
    obtain ⟨hj2, hj3, hj4⟩ := getD_false_true hj1
    have hjn : j < ops.size := by omega
    have hjq : j ≠ q := by rintro rfl; rw [hl] at hj2; simp at hj2
    have hjp : j < q := by
      rcases Nat.lt_or_ge j q with h | h
      · exact h
      · exfalso
        have hb : (Mf.getD j 0).testBit k0 = true := by
          rw [hfull j (by omega) hjn, Nat.testBit_two_pow_sub_one]; simp; omega
        obtain ⟨e, he, hbi, h⟩ := ((hm j oj hoj).2 k0).1 hb
        have hel := hdirect e he hbi
        rcases h with rfl | h
        · rw [hl0] at hel; cases hel
        · rw [hl] at hel
          rcases Bool.or_eq_true_iff.1 hel with h2 | h2
          · have h2 := beq_iff_eq.1 h2
            rw [h2] at h
            rw [hbits k0 h] at hu0; cases hu0
          · have := hI.closed.down e.on k0 h2 (by rw [hMs _ (hS _ h2)]; exact h)
            rw [this] at hu0; cases hu0
    have hSj : S j = false := by
      cases hc : S j with
      | false => rfl
      | true => rw [hl, hc] at hj2; simp at hj2
    have hanc : ∀ k, (Ms.getD j 0).testBit k = true → S k = true := by
      intro k hb
      rw [hMs j hjp] at hb
      obtain ⟨e, he, hbi, h⟩ := ((hm j oj hoj).2 k).1 hb
      have hel := hdirect e he hbi
      have hlt := (hm j oj hoj).1 e he hbi
      have hSe : S e.on = true := by
        rw [hl, beq_eq_false_iff_ne.2 (by omega)] at hel; simpa using hel
      rcases h with rfl | h
      · exact hSe
      · exact hI.closed.down e.on k hSe (by rw [hMs e.on (by omega)]; exact h)
    obtain ⟨pre, r, rest, he, hrl⟩ := rec_at R j (by omega)
    subst hrl
    obtain ⟨hro, hrec⟩ := good_at pre hg he
    rw [hro] at hoj
    simp only [Option.some.injEq] at hoj; subst hoj
    have hnb : (Mf.getD q 0).testBit rest.length = false := by
      cases hc : (Mf.getD q 0).testBit rest.length with
      | false => rfl
      | true => rw [hbits _ hc] at hSj; cases hSj
    obtain ⟨hpure, hadd, hfl⟩ := hlate.pure pre r rest he hnb
    simp only [hfl] at hrec
    obtain ⟨hρ, H', hst, _⟩ := hrec
    have hst := astep_pure hpure hst H1
    have hev : ∀ x, VRel ⟨F, w.heap, i, H1.n⟩ (r.ρ x) (a.eval x) := by
      intro x
      rw [hρ]
      exact hI.val.eval hI.closed hd he hSj hanc (ev_const hI.srel.globs σ.tmps) x
    have hunl : unl (listed.setIfInBounds rest.length true).toList ≤ fuel := by
      have := unl_set listed.toList rest.length hj4
      rw [Array.toList_setIfInBounds]
      omega
    unfold wpOpIn
    simp only [hro]
    refine astep_wp hfs hI.srel.heap hI.srel.globs hev hst fun v w' F' i' hgv => ?_
    refine ih _ (fun k => k == rest.length || S k) F' i' _ w' (by simpa using hsz) hunl (fun k => ?_) (fun k hk => ?_) (fun k hk => ?_) ?_
    · rw [getD_set hj3, hl]
      cases (k == rest.length) <;> cases (k == q) <;> simp
    · simp only [Bool.or_eq_true, beq_iff_eq] at hk
      rcases hk with rfl | hk
      · exact hjp
      · exact hS k hk
    · simp only [hbits k hk, Bool.or_true]
    · have le : Env.le ⟨F, w.heap, i, H1.n⟩ ⟨F', w'.heap, i', H1.n⟩ := hgv.ext.le (Nat.le_refl _) hgv.le
      refine ⟨hI.closed.more hanc, ?_, (hI.val.mono le).put hI.closed hw hd he hSj hgv.val, hI.ext.trans hgv.ext hI.le, hI.le⟩
      have hs2 := hI.srel.step hgv r.o.dst
      refine { hs2 with tmps := ⟨?_, fun t x u hx hu => ?_⟩ }
      · have := hs2.tmps.1
        rw [aput_length, hidT_length] at this
        rw [hidT_length]; exact this
      · rcases hidT_get hx with ⟨_, rfl⟩ | ⟨hn, hTx⟩
        · exact .top _
        · have htl : t < T.length := (List.getElem?_eq_some_iff.1 hTx).1
          by_cases hdt : r.o.dst = some t
          · have hxy := hT pre r rest t x he hnb hdt hTx
            subst hxy
            refine hs2.tmps.2 t r.y u ?_ hu
            rw [hdt]
            simp only [aput]
            rw [List.getElem?_set, if_pos rfl, if_pos (by rw [hidT_length]; exact htl)]
          · refine hs2.tmps.2 t x u ?_ hu
            have hno : ¬ LateT R S t := by
              rintro ⟨pre', r', rest', he', hs', hd'⟩
              refine hn ⟨pre', r', rest', he', ?_, hd'⟩
              have hne : rest'.length ≠ rest.length := fun hc => by
                have := (recs_inj he' he hc).1
                subst this; exact hdt hd'
              show (rest'.length == rest.length || S rest'.length) = false
              rw [hs', beq_eq_false_iff_ne.2 hne]; rfl
            have hh : (hidT (LateT R S) T)[t]? = some x := by
              unfold hidT
              rw [List.getElem?_mapIdx, hTx]
              simp [hno]
            cases hd2 : r.o.dst with
            | none => exact hh
            | some d =>
              simp only [aput]
              rw [List.getElem?_set, if_neg (by rintro rfl; exact hdt hd2)]
              exact hh


/-- What is seen of the operation that stands behind the first part but for late values. -/
def lateCond (P : Program) (Mf : List Nat) (os : List Oper) (q : Nat) (o : Oper) : Bool :=
  (match o.dst with | none => lateOk P (Mf.getD q 0) ((os.take q).map (·.dst)) (os.take q) 0 | some _ => false) && awriters (Mf.take q) ((os.take q).map (·.dst)) ((os.take q).map (·.dst)) 0 && Nat.blt q (asplit Mf 0 0)

/-- A region that draws, whose last operation without all before it is written down behind the first part. -/
def adrawL (chk : Chk) (P : Program) (Γ : Globs) (fs : Fns) (ops : Array Oper) (σ : St) : Option St :=
  match amasks ops.toList 0 [] with
  | some Mf =>
    let q := asplit Mf 0 0 - 1
    let dsts := (ops.toList.take q).map (·.dst)
    match ops.toList[q]? with
    | some o => match lateCond P Mf ops.toList q o with
      | true => match arecC chk P Γ fs ops (Mf.take q) dsts σ (ops.toList.take q) 0 [] with
        | some acc => match astep P fs ops (arho Γ (Mf.take (q + 1)) dsts (alay acc (aputs σ.tmps acc) (atop σ.H acc)).1 [] q) (alay acc (aputs σ.tmps acc) (atop σ.H acc)).2 o with
          | some (_, H') => aops P Γ fs ops (ops.toList.drop (q + 1)) { σ with tmps := (alay acc (aputs σ.tmps acc) (atop σ.H acc)).1, H := H' }
          | none => none
        | none => none
      | false => none
    | none => none
  | none => none

theorem pure_quiet {o : Oper} (h : pureOp o.op = true) : quietAt P o = true ∧ (∀ t, o.op ≠ .alloc t) := by
  unfold pureOp at h
  unfold quietAt
  split at h
  all_goals first
    | (rename_i heq; rw [heq]; exact ⟨rfl, fun t ht => by cases ht⟩)
    | (rename_i heq; rw [heq]; split at h <;> first | exact ⟨rfl, fun t ht => by cases ht⟩ | cases h)
    | cases h

theorem adrawL_ok (hk : ChkOk P fs ops chk) (hfs : FnsOk P Γ fs) {σ' : St} (h : adrawL chk P Γ fs ops σ = some σ') : DrawOk P Γ ops σ σ' := by
  unfold adrawL at h
  split at h
  case h_2 => cases h
  rename_i Mf hMf
  simp only at h
  split at h
  case h_2 => cases h
  rename_i oq hoq
  split at h
  case h_2 => cases h
  rename_i hcond
  split at h
  case h_2 => cases h
  rename_i R hR
  split at h
  case h_2 => cases h
  rename_i yq Hq hstq
  obtain ⟨m1, _, m3⟩ := amasks_spec _ _ _ _ hMf rfl
  have hm : ∀ j o, ops[j]? = some o → MaskAt Mf j o := fun j o ho => by
    have := m3 j o (by simpa using ho)
    rwa [Nat.zero_add] at this
  obtain ⟨p1, p2, p3⟩ := asplit_spec Mf 0 0 (Nat.le_refl _)
  have hmlen : Mf.length = ops.size := by simpa using m1
  simp only [lateCond, Bool.and_eq_true] at hcond
  obtain ⟨⟨hc1, hw⟩, hc3⟩ := hcond
  rw [Nat.blt_eq] at hc3
  generalize hqq : asplit Mf 0 0 - 1 = q at *
  have hps : asplit Mf 0 0 = q + 1 := by omega
  have hqn : q < ops.size := by omega
  have hdst : oq.dst = none := by
    cases hd : oq.dst with
    | none => rfl
    | some d => rw [hd] at hc1; cases hc1
  rw [hdst] at hc1
  simp only at hc1
  have hoq' : ops[q]? = some oq := by simpa using hoq
  have hfull : ∀ j, q < j → j < ops.size → Mf.getD j 0 = 2 ^ j - 1 := by
    intro j hj hjn
    have := p3 j Mf[j] (List.getElem?_eq_getElem (by omega)) (by omega)
    rw [List.getD_eq_getElem?_getD, List.getElem?_eq_getElem (by omega : j < Mf.length)]
    simpa using this
  have hMs : ∀ j, j < q → (Mf.take q).getD j 0 = Mf.getD j 0 := by
    intro j hj
    rw [List.getD_eq_getElem?_getD, List.getD_eq_getElem?_getD, List.getElem?_take, if_pos hj]
  obtain ⟨g1, g2⟩ := arec_good (ops.toList.take q) [] R hR trivial (fun t o ht => by
    rw [List.getElem?_take] at ht
    split at ht
    · simpa using ht
    · cases ht)
  have hlen : R.length = q := by
    rw [g2]
    have : ops.toList.length = ops.size := by simp
    simp only [List.length_nil, List.length_take]; omega
  have hd : DstsOk ((ops.toList.take q).map (·.dst)) R := by
    intro pre r rest he
    have ho := (good_at pre g1 he).1
    have hlt : rest.length < q := by rw [← hlen, he]; simp; omega
    rw [List.getElem?_map, List.getElem?_take, if_pos hlt, Array.getElem?_toList, ho]
    rfl
  have hadds := arec_adds _ _ _ _ hR (fun r hr => by cases hr)
  have hal : ∀ pre' r' rest', R = pre' ++ r' :: rest' → r'.fl.isSome = true → aalone r'.o.dst rest'.length ((ops.toList.take q).map (·.dst)) 0 = true := by
    intro pre' r' rest' he hf
    obtain ⟨_, h⟩ := good_at pre' g1 he
    cases hfl : r'.fl with
    | none => rw [hfl] at hf; cases hf
    | some z => simp only [hfl] at h; exact h.2.2.2
  have hlt : ∀ {pre : List Rec} {r : Rec} {rest : List Rec}, R = pre ++ r :: rest → rest.length < q := fun he => by rw [← hlen, he]; simp; omega
  have hlo : ∀ pre r rest, R = pre ++ r :: rest → (Mf.getD q 0).testBit rest.length = false → pureOp r.o.op = true ∧ aalone r.o.dst rest.length ((ops.toList.take q).map (·.dst)) 0 = true := by
    intro pre r rest he hb
    have ho := (good_at pre g1 he).1
    have := lateOk_spec _ _ hc1 rest.length r.o (by rw [List.getElem?_take, if_pos (hlt he), Array.getElem?_toList, ho])
    rw [Nat.zero_add, hb] at this
    rcases this with h | ⟨h1, _, h3⟩
    · cases h
    · exact ⟨h1, h3⟩
  have hlates : Lates Mf R q := by
    refine ⟨fun pre r rest he hb => ?_, fun pre r rest he hb t ht pre' r' rest' he' ht' => ?_⟩
    · obtain ⟨h1, h2⟩ := hlo pre r rest he hb
      refine ⟨h1, ?_, ?_⟩
      · cases ha : r.add with
        | false => rfl
        | true => have h5 := (pure_quiet (P := P) h1).1; rw [hadds r (by rw [he]; simp) ha] at h5; cases h5
      · cases hf : r.fl with
        | none => rfl
        | some z =>
          have hgr := (good_at pre g1 he).2
          simp only [hf] at hgr
          obtain ⟨t, ht, _⟩ := float_spec hgr.2.2.1
          exact absurd ht ((pure_quiet (P := P) h1).2 t)
    · obtain ⟨h1, h2⟩ := hlo pre r rest he hb
      rw [ht] at h2
      have h3 := hd _ _ _ he'
      rw [ht'] at h3
      have := aalone_spec _ _ h2 _ h3
      omega
  have hfloatS : ∀ {S : Nat → Bool}, (∀ k, (Mf.getD q 0).testBit k = true → S k = true) → ∀ pre r rest, R = pre ++ r :: rest → r.fl.isSome = true ∨ r.add = true → S rest.length = true := by
    intro S hS pre r rest he hf
    cases hb : (Mf.getD q 0).testBit rest.length with
    | true => exact hS _ hb
    | false =>
      obtain ⟨h1, h2, h3⟩ := hlates.pure pre r rest he hb
      rw [h2, h3] at hf
      rcases hf with hf | hf <;> cases hf
  have hdne : ∀ pre r rest t, R = pre ++ r :: rest → (Mf.getD q 0).testBit rest.length = false → r.o.dst = some t → ∀ r' ∈ R, r'.fl.isSome = true → r'.o.dst ≠ some t := by
    intro pre r rest t he hb ht r' hr' hf ht'
    obtain ⟨p', s', e'⟩ := List.append_of_mem hr'
    have := hlates.alone pre r rest he hb t ht p' r' s' e' ht'
    have := (recs_inj e' he this).1
    subst this
    rw [(hlates.pure pre r' rest he hb).2.2] at hf; cases hf
  have hT : ∀ pre r rest t x, R = pre ++ r :: rest → (Mf.getD q 0).testBit rest.length = false → r.o.dst = some t → (alay R (aputs σ.tmps R) (atop σ.H R)).1[t]? = some x → x = r.y := by
    intro pre r rest t x he hb ht hx
    rw [alay_get R _ _ (hdne pre r rest t he hb ht)] at hx
    have hl : alast t R = some r.y := by
      rw [he]
      refine alast_alone ht pre fun r' hr' ht' => ?_
      obtain ⟨p', s', e'⟩ := List.append_of_mem hr'
      have := hlates.alone pre r rest he hb t ht p' r' (s' ++ r :: rest) (by rw [he, e']; simp) ht'
      simp at this; omega
    rcases aputs_get σ.tmps R hx with h1 | ⟨h1, _⟩
    · rw [hl] at h1; simpa using h1.symm
    · rw [hl] at h1; cases h1
  refine ⟨fun hok => ?_, fun ro F G i a w Q hs hQ => ?_⟩
  · have t1 := good_grow hfs hok R g1
    have t2 := alay_grow (T := aputs σ.tmps R) t1.ok R
    have t3 := astep_grow hfs (t1.trans t2).ok hstq
    exact ((t1.trans t2).trans t3).trans (aops_grow hfs _ _ _ t3.ok h).1
  · have hS : ∀ k, (Array.replicate ops.size false).getD k false = false := by
      intro k
      rw [Array.getD_eq_getD_getElem?, Array.getElem?_replicate]
      split <;> rfl
    have hN : ∀ {C : Prop} k, (fun k => (Array.replicate ops.size false).getD k false) k = true → C := fun k h => by
      have h2 : (Array.replicate ops.size false).getD k false = true := h
      rw [hS] at h2; cases h2
    have hun : unl (Array.replicate ops.size false).toList ≤ ops.size := by
      have := List.countP_le_length (p := (· == false)) (l := (Array.replicate ops.size false).toList)
      simp only [Array.length_toList, Array.size_replicate] at this
      exact this
    have hc : curH σ.H (fun k => (Array.replicate ops.size false).getD k false) R = σ.H := curH_none hS R
    have hcl : ∀ (listed : Array Bool) (F1 : Nat → Prop) (pend i1 : Nat → Nat) (a1 : Act) (w1 : World), InvA Γ (Mf.take q) σ R F F1 G i w (fun k => listed.getD k false) pend i1 a1 w1 → listed.getD q false = false := by
      intro listed F1 pend i1 a1 w1 hI
      cases hc : listed.getD q false with
      | false => rfl
      | true => have := hI.inA q hc; omega
    have stepQ : ∀ (fuel : Nat) (listed : Array Bool) (F1 : Nat → Prop) (pend i1 : Nat → Nat) (a1 : Act) (w1 : World), listed.size = ops.size → unl listed.toList ≤ fuel + 1 → InvA Γ (Mf.take q) σ R F F1 G i w (fun k => listed.getD k false) pend i1 a1 w1 →
        (∀ k, (Mf.getD q 0).testBit k = true → listed.getD k false = true) → wpOpIn (W ro) 0 P ops Q q (wpAnyIn (W ro) 0 P .any ops Q fuel (listed.setIfInBounds q true)) a1 w1 := by
      intro fuel listed F1 pend i1 a1 w1 hsz hun1 hI hbits
      have hlq := hcl _ _ _ _ _ _ hI
      have hq2 : q < listed.size := by omega
      have hlq2 : listed.toList[q]? = some false := by
        rw [Array.getD_eq_getD_getElem?, Array.getElem?_eq_getElem hq2] at hlq
        rw [Array.getElem?_toList, Array.getElem?_eq_getElem hq2]; simpa using hlq
      have hSR := hfloatS (S := fun k => listed.getD k false) hbits
      have hcur : curH σ.H (fun k => listed.getD k false) R = atop σ.H R := curH_all R fun pre r rest he ha => hSR pre r rest he (.inr ha)
      have hpe : (fun b => G b ∨ Pend R (fun k => listed.getD k false) pend b) = (fun b => G b ∨ PendUp R pend 0 b) := by
        funext b
        refine propext (or_congr Iff.rfl ⟨?_, ?_⟩)
        · rintro ⟨p1, r1, s1, h1, h2, h3, h4⟩; exact ⟨p1, r1, s1, h1, h2, Nat.zero_le _, h4⟩
        · rintro ⟨p1, r1, s1, h1, h2, h3, h4⟩; exact ⟨p1, r1, s1, h1, h2, hSR _ _ _ h1 (.inl h2), h4⟩
      have hH := hI.heap
      rw [hpe, hcur] at hH
      have hp' : PendOk G R (fun _ => true) pend a1 w1 :=
        ⟨fun pre r rest z he hf _ => hI.pend.obj pre r rest z he hf (hSR _ _ _ he (.inl (by rw [hf]; rfl))),
         fun pre r rest he hf _ => hI.pend.tmp pre r rest he hf (hSR _ _ _ he (.inl hf)),
         fun pre r rest pre' r' rest' he he' hf hf' _ _ => hI.pend.inj pre r rest pre' r' rest' he he' hf hf' (hSR _ _ _ he (.inl hf)) (hSR _ _ _ he' (.inl hf')),
         fun pre r rest he hf _ => hI.pend.out pre r rest he hf (hSR _ _ _ he (.inl hf))⟩
      have hVT : VRels ⟨F1, w1.heap, i1, (atop σ.H R).n⟩ (hidT (LateT R (fun k => listed.getD k false)) (aputs σ.tmps R)) a1.tmps.toList := by
        refine ⟨by rw [hidT_length, aputs_length]; simpa using hI.val.1.symm, fun t x v hx hv => ?_⟩
        rcases hidT_get hx with ⟨_, rfl⟩ | ⟨hn, hx⟩
        · exact .top _
        have hv' := hI.val.2 t v (by simpa using hv)
        rw [lookS_all R fun pre r rest he hrd => Classical.byContradiction fun hc => hn ⟨pre, r, rest, he, Bool.eq_false_iff.2 hc, hrd⟩, hcur] at hv'
        rcases aputs_get σ.tmps R hx with h | ⟨h, h2⟩
        · rw [h] at hv'; exact hv'
        · rw [h] at hv'; exact hv' x h2
      obtain ⟨i2, k1, k2, k3, k4⟩ := lay_ok hp' (fun _ _ => rfl) hH hVT R [] rfl
      have hG : (fun b => G b ∨ PendUp R pend R.length b) = G := by
        funext b
        refine propext ⟨?_, .inl⟩
        rintro (h | ⟨p1, r1, s1, h1, h2, h3, h4⟩)
        · exact h
        · have : s1.length < R.length := by rw [h1]; simp; omega
          omega
      rw [hG] at k1
      have hle := hI.le
      rw [hcur] at hle
      have hsw := fun t => alay_swap (t := t) (T := hidT (LateT R (fun k => listed.getD k false)) (aputs σ.tmps R)) (T' := aputs σ.tmps R) (H := atop σ.H R) hidT_length R
      rw [(hsw 0).1] at k1 k2 k4
      generalize hHL : (alay R (aputs σ.tmps R) (atop σ.H R)).2 = HL at *
      have hext : Ext σ.H.n F G i w F1 i2 w1 := { hI.ext with same := fun r hr => (k3 r (by omega)).trans (hI.ext.same r hr) }
      have hglobs := hI.globs
      rw [hcur] at hglobs
      have le : Env.le ⟨F1, w1.heap, i1, (atop σ.H R).n⟩ ⟨F1, w1.heap, i2, HL.n⟩ :=
        ⟨fun _ h => h, fun _ _ => rfl, k4, k3, fun _ c e z h => ⟨c, e, z, h, Nat.le_refl _⟩⟩
      have hval := hI.val
      rw [hcur] at hval
      have hval := hval.mono le
      have hs1 : SRel Γ F1 G i2 { σ with tmps := hidT (LateT R (fun k => listed.getD k false)) (alay R (aputs σ.tmps R) (atop σ.H R)).1, H := HL } a1 w1 := by
        refine ⟨⟨?_, fun t x v hx hv => ?_⟩, ?_, fun r hr => Nat.lt_of_lt_of_le (hs.dlt r hr) (Nat.le_trans hle k4), k1, hglobs.mono le⟩
        · rw [hidT_length, alay_len]
          have := k2.1
          rw [alay_len, hidT_length] at this
          exact this
        · rcases hidT_get hx with ⟨_, rfl⟩ | ⟨hn, hx⟩
          · exact .top _
          refine k2.2 t x v ?_ hv
          rw [(hsw t).2 ?_]
          · exact hx
          · unfold hidT
            rw [List.getElem?_mapIdx]
            cases (aputs σ.tmps R)[t]? with
            | none => rfl
            | some x => exact congrArg some (if_neg hn)
        · rw [hI.defers]
          refine List.map_congr_left fun r hr => ?_
          unfold mark
          rw [hext.same r (hs.dlt r hr)]
      have hev : ∀ x, VRel ⟨F1, w1.heap, i2, HL.n⟩ (arho Γ (Mf.take (q + 1)) ((ops.toList.take q).map (·.dst)) (alay R (aputs σ.tmps R) (atop σ.H R)).1 [] q x) (a1.eval x) := by
        intro x
        cases x with
        | tmp t =>
          simp only [arho, Act.eval, alast]
          cases hr : areads (Mf.take (q + 1)) t q ((ops.toList.take q).map (·.dst)) 0 with
          | false => simp only [Bool.false_eq_true, if_false]; exact .top _
          | true =>
            simp only [if_true]
            cases ht : (alay R (aputs σ.tmps R) (atop σ.H R)).1[t]? with
            | none => exact .top _
            | some x0 =>
              have hn : ¬ LateT R (fun k => listed.getD k false) t := by
                rintro ⟨pre, r, rest, he, hS2, hrd⟩
                have h1 := hd _ _ _ he
                rw [hrd] at h1
                have h2 := areads_spec _ _ hr _ h1
                rw [Nat.zero_add] at h2
                have h3 := acomp_lt h2 (hlt he)
                rw [List.getD_eq_getElem?_getD, List.getElem?_take, if_pos (by omega), ← List.getD_eq_getElem?_getD] at h3
                have h4 := hbits _ h3
                have hS3 : listed.getD rest.length false = false := hS2
                rw [hS3] at h4; cases h4
              have htl : (hidT (LateT R (fun k => listed.getD k false)) (alay R (aputs σ.tmps R) (atop σ.H R)).1).length = a1.tmps.toList.length := hs1.tmps.1
              rw [hidT_length] at htl
              have hlt2 : t < a1.tmps.size := by
                have := (List.getElem?_eq_some_iff.1 ht).1
                rw [htl, Array.length_toList] at this
                exact this
              have hv : a1.tmps[t]? = some a1.tmps[t] := Array.getElem?_eq_getElem hlt2
              have hd2 : a1.tmps.getD t undef = a1.tmps[t] := by rw [Array.getD_eq_getD_getElem?, hv]; rfl
              rw [hd2]
              refine hs1.tmps.2 t x0 _ ?_ (by rw [Array.getElem?_toList]; exact hv)
              show (hidT _ _)[t]? = some x0
              unfold hidT
              rw [List.getElem?_mapIdx, ht]
              exact congrArg some (if_neg hn)
        | const v => exact ev_const hs1.globs σ.tmps (.const v) (fun t h => by cases h)
        | global g => exact ev_const hs1.globs σ.tmps (.global g) (fun t h => by cases h)
        | func f => exact ev_const hs1.globs σ.tmps (.func f) (fun t h => by cases h)
      have hunl : unl (listed.setIfInBounds q true).toList ≤ fuel := by
        have := unl_set listed.toList q hlq2
        rw [Array.toList_setIfInBounds]
        omega
      unfold wpOpIn
      simp only [hoq']
      refine astep_wp hfs hs1.heap hs1.globs hev hstq fun v w' F' i' hgv => ?_
      have le2 : Env.le ⟨F1, w1.heap, i2, HL.n⟩ ⟨F', w'.heap, i', Hq.n⟩ := hgv.ext.le (Nat.le_refl _) hgv.le
      have hs2 := hs1.step hgv oq.dst
      rw [hdst] at hs2 ⊢
      refine drawL hfs hm hqn hfull hMs g1 hlen hd hw hlates hT hs.dlt h hQ fuel (listed.setIfInBounds q true) (fun k => listed.getD k false) F' i' _ w' (by simpa using hsz) hunl (fun k => getD_set hq2) (fun k hk => by rw [← hlen]; exact hI.inA k hk) hbits ?_
      exact ⟨hI.closed, hs2, hval.mono le2, hext.trans hgv.ext (Nat.le_trans hle k4), Nat.le_trans (Nat.le_trans hle k4) hgv.le⟩
    have hback : Backward ops := fun j o ho => (hm j o ho).1
    refine drawG (G := G) (F0 := F) (i0 := i) (w0 := w) hk hfs hm (p := q) (by omega) hMs g1 hlen hd hw ?_ ?_ ops.size _ F (fun _ => 0) i a w (by simp) hun ?_
    · intro fuel listed F1 pend i1 a1 w1 hsz hun1 hI hall
      have hlq := hcl _ _ _ _ _ _ hI
      have hq2 : q < listed.size := by omega
      have hlq2 : listed.toList[q]? = some false ∧ listed.getD q true = false := by
        rw [Array.getD_eq_getD_getElem?, Array.getElem?_eq_getElem hq2] at hlq
        rw [Array.getElem?_toList, Array.getD_eq_getD_getElem?, Array.getElem?_eq_getElem hq2]
        have : listed[q] = false := by simpa using hlq
        rw [this]; exact ⟨rfl, rfl⟩
      have hpos := unl_pos listed.toList q hlq2.1
      obtain ⟨fuel, rfl⟩ : ∃ f, fuel = f + 1 := ⟨fuel - 1, by omega⟩
      obtain ⟨j0, hj0⟩ := exists_ready hback hsz q hqn hlq2.2
      refine ⟨fun h0 => (by rw [h0] at hj0; cases hj0), fun j hj => ?_⟩
      obtain ⟨hj1, oj, hoj, hdirect⟩ := mem_ready.1 hj
      obtain ⟨hj2, hj3, hj4⟩ := getD_false_true hj1
      have hjge : q ≤ j := by
        rcases Nat.lt_or_ge j q with h | h
        · rw [hall j h] at hj2; cases hj2
        · exact h
      have hjq : j = q := by
        rcases Nat.lt_or_ge q j with h | h
        · exfalso
          have hb : (Mf.getD j 0).testBit q = true := by
            rw [hfull j h (by omega), Nat.testBit_two_pow_sub_one]; simpa using h
          obtain ⟨e, he, hbi, hx⟩ := ((hm j oj hoj).2 q).1 hb
          have hel := hdirect e he hbi
          have hlt3 := hI.inA _ hel
          rcases hx with hx | hx
          · rw [← hx] at hel; rw [hlq] at hel; cases hel
          · have := anc_lt hm e.on q (by omega) hx
            omega
        · omega
      subst hjq
      exact stepQ fuel listed F1 pend i1 a1 w1 hsz hun1 hI (fun k hk => hall k (anc_lt hm j k hqn hk))
    · intro fuel listed F1 pend i1 a1 w1 hsz hun1 hI j hj hqj hanc
      have hlq := hcl _ _ _ _ _ _ hI
      have hjn : j < ops.size := by
        have := (getD_false_true (mem_ready.1 hj).1).2.1
        omega
      have hjq : j = q := by
        rcases Nat.lt_or_ge q j with h | h
        · exfalso
          have := hanc q (by rw [hfull j h hjn, Nat.testBit_two_pow_sub_one]; simpa using h)
          rw [hlq] at this; cases this
        · omega
      subst hjq
      exact stepQ fuel listed F1 pend i1 a1 w1 hsz hun1 hI hanc
    refine ⟨⟨fun j k hj _ => ?_⟩, fun k hk => ?_, ?_, ?_, hs.defers, ?_, Ext.refl _ _ _ _ _, ?_, ⟨?_, ?_, ?_, ?_⟩⟩
    · exact hN _ hj
    · exact hN _ hk
    · rw [hc]
      have hG : (fun b => G b ∨ Pend R (fun k => (Array.replicate ops.size false).getD k false) (fun _ => 0) b) = G := by
        funext b
        refine propext ⟨?_, .inl⟩
        rintro (h | ⟨_, _, _, _, _, h, _⟩)
        · exact h
        · exact hN _ h
      rw [hG]; exact hs.heap
    · rw [hc]
      refine ⟨by have := hs.tmps.1; simpa using this.symm, fun t v hv => ?_⟩
      rw [lookS_none hS]
      exact fun x hx => hs.tmps.2 t x v hx (by simpa using hv)
    · rw [hc]; exact hs.globs
    · rw [hc]; exact Nat.le_refl _
    · intro _ _ _ _ _ _ h; exact hN _ h
    · intro _ _ _ _ _ h; exact hN _ h
    · intro _ _ _ _ _ _ _ _ _ _ h; exact hN _ h
    · intro _ _ _ _ _ h; exact hN _ h

def storeOp : Op → Bool
  | .store .. => true
  | _ => false

/-- The last operation without all before it writes the new variable that is laid ahead just before it. -/
def lateQ (P : Program) (ops : Array Oper) : Bool :=
  match amasks ops.toList 0 [] with
  | some Mf => match ops.toList[asplit Mf 0 0 - 1]?, ops.toList[asplit Mf 0 0 - 2]? with
    | some o, some o' => Nat.blt 1 (asplit Mf 0 0) && storeOp o.op && (match o.dst with | none => true | some _ => false) &&
      (match afloat P (Mf.take (asplit Mf 0 0 - 1)) (asplit Mf 0 0 - 2) o' with | some _ => true | none => false) && (Mf.getD (asplit Mf 0 0 - 1) 0).testBit (asplit Mf 0 0 - 2) &&
      lateOk P (Mf.getD (asplit Mf 0 0 - 1) 0) ((ops.toList.take (asplit Mf 0 0 - 1)).map (·.dst)) (ops.toList.take (asplit Mf 0 0 - 1)) 0
    | _, _ => false
  | none => false

def adrawN (chk : Chk) (P : Program) (Γ : Globs) (fs : Fns) (ops : Array Oper) (σ : St) : Option St :=
  match lateQ P ops with
  | true => adrawL chk P Γ fs ops σ
  | false => adrawC chk P Γ fs ops σ

theorem adrawN_ok (hk : ChkOk P fs ops chk) (hfs : FnsOk P Γ fs) {σ' : St} (h : adrawN chk P Γ fs ops σ = some σ') : DrawOk P Γ ops σ σ' := by
  unfold adrawN at h
  split at h
  · exact adrawL_ok hk hfs h
  · exact adrawC_ok hk hfs h

end
end Go.Abs
end

section
/- From the abstract run to what is asked of a call. -/
set_option linter.unusedSimpArgs false
set_option linter.unusedVariables false
namespace Go.Abs
open Go.RowKit
variable {P : Program} {Γ : Globs} {g : FuncId} {args : List AV} {y : AV} {H' : Heap}

/-- All the memory that is there, to be kept. -/
def Old (w : World) (b : Nat) : Prop := b < w.heap.size

theorem hrel_start (w : World) : HRel (Old w) (fun _ => False) id Heap.empty w.heap := by
  refine ⟨fun r row h => ?_, fun r row h => ?_, fun r r' a b h => ?_, fun b hb => ?_, fun b _ hg => hg, rfl⟩
  · rw [Heap.get_empty] at h; cases h
  · rw [Heap.get_empty] at h; cases h
  · rw [Heap.get_empty] at h; cases h
  · rcases hb with hb | hb
    · exact hb
    · exact hb.elim

/-- A call on the empty heap, from any world: what it returns, and that nothing that was there has changed. -/
theorem CallOk.calls (h : CallOk P (fun _ => none) g args Heap.empty y H') {w : World} {args' : Array Value} (hA : VRels ⟨Old w, w.heap, id, 0⟩ args args'.toList) :
    Calls P g args' w fun e w' => ∃ v F' i', e = .returned v ∧ VRel ⟨F', w'.heap, i', H'.n⟩ y v ∧ Ext 0 (Old w) (fun _ => False) id w F' i' w' := by
  have := (h.does (Old w) (fun _ => False) id w args' (hrel_start w) ⟨fun g cells e => by cases e⟩ hA).calls (fun k d hd => by cases hd)
  refine this.mono fun e w' he => ?_
  cases e with
  | returned v => obtain ⟨F', i', hgv⟩ := he; exact ⟨v, F', i', rfl, hgv.val, hgv.ext⟩
  | panicked c => exact he.elim
  | outgrown => exact he.elim

/-- A law: the call returns true and writes nothing that was there. -/
theorem CallOk.law (h : CallOk P (fun _ => none) g args Heap.empty (.bool true) H') {w : World} {args' : Array Value} (hA : VRels ⟨Old w, w.heap, id, 0⟩ args args'.toList) :
    Calls P g args' w fun e w' => e = .returned (.bool true) ∧ Below w.heap.size w w' := by
  refine (h.calls hA).mono fun e w' ⟨v, F', i', he, hv, hx⟩ => ?_
  cases hv
  exact ⟨he, hx.os, hx.tape, hx.output, hx.size, fun k hk => hx.keep k (.inl hk)⟩


end Go.Abs
end

section
/- Arguments opened: what reads as data is held by an abstract value made of lists. -/
set_option linter.unusedSimpArgs false
set_option linter.unusedVariables false
namespace Go.Abs
open Go.Deep Go.RowKit

/-- The shape of one cell. -/
inductive Sh where
  | bool
  | int (k : IntKind)
  | flo (k : FloatKind)
  | str
  | sl (es : List Sh)

def shSegs (P : Program) (sh : TypeId → Option (List Sh)) : Nat → List (Nat × TypeId) → Option (List Sh)
  | _, [] => some []
  | off, (o, t) :: fs => match sh t with
    | some es => if o = off ∧ P.cellsOf t = es.length then match shSegs P sh (off + es.length) fs with
        | some r => some (es ++ r)
        | none => none
      else none
    | none => none

/-- The shapes of a type's cells. -/
def shOf (P : Program) : Nat → TypeId → Option (List Sh)
  | 0, _ => none
  | d + 1, t => match P.underlying t with
    | some .bool => some [.bool]
    | some (.int k) => some [.int k]
    | some (.float k) => some [.flo k]
    | some .string => some [.str]
    | some (.slice e) => match shOf P d e with
      | some es => if P.cellsOf e = es.length then some [.sl es] else none
      | none => none
    | some (.struct fs) => match shSegs P (shOf P d) 0 (fs.toList.map fun f => (f.offset, f.type)) with
      | some ss => if P.cellsOf t = ss.length then some ss else none
      | none => none
    | some (.array n e) => match shSegs P (shOf P d) 0 ((List.range n).map fun i => (i * P.cellsOf e, e)) with
      | some ss => if P.cellsOf t = ss.length then some ss else none
      | none => none
    | _ => none

/-- A cell of this shape. -/
inductive ShR : Sh → AV → Prop
  | bool (b : Bool) : ShR .bool (.bool b)
  | int (k : IntKind) (z : Int) (h : (Lit.int k z).wf = true) : ShR (.int k) (.int k z)
  | flo (k : FloatKind) (o : Option Nat) (h : ∀ n, o = some n → (Lit.float k n).wf = true ∧ (k.format.read n).isNaN = false) : ShR (.flo k) (.flo k o)
  | str (s : ByteArray) (h : s.size ≤ maxLen) : ShR .str (.string s)
  | sl (es : List Sh) (n : Nat) (els : List (List AV)) (hn : n ≤ maxLen) (hl : els.length = n) (he : ∀ e ∈ els, e.length = es.length)
      (hv : ∀ e ∈ els, ∀ (j : Nat) (s : Sh) (x : AV), es[j]? = some s → e[j]? = some x → ShR s x) : ShR (.sl es) (.list n els.flatten)

def ShRs (ss : List Sh) (xs : List AV) : Prop := xs.length = ss.length ∧ ∀ (j : Nat) (s : Sh) (x : AV), ss[j]? = some s → xs[j]? = some x → ShR s x

theorem ShRs.nil : ShRs [] [] := ⟨rfl, fun j s x h => by simp at h⟩

theorem ShRs.one {s : Sh} {x : AV} (h : ShR s x) : ShRs [s] [x] := by
  refine ⟨rfl, fun j s' x' h1 h2 => ?_⟩
  cases j with
  | zero => simp at h1 h2; subst h1; subst h2; exact h
  | succ j => simp at h1

theorem ShRs.append {ss ss' : List Sh} {xs xs' : List AV} (h : ShRs ss xs) (k : ShRs ss' xs') : ShRs (ss ++ ss') (xs ++ xs') := by
  refine ⟨by simp [h.1, k.1], fun j s x h1 h2 => ?_⟩
  by_cases hj : j < ss.length
  · rw [List.getElem?_append_left hj] at h1
    rw [List.getElem?_append_left (by rw [h.1]; exact hj)] at h2
    exact h.2 j s x h1 h2
  · rw [List.getElem?_append_right (by omega)] at h1
    rw [List.getElem?_append_right (by rw [h.1]; omega), h.1] at h2
    exact k.2 _ s x h1 h2

theorem VRels.app {E : Env} {xs xs' : List AV} {vs vs' : List Value} (h : VRels E xs vs) (k : VRels E xs' vs') : VRels E (xs ++ xs') (vs ++ vs') := by
  refine ⟨by simp [h.1, k.1], fun j s x h1 h2 => ?_⟩
  by_cases hj : j < xs.length
  · rw [List.getElem?_append_left hj] at h1
    rw [List.getElem?_append_left (by rw [← h.1]; exact hj)] at h2
    exact h.2 j s x h1 h2
  · rw [List.getElem?_append_right (by omega)] at h1
    rw [List.getElem?_append_right (by rw [← h.1]; omega), ← h.1] at h2
    exact k.2 _ s x h1 h2

theorem VRels.of_one {E : Env} {x : AV} {v : Value} (h : VRel E x v) : VRels E [x] [v] := by
  refine ⟨rfl, fun j s' x' h1 h2 => ?_⟩
  cases j with
  | zero => simp at h1 h2; subst h1; subst h2; exact h
  | succ j => simp at h1

theorem flat_get {α : Type} {C : Nat} : ∀ {ls : List (List α)}, (∀ l ∈ ls, l.length = C) → ∀ {i r : Nat}, r < C → ls.flatten[i * C + r]? = (ls[i]?).bind (·[r]?)
  | [], _, i, r, hr => by simp
  | l :: ls, h, 0, r, hr => by
    have hl := h l List.mem_cons_self
    rw [List.flatten_cons, Nat.zero_mul, Nat.zero_add, List.getElem?_append_left (by omega)]
    simp
  | l :: ls, h, i + 1, r, hr => by
    have hl := h l List.mem_cons_self
    have e : (i + 1) * C + r = C + (i * C + r) := by rw [Nat.add_mul]; omega
    rw [List.flatten_cons, e, List.getElem?_append_right (by omega), hl, Nat.add_sub_cancel_left, flat_get (fun l hl => h l (List.mem_cons_of_mem _ hl)) hr]
    simp

theorem flat_len {α : Type} {C : Nat} : ∀ {ls : List (List α)}, (∀ l ∈ ls, l.length = C) → ls.flatten.length = ls.length * C
  | [], _ => by simp
  | l :: ls, h => by
    rw [List.flatten_cons, List.length_append, h l List.mem_cons_self, flat_len (fun l hl => h l (List.mem_cons_of_mem _ hl)), List.length_cons, Nat.add_mul]; omega

theorem cell_at {w : World} {a : Addr} {v : Value} (h : w.cell? a = some v) : ∃ c e z, w.heap[a.block]? = some (.cells c e z) ∧ c[a.off]? = some v := by
  unfold World.cell? at h
  split at h
  · rename_i c e z hc
    split at h
    · cases h
    · exact ⟨c, e, z, hc, h⟩
  · cases h

section
variable {H : Type} {enc : TypeId × Value → H} {P : Program} {w : World} {base : Nat} {spare : Nat → Bool} {held : Bool}

def OpenAt (enc : TypeId × Value → H) (P : Program) (w : World) (base : Nat) (spare : Nat → Bool) (held : Bool) (d : Nat) : Prop :=
  ∀ (fuel : Nat) (t : TypeId) (ss : List Sh) (cs : List Value) (x : DataW H × List MemPlace), shOf P d t = some ss → DataW.trod enc P w base spare held fuel t cs = some x →
    ∃ xs : List AV, ShRs ss xs ∧ VRels ⟨Old w, w.heap, id, 0⟩ xs cs

theorem open_segs {d : Nat} (ih : OpenAt enc P w base spare held d) {cs : List Value} : ∀ {fs : List (Nat × TypeId)} {off : Nat} {ss : List Sh}, shSegs P (shOf P d) off fs = some ss →
    (∀ f ∈ fs, ∃ fuel y, DataW.trod enc P w base spare held fuel f.2 ((cs.drop f.1).take (P.cellsOf f.2)) = some y) →
    ∃ xs : List AV, ShRs ss xs ∧ VRels ⟨Old w, w.heap, id, 0⟩ xs ((cs.drop off).take ss.length)
  | [], off, ss, h, _ => by
    simp only [shSegs, Option.some.injEq] at h
    subst h
    exact ⟨[], ShRs.nil, by simpa using VRels.nil⟩
  | (o, t) :: fs, off, ss, h, hf => by
    simp only [shSegs] at h
    split at h
    · rename_i es hes
      split at h
      · rename_i hc
        obtain ⟨rfl, hc⟩ := hc
        split at h
        · rename_i r hr
          simp only [Option.some.injEq] at h
          subst h
          obtain ⟨fuel, y, hy⟩ := hf _ List.mem_cons_self
          obtain ⟨xs, h1, h2⟩ := ih fuel t es _ y hes hy
          obtain ⟨xs', h3, h4⟩ := open_segs ih hr fun f hf' => hf f (List.mem_cons_of_mem _ hf')
          refine ⟨xs ++ xs', h1.append h3, ?_⟩
          rw [List.length_append, List.take_add, List.drop_drop]
          simp only [hc] at h2
          exact h2.app h4
        · cases h
      · cases h
    · cases h

theorem open_cells : ∀ d, OpenAt enc P w base spare held d
  | 0 => fun fuel t ss cs x h => by simp [shOf] at h
  | d + 1 => fun fuel t ss cs x h hx => by
    have ih : OpenAt enc P w base spare held d := open_cells d
    simp only [shOf] at h
    split at h
    · rename_i ht
      simp only [Option.some.injEq] at h; subst h
      obtain ⟨b, rfl, _⟩ := DataW.trod_bool ht hx
      exact ⟨[.bool b], .one (.bool b), .of_one (.bool b)⟩
    · rename_i k ht
      simp only [Option.some.injEq] at h; subst h
      obtain ⟨z, rfl, _, hw⟩ := DataW.trod_int ht hx
      exact ⟨[.int k z], .one (.int k z hw), .of_one (.int k z)⟩
    · rename_i k ht
      simp only [Option.some.injEq] at h; subst h
      obtain ⟨b, rfl, hw⟩ : ∃ b, cs = [.float k b] ∧ (Lit.float k b).wf = true := by
        cases fuel with
        | zero => simp [DataW.trod] at hx
        | succ n =>
          unfold DataW.trod at hx
          rw [ht] at hx
          split at hx <;> simp_all
      by_cases hn : (k.format.read b).isNaN = true
      · exact ⟨[.flo k none], .one (.flo k none fun n h => by cases h), .of_one (.nan k b hn)⟩
      · exact ⟨[.flo k (some b)], .one (.flo k (some b) fun n h => by cases h; exact ⟨hw, by simpa using hn⟩), .of_one (.float k b)⟩
    · rename_i ht
      simp only [Option.some.injEq] at h; subst h
      obtain ⟨s, rfl, _, hw⟩ := DataW.trod_string ht hx
      exact ⟨[.string s], .one (.str s hw), .of_one (.string s)⟩
    · rename_i e ht
      split at h
      · rename_i es hes
        split at h
        · rename_i hc
          simp only [Option.some.injEq] at h; subst h
          rcases open_slice ht hx with ⟨rfl, _⟩ | ⟨a, len, cap, m, n, D, Pl, rfl, hb, hl, hm, hmm, _, hi⟩
          · refine ⟨[.list 0 []], .one ?_, .of_one (.listNil 0 0 none (Nat.le_refl _))⟩
            exact .sl es 0 [] (Nat.zero_le _) rfl (fun e h => by simp at h) (fun e h => by simp at h)
          · have hle : len ≤ m := by rw [hmm]; split <;> omega
            rw [hc] at hi
            obtain ⟨V, hV⟩ := choose_lt (α := List Value) (p := fun i v => w.cells? base (a.add (i * es.length)) es.length = some v ∧ DataW.trod enc P w base spare held n e v = some (D i, Pl i)) (n := len) (fun i h => hi i (by omega))
            obtain ⟨X, hX⟩ := choose_lt (α := List AV) (p := fun i xs => ShRs es xs ∧ VRels ⟨Old w, w.heap, id, 0⟩ xs (V i)) (n := len) (fun i h => ih n e es _ _ hes (hV i h).2)
            have hXl : ∀ l ∈ (List.range len).map X, l.length = es.length := by
              intro l hl'
              obtain ⟨i, hi', rfl⟩ := List.mem_map.1 hl'
              exact (hX i (List.mem_range.1 hi')).1.1
            have hVl : ∀ l ∈ (List.range len).map V, l.length = es.length := by
              intro l hl'
              obtain ⟨i, hi', rfl⟩ := List.mem_map.1 hl'
              rw [← (hX i (List.mem_range.1 hi')).2.1]; exact (hX i (List.mem_range.1 hi')).1.1
            have hsl : ShR (.sl es) (.list len ((List.range len).map X).flatten) := by
              refine .sl es len _ (Nat.le_trans hl hm) (by simp) hXl fun l hl' j s x => ?_
              obtain ⟨i, hi', rfl⟩ := List.mem_map.1 hl'
              exact (hX i (List.mem_range.1 hi')).1.2 j s x
            refine ⟨[.list len ((List.range len).map X).flatten], .one hsl, .of_one ?_⟩
            by_cases h0 : len * es.length = 0
            · have : ((List.range len).map X).flatten = [] := List.eq_nil_of_length_eq_zero (by rw [flat_len hXl]; simpa using h0)
              rw [this]
              exact .listNil len cap (some a) hl
            · have hlen0 : 0 < len := Nat.pos_of_ne_zero fun h => h0 (by rw [h, Nat.zero_mul])
              have hes0 : 0 < es.length := Nat.pos_of_ne_zero fun h => h0 (by rw [h, Nat.mul_zero])
              have hcell : ∀ i r, i < len → r < es.length → w.cell? (a.add (i * es.length + r)) = (V i)[r]? := by
                intro i r hi' hr
                obtain ⟨_, _, hcl⟩ := World.cells?_some (hV i hi').1
                have := hcl r hr
                rw [add_add] at this
                exact this
              have hVlen : ∀ i, i < len → (V i).length = es.length := fun i h => hVl _ (List.mem_map.2 ⟨i, List.mem_range.2 h, rfl⟩)
              obtain ⟨b, off, spot⟩ := a
              have hfirst := hcell 0 0 hlen0 hes0
              rw [List.getElem?_eq_getElem (by rw [hVlen 0 hlen0]; exact hes0)] at hfirst
              have hspot : spot = none := by simpa [Addr.add] using World.cell?_spot hfirst
              subst hspot
              obtain ⟨c, el, z, hblk, _⟩ := cell_at hfirst
              have hblk' : w.heap[b]? = some (.cells c el z) := by simpa [Addr.add] using hblk
              have hat : ∀ j v, ((List.range len).map V).flatten[j]? = some v → c[off + j]? = some v := by
                intro j v hj
                have hjl := (List.getElem?_eq_some_iff.1 hj).1
                rw [flat_len hVl, List.length_map, List.length_range] at hjl
                have e1 : j = (j / es.length) * es.length + j % es.length := by rw [Nat.mul_comm]; exact (Nat.div_add_mod j es.length).symm
                have hi' : j / es.length < len := Nat.div_lt_of_lt_mul (by rw [Nat.mul_comm]; exact hjl)
                have hr := Nat.mod_lt j hes0
                rw [e1, flat_get hVl hr] at hj
                simp only [List.getElem?_map, List.getElem?_range hi', Option.map_some, Option.bind_some] at hj
                have h1 := hcell _ _ hi' hr
                rw [hj, ← e1] at h1
                obtain ⟨c', el', z', hb', hc'⟩ := cell_at h1
                have ea : (Addr.add ⟨b, off, none⟩ j).block = b ∧ (Addr.add ⟨b, off, none⟩ j).off = off + j := by
                  by_cases h : j = 0 <;> simp [Addr.add, h]
                rw [ea.1, hblk'] at hb'
                cases hb'
                rw [ea.2] at hc'
                exact hc'
              have hflat : ((List.range len).map X).flatten.length = ((List.range len).map V).flatten.length := by rw [flat_len hXl, flat_len hVl]; simp
              refine .list len cap _ b off ((List.range len).map V).flatten hl ?_ ⟨c, el, z, hblk', ?_, hat⟩ hflat fun j x v h1 h2 => ?_
              · exact (Array.getElem?_eq_some_iff.1 hblk').1
              · have hlast : ∃ v, ((List.range len).map V).flatten[((List.range len).map V).flatten.length - 1]? = some v := by
                  refine ⟨_, List.getElem?_eq_getElem ?_⟩
                  rw [flat_len hVl, List.length_map, List.length_range]; omega
                obtain ⟨v, hv⟩ := hlast
                have := (Array.getElem?_eq_some_iff.1 (hat _ _ hv)).1
                have hpos : 0 < ((List.range len).map V).flatten.length := by rw [flat_len hVl, List.length_map, List.length_range]; omega
                omega
              · have hjl := (List.getElem?_eq_some_iff.1 h1).1
                rw [flat_len hXl, List.length_map, List.length_range] at hjl
                have e1 : j = (j / es.length) * es.length + j % es.length := by rw [Nat.mul_comm]; exact (Nat.div_add_mod j es.length).symm
                have hi' : j / es.length < len := Nat.div_lt_of_lt_mul (by rw [Nat.mul_comm]; exact hjl)
                have hr := Nat.mod_lt j hes0
                rw [e1, flat_get hXl hr] at h1
                rw [e1, flat_get hVl hr] at h2
                simp only [List.getElem?_map, List.getElem?_range hi', Option.map_some, Option.bind_some] at h1 h2
                exact (hX _ hi').2.2 _ x v h1 h2
        · cases h
      · cases h
    · rename_i fs ht
      split at h
      · rename_i ss' hss
        split at h
        · rename_i hc
          simp only [Option.some.injEq] at h; subst h
          obtain ⟨ys, n, _, _, hl, hyl, hf⟩ := DataW.trod_struct ht hx
          obtain ⟨xs, h1, h2⟩ := open_segs ih hss (cs := cs) fun f hf' => by
            obtain ⟨g, hg, rfl⟩ := List.mem_map.1 hf'
            obtain ⟨i, hi⟩ := List.getElem?_of_mem hg
            have hi2 : fs[i]? = some g := by simpa using hi
            have hlt : i < fs.size := (Array.getElem?_eq_some_iff.1 hi2).1
            exact ⟨n, ys[i]'(by omega), by rw [hf i g hi2]; exact List.getElem?_eq_getElem _⟩
          refine ⟨xs, h1, ?_⟩
          rw [List.drop_zero, ← hc, ← hl, List.take_length] at h2
          exact h2
        · cases h
      · cases h
    · rename_i n e ht
      split at h
      · rename_i ss' hss
        split at h
        · rename_i hc
          simp only [Option.some.injEq] at h; subst h
          obtain ⟨ys, m, _, _, hl, hyl, hf⟩ := DataW.trod_array ht hx
          obtain ⟨xs, h1, h2⟩ := open_segs ih hss (cs := cs) fun f hf' => by
            obtain ⟨i, hg, rfl⟩ := List.mem_map.1 hf'
            have hi := List.mem_range.1 hg
            exact ⟨m, ys[i]'(by omega), by rw [hf i hi]; exact List.getElem?_eq_getElem _⟩
          refine ⟨xs, h1, ?_⟩
          rw [List.drop_zero, ← hc, ← hl, List.take_length] at h2
          exact h2
        · cases h
      · cases h
    · cases h

end

end Go.Abs
end

