/- Part 3 of the library that the proof of the statement uses: an abstract run of the program, proved right, and what its functions give. -/
import Derived.Test.YtkloadomnblkeaaGreatDoorCv2
import Derived.Below
import Derived.Deep.Slices
import Derived.OpenShut
set_option linter.unusedVariables false
set_option linter.unusedSimpArgs false

section
/- The functions of a program, run with temporaries in a tree. -/
set_option linter.unusedSimpArgs false
set_option linter.unusedVariables false
namespace Go.Abs

variable {P : Program} {Γ : Globs} {fs : Fns} {ops : Array Oper} {σ σ' : StT} {τ : St} {e : Exit} {lf : Nat} {ro : Option Nat}

theorem ajump_same {j : Option Code} {τ τ' : St} (h : ajump j τ = some (e, τ')) : τ' = τ := by
  unfold ajump at h
  split at h <;> first
    | (cases h; done)
    | (simp only [Option.some.injEq, Prod.mk.injEq] at h; exact h.2.symm)

theorem arange_tmps {g : Operand} {ps : Array Tmp} {as bd : Code} {τ' : St} (h : arange Γ fs ro g ps as bd τ = some (e, τ')) : τ'.tmps = τ.tmps := by
  unfold arange at h
  split at h
  · split at h
    · split at h
      · split at h
        · split at h
          · cases h
          · split at h
            · have := ajump_same h; rw [this]
            · cases h
        · cases h
      · cases h
    · cases h
  · cases h

theorem acodeT_ok : ∀ (c : Code) (σ : StT) (τ : St) (e : Exit) (σ' : StT), TRel σ τ → (acodeT P Γ lf ro c).run fs σ = some (e, σ') → ∃ τ', TRel σ' τ' ∧ acode P Γ fs (fun ops => adraw P Γ fs ops) lf ro c τ = some (e, τ') := by
  intro c
  induction c with
  | skip => intro σ τ e σ' h hr; simp only [acodeT, Option.some.injEq, Prod.mk.injEq] at hr; obtain ⟨rfl, rfl⟩ := hr; exact ⟨τ, h, rfl⟩
  | label l => intro σ τ e σ' h hr; simp only [acodeT, Option.some.injEq, Prod.mk.injEq] at hr; obtain ⟨rfl, rfl⟩ := hr; exact ⟨τ, h, rfl⟩
  | exit id => intro σ τ e σ' h hr; simp only [acodeT, Option.some.injEq, Prod.mk.injEq] at hr; obtain ⟨rfl, rfl⟩ := hr; exact ⟨τ, h, rfl⟩
  | goto l => intro σ τ e σ' h hr; simp only [acodeT, Option.some.injEq, Prod.mk.injEq] at hr; obtain ⟨rfl, rfl⟩ := hr; exact ⟨τ, h, rfl⟩
  | ret => intro σ τ e σ' h hr; simp only [acodeT, Option.some.injEq, Prod.mk.injEq] at hr; obtain ⟨rfl, rfl⟩ := hr; exact ⟨τ, h, rfl⟩
  | refuse s => intro σ τ e σ' h hr; simp [acodeT] at hr
  | scope b ih =>
    intro σ τ e σ' h hr
    simp only [acodeT] at hr
    split at hr
    · cases hr
    · rename_i hne
      obtain ⟨τ1, r1, g1⟩ := ih _ _ _ _ h hr
      refine ⟨τ1, r1, ?_⟩
      simp only [acode, g1]
      cases e <;> first | rfl | exact absurd hr (hne _ _)
  | region id ops d =>
    intro σ τ e σ' h hr
    cases d with
    | true =>
      simp only [acodeT] at hr
      split at hr
      · rename_i σ1 h1
        simp only [Option.some.injEq, Prod.mk.injEq] at hr; obtain ⟨rfl, rfl⟩ := hr
        obtain ⟨τ1, r1, g1⟩ := adrawT_ok h h1
        exact ⟨τ1, r1, by simp only [acode, g1]⟩
      · cases hr
    | false =>
      simp only [acodeT] at hr
      split at hr
      · rename_i σ1 h1
        simp only [Option.some.injEq, Prod.mk.injEq] at hr; obtain ⟨rfl, rfl⟩ := hr
        obtain ⟨τ1, r1, g1⟩ := aopsT_ok _ _ _ _ h h1
        exact ⟨τ1, r1, by simp only [acode, g1]⟩
      · cases hr
  | seq x y ihx ihy =>
    intro σ τ e σ' h hr
    simp only [acodeT] at hr
    split at hr
    · rename_i σ1 h1
      obtain ⟨τ1, r1, g1⟩ := ihx _ _ _ _ h h1
      obtain ⟨τ2, r2, g2⟩ := ihy _ _ _ _ r1 hr
      exact ⟨τ2, r2, by simp only [acode, g1, g2]⟩
    · rename_i hne
      obtain ⟨τ1, r1, g1⟩ := ihx _ _ _ _ h hr
      refine ⟨τ1, r1, ?_⟩
      simp only [acode, g1]
      cases e <;> first | exact absurd hr (hne _) | rfl
  | cond c x y ihx ihy =>
    intro σ τ e σ' h hr
    simp only [acodeT, evT_eq h.t] at hr
    split at hr
    · rename_i hc
      obtain ⟨τ1, r1, g1⟩ := ihx _ _ _ _ h hr
      exact ⟨τ1, r1, by simp only [acode, hc, g1]⟩
    · rename_i hc
      obtain ⟨τ1, r1, g1⟩ := ihy _ _ _ _ h hr
      exact ⟨τ1, r1, by simp only [acode, hc, g1]⟩
    · cases hr
  | block id x ih =>
    intro σ τ e σ' h hr
    simp only [acodeT] at hr
    split at hr
    · rename_i k σ1 h1
      obtain ⟨τ1, r1, g1⟩ := ih _ _ _ _ h h1
      split at hr
      · rename_i hk
        simp only [Option.some.injEq, Prod.mk.injEq] at hr; obtain ⟨rfl, rfl⟩ := hr
        exact ⟨τ1, r1, by simp only [acode, g1]; rw [if_pos hk]⟩
      · rename_i hk
        simp only [Option.some.injEq, Prod.mk.injEq] at hr; obtain ⟨rfl, rfl⟩ := hr
        exact ⟨τ1, r1, by simp only [acode, g1]; rw [if_neg hk]⟩
    · rename_i hne
      obtain ⟨τ1, r1, g1⟩ := ih _ _ _ _ h hr
      refine ⟨τ1, r1, ?_⟩
      simp only [acode, g1]
      cases e <;> first | exact absurd hr (hne _ _) | rfl
  | loop x ih =>
    intro σ τ e σ' h hr
    exact aloopT_ok (fun σ τ e σ' h hr => ih σ τ e σ' h hr) lf σ τ e σ' h hr
  | rangeFunc g ps as bd _ _ =>
    intro σ τ e σ' h hr
    simp only [acodeT] at hr
    rw [h.down] at hr
    split at hr
    · rename_i e1 τ1 h1
      simp only [Option.some.injEq, Prod.mk.injEq] at hr; obtain ⟨rfl, rfl⟩ := hr
      have ht := arange_tmps h1
      exact ⟨τ1, ⟨by rw [ht]; exact h.n, by rw [ht]; exact h.t, rfl, rfl⟩, h1⟩
    · cases hr

noncomputable def targs : List AV → Nat → TT → TT
  | [], _, t => t
  | x :: xs, k, t => targs xs (k + 1) ((setT (some k)).run x t)

def largs : List AV → Nat → List AV → List AV
  | [], _, l => l
  | x :: xs, k, l => largs xs (k + 1) (aput l (some k) x)

theorem targs_holds : ∀ (xs : List AV) (k : Nat) (t : TT) (l : List AV), Holds t l → Holds (targs xs k t) (largs xs k l) := by
  intro xs
  induction xs with
  | nil => intro k t l h; exact h
  | cons x xs ih => intro k t l h; exact ih (k + 1) _ _ (setT_holds h (some k) x)

theorem largs_eq (u : AV) (m : Nat) : ∀ (xs pre : List AV), largs xs pre.length (pre ++ List.replicate (xs.length + m) u) = pre ++ xs ++ List.replicate m u := by
  intro xs
  induction xs with
  | nil => intro pre; simp [largs]
  | cons x xs ih =>
    intro pre
    have e : aput (pre ++ List.replicate ((x :: xs).length + m) u) (some pre.length) x = (pre ++ [x]) ++ List.replicate (xs.length + m) u := by
      have : (x :: xs).length + m = (xs.length + m) + 1 := by simp; omega
      rw [this, List.replicate_succ]
      simp only [aput, List.set_append_right _ _ (Nat.le_refl _), Nat.sub_self, List.set_cons_zero, List.append_assoc, List.singleton_append]
    have h := ih (pre ++ [x])
    simp only [largs, e]
    simpa using h

noncomputable def acallT (P : Program) (Γ : Globs) (fs : Fns) (lf : Nat) (g : FuncId) (args : List AV) (H : Heap) : Option (AV × Heap) :=
  match P.funcs[g]? with
  | some fn => match fn.body with
    | some c => match Nat.blt (args.length + (fn.ntmps - args.length)) 65536 with
      | true => match (acodeT P Γ lf none c).run fs { t := targs args 0 (tfill (ofV undef) 16 (args.length + (fn.ntmps - args.length))), n := args.length + (fn.ntmps - args.length), H := H, d := [] } with
        | some (.normal, σ) => aleave P fn σ.down
        | some (.ret, σ) => aleave P fn σ.down
        | _ => none
      | false => none
    | none => none
  | none => none

theorem acallT_eq {g : FuncId} {args : List AV} {H : Heap} {r : AV × Heap} (h : acallT P Γ fs lf g args H = some r) : acall P (acode P Γ fs (fun ops => adraw P Γ fs ops) lf none) g args H = some r := by
  unfold acallT at h
  unfold acall
  split at h
  · rename_i fn hfn
    split at h
    · rename_i c hc
      split at h
      · rename_i hb
        have hlt := blt_lt hb
        try simp only [hfn, hc]
        have hh := targs_holds args 0 _ _ (holds_fill (ofV undef) (args.length + (fn.ntmps - args.length)) hlt)
        have hl := largs_eq (ofV undef) (fn.ntmps - args.length) args []
        simp only [List.nil_append, List.length_nil] at hl
        rw [hl] at hh
        have h0 : TRel { t := targs args 0 (tfill (ofV undef) 16 (args.length + (fn.ntmps - args.length))), n := args.length + (fn.ntmps - args.length), H := H, d := [] }
            { tmps := args ++ List.replicate (fn.ntmps - args.length) (ofV undef), H := H, defers := [] } := ⟨by simp, hh, rfl, rfl⟩
        split at h
        · rename_i σ hr
          obtain ⟨τ1, r1, g1⟩ := acodeT_ok c _ _ _ _ h0 hr
          simp only [g1]
          rw [r1.down] at h
          exact h
        · rename_i σ hr
          obtain ⟨τ1, r1, g1⟩ := acodeT_ok c _ _ _ _ h0 hr
          simp only [g1]
          rw [r1.down] at h
          exact h
        · cases h
      · cases h
    · cases h
  · cases h

/-- The functions of a program: with trees; calls that name no row on the empty heap, or looked up. -/
noncomputable def fnsT (P : Program) (Γ : Globs) (ext : FuncId → List AV → Option AV) (sel : FuncId → Nat) (T : Tab) (lf : Nat) : Nat → Fns
  | 0 => { call := fun _ _ _ => none, yield := fun _ _ _ => none, ext := ext }
  | k + 1 =>
    { call := callP (acallT P Γ (fnsT P Γ ext sel T lf k) lf) sel T,
      yield := ayield fun r c => (acodeS P Γ (fnsT P Γ ext sel T lf k) (adraw P Γ (fnsT P Γ ext sel T lf k)) lf (some r) c).run, ext := ext }

theorem acallT_ok (hm : P.follows .mixedOrders = true) (hnum : NoNum P) (hfs : FnsOk P Γ fs) {g : FuncId} {args : List AV} {H H' : Heap} {y : AV} (h : acallT P Γ fs lf g args H = some (y, H')) : CallOk P Γ g args H y H' :=
  acall_ok hnum (fun c σ e σ' h => acode_ok hm hfs (fun ops σ σ' h => adraw_ok hfs h) c σ e σ' h) (acallT_eq h)

theorem fnsT_ok (hm : P.follows .mixedOrders = true) (hnum : NoNum P) {ext : FuncId → List AV → Option AV} (hext : ExtOk P ext) (hΓ : PureGlobs Γ) {sel : FuncId → Nat} {T : Tab} (hT : TabOk P Γ T) {lf : Nat} :
    ∀ k, FnsOk P Γ (fnsT P Γ ext sel T lf k) := by
  intro k
  induction k with
  | zero => exact ⟨fun _ _ _ _ _ h => by simp [fnsT] at h, fun _ _ _ _ _ h => by simp [fnsT] at h, hext⟩
  | succ k ih =>
    refine ⟨fun g args H y H' h => callP_ok hΓ (fun g args H y H' h => acallT_ok hm hnum ih h) hT h, fun r args H y H' h => ?_, hext⟩
    have h' : ayield (fun r c => (acodeS P Γ (fnsT P Γ ext sel T lf k) (adraw P Γ (fnsT P Γ ext sel T lf k)) lf (some r) c).run) r args H = some (y, H') := h
    refine ayield_ok (fun r c σ e σ' h => ?_) h'
    rw [acodeS_run] at h
    exact acode_ok hm ih (fun ops σ σ' h => adraw_ok ih h) c σ e σ' h

end Go.Abs
end

section
/- From the abstract run to what is asked of a call. -/
set_option linter.unusedSimpArgs false
set_option linter.unusedVariables false
namespace Go.Abs
open Go.RowKit
variable {P : Program} {Γ : Globs} {g : FuncId} {args : List AV} {y : AV} {H' : Heap}

/-- All the memory that is there, to be kept. -/
def Old (w : World) (b : Nat) : Prop := b < w.heap.size

theorem hrel_start (w : World) : HRel (Old w) (fun _ => False) id Heap.empty w.heap := by
  refine ⟨fun r row h => ?_, fun r row h => ?_, fun r r' a b h => ?_, fun b hb => ?_, fun b _ hg => hg, rfl⟩
  · rw [Heap.get_empty] at h; cases h
  · rw [Heap.get_empty] at h; cases h
  · rw [Heap.get_empty] at h; cases h
  · rcases hb with hb | hb
    · exact hb
    · exact hb.elim

/-- A call on the empty heap, from any world: what it returns, and that nothing that was there has changed. -/
theorem CallOk.calls (h : CallOk P (fun _ => none) g args Heap.empty y H') {w : World} {args' : Array Value} (hA : VRels ⟨Old w, w.heap, id, 0⟩ args args'.toList) :
    Calls P g args' w fun e w' => ∃ v F' i', e = .returned v ∧ VRel ⟨F', w'.heap, i', H'.n⟩ y v ∧ Ext 0 (Old w) (fun _ => False) id w F' i' w' := by
  have := (h.does (Old w) (fun _ => False) id w args' (hrel_start w) ⟨fun g cells e => by cases e⟩ hA).calls (fun k d hd => by cases hd)
  refine this.mono fun e w' he => ?_
  cases e with
  | returned v => obtain ⟨F', i', hgv⟩ := he; exact ⟨v, F', i', rfl, hgv.val, hgv.ext⟩
  | panicked c => exact he.elim
  | outgrown => exact he.elim

/-- A law: the call returns true and writes nothing that was there. -/
theorem CallOk.law (h : CallOk P (fun _ => none) g args Heap.empty (.bool true) H') {w : World} {args' : Array Value} (hA : VRels ⟨Old w, w.heap, id, 0⟩ args args'.toList) :
    Calls P g args' w fun e w' => e = .returned (.bool true) ∧ Below w.heap.size w w' := by
  refine (h.calls hA).mono fun e w' ⟨v, F', i', he, hv, hx⟩ => ?_
  cases hv
  exact ⟨he, hx.os, hx.tape, hx.output, hx.size, fun k hk => hx.keep k (.inl hk)⟩


end Go.Abs
end

section
/- Arguments opened: what reads as data is held by an abstract value made of lists. -/
set_option linter.unusedSimpArgs false
set_option linter.unusedVariables false
namespace Go.Abs
open Go.Deep Go.RowKit

/-- The shape of one cell. -/
inductive Sh where
  | bool
  | int (k : IntKind)
  | flo (k : FloatKind)
  | str
  | sl (es : List Sh)

def shSegs (P : Program) (sh : TypeId → Option (List Sh)) : Nat → List (Nat × TypeId) → Option (List Sh)
  | _, [] => some []
  | off, (o, t) :: fs => match sh t with
    | some es => if o = off ∧ P.cellsOf t = es.length then match shSegs P sh (off + es.length) fs with
        | some r => some (es ++ r)
        | none => none
      else none
    | none => none

/-- The shapes of a type's cells. -/
def shOf (P : Program) : Nat → TypeId → Option (List Sh)
  | 0, _ => none
  | d + 1, t => match P.underlying t with
    | some .bool => some [.bool]
    | some (.int k) => some [.int k]
    | some (.float k) => some [.flo k]
    | some .string => some [.str]
    | some (.slice e) => match shOf P d e with
      | some es => if P.cellsOf e = es.length then some [.sl es] else none
      | none => none
    | some (.struct fs) => match shSegs P (shOf P d) 0 (fs.toList.map fun f => (f.offset, f.type)) with
      | some ss => if P.cellsOf t = ss.length then some ss else none
      | none => none
    | some (.array n e) => match shSegs P (shOf P d) 0 ((List.range n).map fun i => (i * P.cellsOf e, e)) with
      | some ss => if P.cellsOf t = ss.length then some ss else none
      | none => none
    | _ => none

/-- A cell of this shape. -/
inductive ShR : Sh → AV → Prop
  | bool (b : Bool) : ShR .bool (.bool b)
  | int (k : IntKind) (z : Int) (h : (Lit.int k z).wf = true) : ShR (.int k) (.int k z)
  | flo (k : FloatKind) (o : Option Nat) (h : ∀ n, o = some n → (Lit.float k n).wf = true ∧ (k.format.read n).isNaN = false) : ShR (.flo k) (.flo k o)
  | str (s : ByteArray) (h : s.size ≤ maxLen) : ShR .str (.string s)
  | sl (es : List Sh) (n : Nat) (els : List (List AV)) (hn : n ≤ maxLen) (hl : els.length = n) (he : ∀ e ∈ els, e.length = es.length)
      (hv : ∀ e ∈ els, ∀ (j : Nat) (s : Sh) (x : AV), es[j]? = some s → e[j]? = some x → ShR s x) : ShR (.sl es) (.list n els.flatten)

def ShRs (ss : List Sh) (xs : List AV) : Prop := xs.length = ss.length ∧ ∀ (j : Nat) (s : Sh) (x : AV), ss[j]? = some s → xs[j]? = some x → ShR s x

theorem ShRs.nil : ShRs [] [] := ⟨rfl, fun j s x h => by simp at h⟩

theorem ShRs.one {s : Sh} {x : AV} (h : ShR s x) : ShRs [s] [x] := by
  refine ⟨rfl, fun j s' x' h1 h2 => ?_⟩
  cases j with
  | zero => simp at h1 h2; subst h1; subst h2; exact h
  | succ j => simp at h1

theorem ShRs.append {ss ss' : List Sh} {xs xs' : List AV} (h : ShRs ss xs) (k : ShRs ss' xs') : ShRs (ss ++ ss') (xs ++ xs') := by
  refine ⟨by simp [h.1, k.1], fun j s x h1 h2 => ?_⟩
  by_cases hj : j < ss.length
  · rw [List.getElem?_append_left hj] at h1
    rw [List.getElem?_append_left (by rw [h.1]; exact hj)] at h2
    exact h.2 j s x h1 h2
  · rw [List.getElem?_append_right (by omega)] at h1
    rw [List.getElem?_append_right (by rw [h.1]; omega), h.1] at h2
    exact k.2 _ s x h1 h2

theorem VRels.app {E : Env} {xs xs' : List AV} {vs vs' : List Value} (h : VRels E xs vs) (k : VRels E xs' vs') : VRels E (xs ++ xs') (vs ++ vs') := by
  refine ⟨by simp [h.1, k.1], fun j s x h1 h2 => ?_⟩
  by_cases hj : j < xs.length
  · rw [List.getElem?_append_left hj] at h1
    rw [List.getElem?_append_left (by rw [← h.1]; exact hj)] at h2
    exact h.2 j s x h1 h2
  · rw [List.getElem?_append_right (by omega)] at h1
    rw [List.getElem?_append_right (by rw [← h.1]; omega), ← h.1] at h2
    exact k.2 _ s x h1 h2

theorem VRels.of_one {E : Env} {x : AV} {v : Value} (h : VRel E x v) : VRels E [x] [v] := by
  refine ⟨rfl, fun j s' x' h1 h2 => ?_⟩
  cases j with
  | zero => simp at h1 h2; subst h1; subst h2; exact h
  | succ j => simp at h1

theorem flat_get {α : Type} {C : Nat} : ∀ {ls : List (List α)}, (∀ l ∈ ls, l.length = C) → ∀ {i r : Nat}, r < C → ls.flatten[i * C + r]? = (ls[i]?).bind (·[r]?)
  | [], _, i, r, hr => by simp
  | l :: ls, h, 0, r, hr => by
    have hl := h l List.mem_cons_self
    rw [List.flatten_cons, Nat.zero_mul, Nat.zero_add, List.getElem?_append_left (by omega)]
    simp
  | l :: ls, h, i + 1, r, hr => by
    have hl := h l List.mem_cons_self
    have e : (i + 1) * C + r = C + (i * C + r) := by rw [Nat.add_mul]; omega
    rw [List.flatten_cons, e, List.getElem?_append_right (by omega), hl, Nat.add_sub_cancel_left, flat_get (fun l hl => h l (List.mem_cons_of_mem _ hl)) hr]
    simp

theorem flat_len {α : Type} {C : Nat} : ∀ {ls : List (List α)}, (∀ l ∈ ls, l.length = C) → ls.flatten.length = ls.length * C
  | [], _ => by simp
  | l :: ls, h => by
    rw [List.flatten_cons, List.length_append, h l List.mem_cons_self, flat_len (fun l hl => h l (List.mem_cons_of_mem _ hl)), List.length_cons, Nat.add_mul]; omega

theorem cell_at {w : World} {a : Addr} {v : Value} (h : w.cell? a = some v) : ∃ c e z, w.heap[a.block]? = some (.cells c e z) ∧ c[a.off]? = some v := by
  unfold World.cell? at h
  split at h
  · rename_i c e z hc
    split at h
    · cases h
    · exact ⟨c, e, z, hc, h⟩
  · cases h

section
variable {H : Type} {enc : TypeId × Value → H} {P : Program} {w : World} {base : Nat} {spare : Nat → Bool} {held : Bool}

def OpenAt (enc : TypeId × Value → H) (P : Program) (w : World) (base : Nat) (spare : Nat → Bool) (held : Bool) (d : Nat) : Prop :=
  ∀ (fuel : Nat) (t : TypeId) (ss : List Sh) (cs : List Value) (x : DataW H × List MemPlace), shOf P d t = some ss → DataW.trod enc P w base spare held fuel t cs = some x →
    ∃ xs : List AV, ShRs ss xs ∧ VRels ⟨Old w, w.heap, id, 0⟩ xs cs

theorem open_segs {d : Nat} (ih : OpenAt enc P w base spare held d) {cs : List Value} : ∀ {fs : List (Nat × TypeId)} {off : Nat} {ss : List Sh}, shSegs P (shOf P d) off fs = some ss →
    (∀ f ∈ fs, ∃ fuel y, DataW.trod enc P w base spare held fuel f.2 ((cs.drop f.1).take (P.cellsOf f.2)) = some y) →
    ∃ xs : List AV, ShRs ss xs ∧ VRels ⟨Old w, w.heap, id, 0⟩ xs ((cs.drop off).take ss.length)
  | [], off, ss, h, _ => by
    simp only [shSegs, Option.some.injEq] at h
    subst h
    exact ⟨[], ShRs.nil, by simpa using VRels.nil⟩
  | (o, t) :: fs, off, ss, h, hf => by
    simp only [shSegs] at h
    split at h
    · rename_i es hes
      split at h
      · rename_i hc
        obtain ⟨rfl, hc⟩ := hc
        split at h
        · rename_i r hr
          simp only [Option.some.injEq] at h
          subst h
          obtain ⟨fuel, y, hy⟩ := hf _ List.mem_cons_self
          obtain ⟨xs, h1, h2⟩ := ih fuel t es _ y hes hy
          obtain ⟨xs', h3, h4⟩ := open_segs ih hr fun f hf' => hf f (List.mem_cons_of_mem _ hf')
          refine ⟨xs ++ xs', h1.append h3, ?_⟩
          rw [List.length_append, List.take_add, List.drop_drop]
          simp only [hc] at h2
          exact h2.app h4
        · cases h
      · cases h
    · cases h

theorem open_cells : ∀ d, OpenAt enc P w base spare held d
  | 0 => fun fuel t ss cs x h => by simp [shOf] at h
  | d + 1 => fun fuel t ss cs x h hx => by
    have ih : OpenAt enc P w base spare held d := open_cells d
    simp only [shOf] at h
    split at h
    · rename_i ht
      simp only [Option.some.injEq] at h; subst h
      obtain ⟨b, rfl, _⟩ := DataW.trod_bool ht hx
      exact ⟨[.bool b], .one (.bool b), .of_one (.bool b)⟩
    · rename_i k ht
      simp only [Option.some.injEq] at h; subst h
      obtain ⟨z, rfl, _, hw⟩ := DataW.trod_int ht hx
      exact ⟨[.int k z], .one (.int k z hw), .of_one (.int k z)⟩
    · rename_i k ht
      simp only [Option.some.injEq] at h; subst h
      obtain ⟨b, rfl, hw⟩ : ∃ b, cs = [.float k b] ∧ (Lit.float k b).wf = true := by
        cases fuel with
        | zero => simp [DataW.trod] at hx
        | succ n =>
          unfold DataW.trod at hx
          rw [ht] at hx
          split at hx <;> simp_all
      by_cases hn : (k.format.read b).isNaN = true
      · exact ⟨[.flo k none], .one (.flo k none fun n h => by cases h), .of_one (.nan k b hn)⟩
      · exact ⟨[.flo k (some b)], .one (.flo k (some b) fun n h => by cases h; exact ⟨hw, by simpa using hn⟩), .of_one (.float k b)⟩
    · rename_i ht
      simp only [Option.some.injEq] at h; subst h
      obtain ⟨s, rfl, _, hw⟩ := DataW.trod_string ht hx
      exact ⟨[.string s], .one (.str s hw), .of_one (.string s)⟩
    · rename_i e ht
      split at h
      · rename_i es hes
        split at h
        · rename_i hc
          simp only [Option.some.injEq] at h; subst h
          rcases open_slice ht hx with ⟨rfl, _⟩ | ⟨a, len, cap, m, n, D, Pl, rfl, hb, hl, hm, hmm, _, hi⟩
          · refine ⟨[.list 0 []], .one ?_, .of_one (.listNil 0 0 none (Nat.le_refl _))⟩
            exact .sl es 0 [] (Nat.zero_le _) rfl (fun e h => by simp at h) (fun e h => by simp at h)
          · have hle : len ≤ m := by rw [hmm]; split <;> omega
            rw [hc] at hi
            obtain ⟨V, hV⟩ := choose_lt (α := List Value) (p := fun i v => w.cells? base (a.add (i * es.length)) es.length = some v ∧ DataW.trod enc P w base spare held n e v = some (D i, Pl i)) (n := len) (fun i h => hi i (by omega))
            obtain ⟨X, hX⟩ := choose_lt (α := List AV) (p := fun i xs => ShRs es xs ∧ VRels ⟨Old w, w.heap, id, 0⟩ xs (V i)) (n := len) (fun i h => ih n e es _ _ hes (hV i h).2)
            have hXl : ∀ l ∈ (List.range len).map X, l.length = es.length := by
              intro l hl'
              obtain ⟨i, hi', rfl⟩ := List.mem_map.1 hl'
              exact (hX i (List.mem_range.1 hi')).1.1
            have hVl : ∀ l ∈ (List.range len).map V, l.length = es.length := by
              intro l hl'
              obtain ⟨i, hi', rfl⟩ := List.mem_map.1 hl'
              rw [← (hX i (List.mem_range.1 hi')).2.1]; exact (hX i (List.mem_range.1 hi')).1.1
            have hsl : ShR (.sl es) (.list len ((List.range len).map X).flatten) := by
              refine .sl es len _ (Nat.le_trans hl hm) (by simp) hXl fun l hl' j s x => ?_
              obtain ⟨i, hi', rfl⟩ := List.mem_map.1 hl'
              exact (hX i (List.mem_range.1 hi')).1.2 j s x
            refine ⟨[.list len ((List.range len).map X).flatten], .one hsl, .of_one ?_⟩
            by_cases h0 : len * es.length = 0
            · have : ((List.range len).map X).flatten = [] := List.eq_nil_of_length_eq_zero (by rw [flat_len hXl]; simpa using h0)
              rw [this]
              exact .listNil len cap (some a) hl
            · have hlen0 : 0 < len := Nat.pos_of_ne_zero fun h => h0 (by rw [h, Nat.zero_mul])
              have hes0 : 0 < es.length := Nat.pos_of_ne_zero fun h => h0 (by rw [h, Nat.mul_zero])
              have hcell : ∀ i r, i < len → r < es.length → w.cell? (a.add (i * es.length + r)) = (V i)[r]? := by
                intro i r hi' hr
                obtain ⟨_, _, hcl⟩ := World.cells?_some (hV i hi').1
                have := hcl r hr
                rw [add_add] at this
                exact this
              have hVlen : ∀ i, i < len → (V i).length = es.length := fun i h => hVl _ (List.mem_map.2 ⟨i, List.mem_range.2 h, rfl⟩)
              obtain ⟨b, off, spot⟩ := a
              have hfirst := hcell 0 0 hlen0 hes0
              rw [List.getElem?_eq_getElem (by rw [hVlen 0 hlen0]; exact hes0)] at hfirst
              have hspot : spot = none := by simpa [Addr.add] using World.cell?_spot hfirst
              subst hspot
              obtain ⟨c, el, z, hblk, _⟩ := cell_at hfirst
              have hblk' : w.heap[b]? = some (.cells c el z) := by simpa [Addr.add] using hblk
              have hat : ∀ j v, ((List.range len).map V).flatten[j]? = some v → c[off + j]? = some v := by
                intro j v hj
                have hjl := (List.getElem?_eq_some_iff.1 hj).1
                rw [flat_len hVl, List.length_map, List.length_range] at hjl
                have e1 : j = (j / es.length) * es.length + j % es.length := by rw [Nat.mul_comm]; exact (Nat.div_add_mod j es.length).symm
                have hi' : j / es.length < len := Nat.div_lt_of_lt_mul (by rw [Nat.mul_comm]; exact hjl)
                have hr := Nat.mod_lt j hes0
                rw [e1, flat_get hVl hr] at hj
                simp only [List.getElem?_map, List.getElem?_range hi', Option.map_some, Option.bind_some] at hj
                have h1 := hcell _ _ hi' hr
                rw [hj, ← e1] at h1
                obtain ⟨c', el', z', hb', hc'⟩ := cell_at h1
                have ea : (Addr.add ⟨b, off, none⟩ j).block = b ∧ (Addr.add ⟨b, off, none⟩ j).off = off + j := by
                  by_cases h : j = 0 <;> simp [Addr.add, h]
                rw [ea.1, hblk'] at hb'
                cases hb'
                rw [ea.2] at hc'
                exact hc'
              have hflat : ((List.range len).map X).flatten.length = ((List.range len).map V).flatten.length := by rw [flat_len hXl, flat_len hVl]; simp
              refine .list len cap _ b off ((List.range len).map V).flatten hl ?_ ⟨c, el, z, hblk', ?_, hat⟩ hflat fun j x v h1 h2 => ?_
              · exact (Array.getElem?_eq_some_iff.1 hblk').1
              · have hlast : ∃ v, ((List.range len).map V).flatten[((List.range len).map V).flatten.length - 1]? = some v := by
                  refine ⟨_, List.getElem?_eq_getElem ?_⟩
                  rw [flat_len hVl, List.length_map, List.length_range]; omega
                obtain ⟨v, hv⟩ := hlast
                have := (Array.getElem?_eq_some_iff.1 (hat _ _ hv)).1
                have hpos : 0 < ((List.range len).map V).flatten.length := by rw [flat_len hVl, List.length_map, List.length_range]; omega
                omega
              · have hjl := (List.getElem?_eq_some_iff.1 h1).1
                rw [flat_len hXl, List.length_map, List.length_range] at hjl
                have e1 : j = (j / es.length) * es.length + j % es.length := by rw [Nat.mul_comm]; exact (Nat.div_add_mod j es.length).symm
                have hi' : j / es.length < len := Nat.div_lt_of_lt_mul (by rw [Nat.mul_comm]; exact hjl)
                have hr := Nat.mod_lt j hes0
                rw [e1, flat_get hXl hr] at h1
                rw [e1, flat_get hVl hr] at h2
                simp only [List.getElem?_map, List.getElem?_range hi', Option.map_some, Option.bind_some] at h1 h2
                exact (hX _ hi').2.2 _ x v h1 h2
        · cases h
      · cases h
    · rename_i fs ht
      split at h
      · rename_i ss' hss
        split at h
        · rename_i hc
          simp only [Option.some.injEq] at h; subst h
          obtain ⟨ys, n, _, _, hl, hyl, hf⟩ := DataW.trod_struct ht hx
          obtain ⟨xs, h1, h2⟩ := open_segs ih hss (cs := cs) fun f hf' => by
            obtain ⟨g, hg, rfl⟩ := List.mem_map.1 hf'
            obtain ⟨i, hi⟩ := List.getElem?_of_mem hg
            have hi2 : fs[i]? = some g := by simpa using hi
            have hlt : i < fs.size := (Array.getElem?_eq_some_iff.1 hi2).1
            exact ⟨n, ys[i]'(by omega), by rw [hf i g hi2]; exact List.getElem?_eq_getElem _⟩
          refine ⟨xs, h1, ?_⟩
          rw [List.drop_zero, ← hc, ← hl, List.take_length] at h2
          exact h2
        · cases h
      · cases h
    · rename_i n e ht
      split at h
      · rename_i ss' hss
        split at h
        · rename_i hc
          simp only [Option.some.injEq] at h; subst h
          obtain ⟨ys, m, _, _, hl, hyl, hf⟩ := DataW.trod_array ht hx
          obtain ⟨xs, h1, h2⟩ := open_segs ih hss (cs := cs) fun f hf' => by
            obtain ⟨i, hg, rfl⟩ := List.mem_map.1 hf'
            have hi := List.mem_range.1 hg
            exact ⟨m, ys[i]'(by omega), by rw [hf i hi]; exact List.getElem?_eq_getElem _⟩
          refine ⟨xs, h1, ?_⟩
          rw [List.drop_zero, ← hc, ← hl, List.take_length] at h2
          exact h2
        · cases h
      · cases h
    · cases h

/-- One argument of one cell. -/
theorem open_arg {d : Nat} {t : TypeId} {s : Sh} {v : Value} {y : DataW H} {ps : List MemPlace} (hs : shOf P d t = some [s]) (h : DataW.Trod enc P w base spare held t v y ps) (hv : v.cells.toList = [v]) :
    ∃ x : AV, ShR s x ∧ VRel ⟨Old w, w.heap, id, 0⟩ x v := by
  obtain ⟨fuel, hf⟩ := h
  rw [hv] at hf
  obtain ⟨xs, h1, h2⟩ := open_cells d fuel t [s] _ _ hs hf
  match xs, h1.1 with
  | [x], _ => exact ⟨x, h1.2 0 s x rfl rfl, h2.2 0 x v rfl rfl⟩
end

end Go.Abs
end

