/- Part 8 of the library of the proof: an abstract run of the program. -/
import Derived.Test.YtkloadomnblkeaaGreatDoorAp2
import Derived.Laws.Externs
set_option linter.unusedVariables false
set_option linter.unusedSimpArgs false

noncomputable section
namespace Go.Abs
def noNumB:List Func->Bool
 | []=>true
 | f :: fs => (f.body.isNone || f.name != "runtime.NumGoroutine") && noNumB fs
theorem noNumB_spec : ∀ (l : List Func), noNumB l = true → ∀ (g : Nat) (fn : Func), l[g]? = some fn → fn.body.isSome = true → fn.name ≠ "runtime.NumGoroutine" := by
 intro l
 induction l with
 | nil=>intro _ g fn h;simp at h
 | cons f l ih=>
  intro h g fn hg hb
  simp only [noNumB,Bool.and_eq_true,Bool.or_eq_true,bne_iff_ne,ne_eq] at h
  cases g with
  | zero=>
   simp at hg;subst hg
   rcases h.1 with h1 | h1
   ·cases hc:f.body<;>simp_all
   ·exact h1
  | succ g=>exact ih h.2 g fn (by simpa using hg) hb
theorem nat_beq {a b:Nat} (h:Nat.beq a b=true):a=b:=Nat.eq_of_beq_eq_true h
theorem tuple2_rel {E:Env} (k:IntKind) (a b:Int):VRel E (.tuple [.int k a,.int k b]) (.tuple #[.int k a,.int k b]):=by
 refine .tuple _ _ rfl fun j x v h1 h2=>?_
 match j with
 | 0=>simp at h1 h2;subst h1;subst h2;exact .int _ _
 | 1=>simp at h1 h2;subst h1;subst h2;exact .int _ _
 | j+2=>simp at h1
theorem ints3 {E:Env} {q r s:IntKind} {x y z:Int} {args':Array Value} (h:VRels E [.int q x,.int r y,.int s z] args'.toList):args'=#[.int q x,.int r y,.int s z]:=by
 obtain ⟨l⟩:=args'
 match l,h with
 | [a,b,c],h=>
  have h0:=h.2 0 _ _ rfl rfl
  have h1:=h.2 1 _ _ rfl rfl
  have h2:=h.2 2 _ _ rfl rfl
  cases h0;cases h1;cases h2;rfl
 | [],h=>exact absurd h.1 (by simp)
 | [_],h=>exact absurd h.1 (by simp)
 | [_,_],h=>exact absurd h.1 (by simp)
 | _::_::_::_::_,h=>exact absurd h.1 (by simp)
def fsA (P:Program) (ext:FuncId->List AV->Option AV) (sel:FuncId->Nat) (T:Tab):Fns:=fnsT P (fun _=>none) ext sel T 4096 64
section
variable {P : Program} {ext : FuncId → List AV → Option AV}
theorem fsA_ok (hm:P.follows .mixedOrders=true) (hnum:NoNum P) (hext:ExtOk P ext) {sel:FuncId->Nat} {T:Tab} (hT:TabOk P (fun _=>none) T):FnsOk P (fun _=>none) (fsA P ext sel T):=
 fnsT_ok hm hnum hext (fun g cells h=>by cases h) hT 64
abbrev AwE:=FuncId × List AV × AV
def tabOf (l:List AwE):Tab:=fun g=>l.filterMap fun e=>match Nat.beq e.1 g with
 | true=>some e.2
 | false=>none
def entOk (P:Program) (ext:FuncId->List AV->Option AV) (sel:FuncId->Nat) (T:Tab) (e:AwE):Bool:=
 match acallT P (fun _=>none) (fsA P ext sel T) 4096 e.1 e.2.1 Heap.empty with
 | some (y,_)=>asame 16 y e.2.2&&apure 8 e.2.2
 | none=>false
def entsOk (P:Program) (ext:FuncId->List AV->Option AV) (sel:FuncId->Nat) (T:Tab):List AwE->Bool
 | []=>true
 | e::l=>entOk P ext sel T e&&entsOk P ext sel T l
def EntsOk (P:Program) (l:List AwE):Prop:=∀ e∈l,Pure e.2.2/\∃ H',CallOk P (fun _=>none) e.1 e.2.1 Heap.empty e.2.2 H'
theorem tabOf_ok {l:List AwE} (h:EntsOk P l):TabOk P (fun _=>none) (tabOf l):=by
 intro g args y hm
 simp only [tabOf,List.mem_filterMap] at hm
 obtain ⟨⟨g',e⟩,he,hg⟩:=hm
 split at hg
 ·rename_i hb
  have:=nat_beq hb
  simp only at this
  subst this
  simp only [Option.some.injEq] at hg
  subst hg
  exact h _ he
 ·cases hg
theorem entOk_spec (hm:P.follows .mixedOrders=true) (hnum:NoNum P) (hext:ExtOk P ext) {sel:FuncId->Nat} {T:Tab} (hT:TabOk P (fun _=>none) T) {e:AwE} (h:entOk P ext sel T e=true):Pure e.2.2/\∃ H',CallOk P (fun _=>none) e.1 e.2.1 Heap.empty e.2.2 H':=by
 unfold entOk at h
 split at h
 ·rename_i y H' hc
  simp only [Bool.and_eq_true] at h
  have:=(asame_eq 16).1 _ _ h.1
  subst this
  exact ⟨apure_pure 8 _ h.2,H',acallT_ok hm hnum (fsA_ok hm hnum hext hT) hc⟩
 ·cases h
theorem entsOk_spec (hm:P.follows .mixedOrders=true) (hnum:NoNum P) (hext:ExtOk P ext) {sel:FuncId->Nat} {T:Tab} (hT:TabOk P (fun _=>none) T):∀ {l:List AwE},entsOk P ext sel T l=true->EntsOk P l:=by
 intro l
 induction l with
 | nil=>intro _ e he;cases he
 | cons e l ih=>
  intro h e' he'
  simp only [entsOk,Bool.and_eq_true] at h
  rcases List.mem_cons.1 he' with rfl | he'
  ·exact entOk_spec hm hnum hext hT h.1
  ·exact ih h.2 e' he'
theorem EntsOk.append {l m:List AwE} (h:EntsOk P l) (k:EntsOk P m):EntsOk P (l++m):=fun e he=>(List.mem_append.1 he).elim (h e) (k e)
theorem EntsOk.nil:EntsOk P []:=fun e he=>by cases he
theorem EntsOk.call {l:List AwE} (h:EntsOk P l) {g:FuncId} {y:AV} (he:(g,[],y)∈l) (H:Heap):CallOk P (fun _=>none) g [] H y H:=by
 obtain ⟨h1,H',h2⟩:=h _ he
 exact h2.anywhere (fun g cells h=>by cases h) (fun x hx=>by cases hx) h1 H
end
def selOf (m:Nat) (g:FuncId):Nat:=match Nat.testBit m g with
 | true=>1
 | false=>0
end Go.Abs
end
