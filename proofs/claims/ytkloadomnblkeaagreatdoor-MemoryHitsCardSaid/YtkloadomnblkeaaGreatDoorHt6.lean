/- Part 6 of the library of the proof: an abstract run of the program. -/
import Derived.Test.YtkloadomnblkeaaGreatDoorHt2
import Derived.Laws.Externs
set_option linter.unusedVariables false
set_option linter.unusedSimpArgs false

noncomputable section
namespace Go.Abs
def D8:List Func->Bool
 | []=>true
 | f :: fs => (f.body.isNone || f.name != "runtime.NumGoroutine") && D8 fs
theorem GA : ∀ (l : List Func), D8 l = true → ∀ (g : Nat) (fn : Func), l[g]? = some fn → fn.body.isSome = true → fn.name ≠ "runtime.NumGoroutine" := by
 intro l
 induction l with
 | nil=>intro _ g fn h;simp at h
 | cons f l ih=>
  intro h g fn hg hb
  simp only [D8,Bool.and_eq_true,Bool.or_eq_true,bne_iff_ne,ne_eq] at h
  cases g with
  | zero=>
   simp at hg;subst hg
   rcases h.1 with h1 | h1
   ·cases hc:f.body<;>simp_all
   ·exact h1
  | succ g=>exact ih h.2 g fn (by simpa using hg) hb
theorem ya {a b:Nat} (h:Nat.beq a b=true):a=b:=Nat.eq_of_beq_eq_true h
theorem zH {E:Env} (k:IntKind) (a b:Int):ao E (.tuple [.int k a,.int k b]) (.tuple #[.int k a,.int k b]):=by
 refine .tuple _ _ rfl fun j x v h1 h2=>?_
 match j with
 | 0=>simp at h1 h2;subst h1;subst h2;exact .int _ _
 | 1=>simp at h1 h2;subst h1;subst h2;exact .int _ _
 | j+2=>simp at h1
theorem VY {E:Env} {q r s:IntKind} {x y z:Int} {ai:Array Value} (h:ay E [.int q x,.int r y,.int s z] ai.toList):ai=#[.int q x,.int r y,.int s z]:=by
 obtain ⟨l⟩:=ai
 match l,h with
 | [a,b,c],h=>
  have h0:=h.2 0 _ _ rfl rfl
  have h1:=h.2 1 _ _ rfl rfl
  have h2:=h.2 2 _ _ rfl rfl
  cases h0;cases h1;cases h2;rfl
 | [],h=>exact absurd h.1 (by simp)
 | [_],h=>exact absurd h.1 (by simp)
 | [_,_],h=>exact absurd h.1 (by simp)
 | _::_::_::_::_,h=>exact absurd h.1 (by simp)
def fsA (P:Program) (ext:FuncId->List AV->Option AV) (ou:FuncId->Nat) (T:K_):fb:=D1 P (fun _=>none) ext ou T 4096 64
section
variable {P : Program} {ext : FuncId → List AV → Option AV}
theorem Xf (hm:P.follows .mixedOrders=true) (fK:ja P) (eT:ta P ext) {ou:FuncId->Nat} {T:K_} (hT:zf P (fun _=>none) T):eC P (fun _=>none) (fsA P ext ou T):=
 fnsT_ok hm fK eT (fun g cells h=>by cases h) hT 64
abbrev PN:=FuncId × List AV × AV
def GB (l:List PN):K_:=fun g=>l.filterMap fun e=>match Nat.beq e.1 g with
 | true=>some e.2
 | false=>none
def PO (P:Program) (ext:FuncId->List AV->Option AV) (ou:FuncId->Nat) (T:K_) (e:PN):Bool:=
 match zD P (fun _=>none) (fsA P ext ou T) 4096 e.1 e.2.1 af.empty with
 | some (y,_)=>gM 16 y e.2.2&&ot 8 e.2.2
 | none=>false
def u9 (P:Program) (ext:FuncId->List AV->Option AV) (ou:FuncId->Nat) (T:K_):List PN->Bool
 | []=>true
 | e::l=>PO P ext ou T e&&u9 P ext ou T l
def gu (P:Program) (l:List PN):Prop:=∀ e∈l,Pure e.2.2/\∃ H',CallOk P (fun _=>none) e.1 e.2.1 af.empty e.2.2 H'
theorem zI {l:List PN} (h:gu P l):zf P (fun _=>none) (GB l):=by
 intro g args y hm
 simp only [GB,List.mem_filterMap] at hm
 obtain ⟨⟨g',e⟩,he,hg⟩:=hm
 split at hg
 ·rename_i hb
  have:=ya hb
  simp only at this
  subst this
  simp only [Option.some.injEq] at hg
  subst hg
  exact h _ he
 ·cases hg
theorem Jf (hm:P.follows .mixedOrders=true) (fK:ja P) (eT:ta P ext) {ou:FuncId->Nat} {T:K_} (hT:zf P (fun _=>none) T) {e:PN} (h:PO P ext ou T e=true):Pure e.2.2/\∃ H',CallOk P (fun _=>none) e.1 e.2.1 af.empty e.2.2 H':=by
 unfold PO at h
 split at h
 ·rename_i y H' hc
  simp only [Bool.and_eq_true] at h
  have:=(yU 16).1 _ _ h.1
  subst this
  exact ⟨nd 8 _ h.2,H',CQ hm fK (Xf hm fK eT hT) hc⟩
 ·cases h
theorem oL (hm:P.follows .mixedOrders=true) (fK:ja P) (eT:ta P ext) {ou:FuncId->Nat} {T:K_} (hT:zf P (fun _=>none) T):∀ {l:List PN},u9 P ext ou T l=true->gu P l:=by
 intro l
 induction l with
 | nil=>intro _ e he;cases he
 | cons e l ih=>
  intro h e' gn
  simp only [u9,Bool.and_eq_true] at h
  rcases List.mem_cons.1 gn with rfl | gn
  ·exact Jf hm fK eT hT h.1
  ·exact ih h.2 e' gn
theorem gu.append {l m:List PN} (h:gu P l) (k:gu P m):gu P (l++m):=fun e he=>(List.mem_append.1 he).elim (h e) (k e)
theorem gu.nil:gu P []:=fun e he=>by cases he
theorem gu.call {l:List PN} (h:gu P l) {g:FuncId} {y:AV} (he:(g,[],y)∈l) (H:af):CallOk P (fun _=>none) g [] H y H:=by
 obtain ⟨h1,H',h2⟩:=h _ he
 exact h2.anywhere (fun g cells h=>by cases h) (fun x hx=>by cases hx) h1 H
end
def abU (m:Nat) (g:FuncId):Nat:=match Nat.testBit m g with
 | true=>1
 | false=>0
end Go.Abs
end
