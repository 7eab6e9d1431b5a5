/- Part 10 of the library of the proof: an abstract run of the program. -/
import Derived.Test.YtkloadomnblkeaaGreatDoorAp2
import Derived.Test.YtkloadomnblkeaaGreatDoorAp3
import Derived.Test.YtkloadomnblkeaaGreatDoorAp6
set_option linter.unusedVariables false
set_option linter.unusedSimpArgs false

noncomputable section
namespace Go.Abs
open Classical
theorem loopC_rule {A:Type} {F:A->A} {bot:A} (Q:Nat->A->Prop) (h:∀ k r,(∀ j,j<k->Q j r)->Q k (F r)):∀ N k,k<N->Q k (loopC N F bot)
 | 0,k,hk=>absurd hk (Nat.not_lt_zero k)
 | N+1,k,hk=>h k _ fun j hj=>loopC_rule Q h N j (by omega)
section
variable {R : Type} {x y : Option R}
theorem condO_dec {p:Prop} [Decidable p]:cO (decide p) x y=if p then x else y:=by
 by_cases h:p<;>simp [cO,h]
theorem condO_bne {α:Type} [DecidableEq α] {a b:α}:cO (a != b) x y=if a=b then y else x:=by
 by_cases h:a=b
 ·subst h;simp [cO,bne]
 ·rw [if_neg h];simp only [cO,bne,beq_eq_false_iff_ne.mpr h,Bool.not_false]
theorem condO_beq {α:Type} [DecidableEq α] {a b:α}:cO (a==b) x y=if a=b then x else y:=by
 by_cases h:a=b
 ·subst h;simp [cO]
 ·rw [if_neg h];simp only [cO,beq_eq_false_iff_ne.mpr h]
theorem condO_not {b:Bool}:cO (!b) x y=if b=true then y else x:=by cases b<;>rfl
theorem guardO_dec {p:Prop} [Decidable p]:gO (decide p) x=if p then x else none:=by
 by_cases h:p<;>simp [gO,h]
theorem bindO_ok {α:Type} {a:α} {f:α->Option R}:bO (some a) f=f a:=rfl
end
theorem wrap64 {z:Int} (h1:-9223372036854775808<=z) (h2:z<9223372036854775808):IntKind.i64.wrap z=z:=by
 simp [IntKind.wrap,IntKind.signed,IntKind.bits]
 omega
def toI:AV->Int
 | .int _ z=>z
 | _=>0
def intsOf (cs:List AV):List Int:=cs.map toI
def Ints (n:Nat) (cs:List AV):Prop:=n<9223372036854775808/\cs=(intsOf cs).map (AV.int .i64)/\cs.length=n
theorem Ints.get {n:Nat} {cs:List AV} (h:Ints n cs) {i:Nat} (hi:i<n):asInt .i64 (cs.getD i .top)=some ((intsOf cs).getD i 0):=by
 obtain ⟨h1,h2,h3⟩:=h
 rw [h2]
 have:i<(intsOf cs).length:=by simp [intsOf,h3,hi]
 simp [List.getD,this,asInt]
 simp [intsOf,List.getElem?_map]
 have h4:i<cs.length:=by omega
 simp [h4,toI]
theorem Ints.len {n:Nat} {cs:List AV} (h:Ints n cs):(intsOf cs).length=n:=by
 simp [intsOf,h.2.2]
theorem drop_cons {α:Type} {xs:List α} {i:Nat} {d:α} (h:i<xs.length):xs.drop i=xs.getD i d::xs.drop (i+1):=by
 rw [List.drop_eq_getElem_cons h];simp [List.getD,h]
def firstNZ:List Int->Int
 | []=>0
 | x::xs=>if x=0 then firstNZ xs else x
theorem idx64 {n i:Nat} (h:n<9223372036854775808) (hi:i<n):IntKind.i64.wrap ((i:Int)+1)=((i+1:Nat):Int):=by
 rw [wrap64]<;>omega
theorem leaf_int {k:IntKind} {z:Int}:LeafOk (.v (.int k z)):=⟨.int k z,(fun _ _ h=>by cases h),(fun _ h=>by cases h)⟩
theorem leaf_bool {b:Bool}:LeafOk (.v (.bool b)):=⟨.bool b,(fun _ _ h=>by cases h),(fun _ h=>by cases h)⟩
def finB (o:Option Nat):Bool:=ordO .f32 (arithO .sub .f32 o o) (some 0)==some .eq
def toF:AV->Option Nat
 | .flo _ o=>o
 | _=>none
def fO (cs:List AV):List (Option Nat):=cs.map toF
def Flos (n:Nat) (cs:List AV):Prop:=n<9223372036854775808/\cs=(fO cs).map (AV.flo .f32)/\cs.length=n
theorem Flos.len {n:Nat} {cs:List AV} (h:Flos n cs):(fO cs).length=n:=by
 simp [fO,h.2.2]
theorem Flos.get {n:Nat} {cs:List AV} (h:Flos n cs) {i:Nat} (hi:i<n):asFloat .f32 (cs.getD i .top)=some ((fO cs).getD i none):=by
 have h4:=h.len
 obtain ⟨h1,h2,h3⟩:=h
 have h5:i<(fO cs).length:=by omega
 rw [List.getD_eq_getElem?_getD,List.getD_eq_getElem?_getD]
 conv=>lhs;rw [h2]
 simp [h5,asFloat]
def sampErr (n:Nat) (xs:List (Option Nat)):Int:=if n>4096 then 5 else if xs.all finB then 0 else 1
theorem put2 (v w:Int):putCells (putCells (zrow (ofV (Go.Value.int IntKind.i64 (0:Int))).cells 2) 0 [AV.int IntKind.i64 v]) 1 [AV.int IntKind.i64 w]=[AV.int .i64 v,AV.int .i64 w]:=by
 rfl
theorem ints2 (v w:Int):Ints 2 [AV.int .i64 v,AV.int .i64 w]:=⟨by omega,rfl,rfl⟩
theorem leaf_fz {n:Nat} {cs:List AV} (h:∀ c∈cs,PlainC c):LeafOk (.fz n cs):=fun c hc=>(h c hc).cell
theorem leaf_flo {k:FloatKind} {o:Option Nat}:LeafOk (.v (.flo k o)):=⟨(Cell.flo k o).pure,(fun _ _ h=>by cases h),(fun _ h=>by cases h)⟩
def clean1 (o:Option Nat):Option Nat:=if ordO .f32 o (some 0)=some .eq then some 0 else o
def flosL (xs:List (Option Nat)):List AV:=xs.map (AV.flo .f32)
def sameF (xs ys:List (Option Nat)):Bool:=(xs.length==ys.length)&&(List.range xs.length).all fun i=>ordO .f32 (xs.getD i none) (ys.getD i none)==some .eq
theorem flosOf_L {xs:List (Option Nat)}:fO (flosL xs)=xs:=by
 simp [fO,flosL,List.map_map,Function.comp_def,toF]
theorem flosL_len {xs:List (Option Nat)}:(flosL xs).length=xs.length:=by simp [flosL]
theorem flosL_app {xs ys:List (Option Nat)}:flosL (xs++ys)=flosL xs++flosL ys:=by simp [flosL]
theorem Flos_L {xs:List (Option Nat)} (h:xs.length<9223372036854775808):Flos xs.length (flosL xs):=⟨h,by rw [flosOf_L];rfl,flosL_len⟩
theorem flosL_plain {xs:List (Option Nat)}:∀ c∈flosL xs,PlainC c:=by
 intro c hc
 obtain ⟨z,_,rfl⟩:=List.mem_map.1 hc
 exact .flo _ _
theorem flosL_get {xs:List (Option Nat)} {i:Nat} (h:i<xs.length):asFloat .f32 ((flosL xs).getD i .top)=some (xs.getD i none):=by
 simp [flosL,List.getD,h,asFloat]
theorem condO_ord {R:Type} {a b:Option Nat} {c:Ordering} {x y:Option R}:cO (ordO .f32 a b==some c) x y=if ordO .f32 a b=some c then x else y:=by
 by_cases h:ordO .f32 a b=some c
 ·rw [if_pos h,h,beq_self_eq_true];rfl
 ·rw [if_neg h,beq_eq_false_iff_ne.mpr h];rfl
theorem condO_ordne {R:Type} {a b:Option Nat} {c:Ordering} {x y:Option R}:cO (ordO .f32 a b != some c) x y=if ordO .f32 a b=some c then y else x:=by
 have e:(ordO .f32 a b != some c)=!(ordO .f32 a b==some c):=rfl
 by_cases h:ordO .f32 a b=some c
 ·rw [if_pos h,e,h,beq_self_eq_true];rfl
 ·rw [if_neg h,e,beq_eq_false_iff_ne.mpr h];rfl
theorem range_all_drop {n i:Nat} {p:Nat->Bool} (h:i<n):((List.range n).drop i).all p=(p i&&((List.range n).drop (i+1)).all p):=by
 rw [List.drop_eq_getElem_cons (by simpa using h)];simp
end Go.Abs
end
noncomputable section
namespace Go.Abs
open Classical Go.RowKit
theorem ShR.cell {s:Sh} {x:AV} (h:ShR s x):Cell x:=by
 induction h with
 | bool b=>exact .bool b
 | int k z _=>exact .int k z
 | flo k o _=>exact .flo k o
 | str s _=>exact .string s
 | sl es n els hn hl he hv ih=>
  refine .list _ _ fun x hx=>?_
  obtain ⟨e,h1,h2⟩:=List.mem_flatten.1 hx
  obtain ⟨j,hj⟩:=List.getElem?_of_mem h2
  have hlt:=(List.getElem?_eq_some_iff.1 hj).1
  rw [he e h1] at hlt
  exact ih e h1 j _ x (List.getElem?_eq_getElem hlt) hj
theorem ShR.arg {s:Sh} {x:AV} (h:ShR s x):ArgOk x:=by
 have hc:=h.cell
 cases hc<;>first | trivial | (rename_i h;exact h)
theorem ShR.flat1 {es:List (List AV)} (h:∀ e∈es,e.length=1):∀ {x:AV},x∈es.flatten->[x]∈es:=by
 intro x hx
 obtain ⟨e,h1,h2⟩:=List.mem_flatten.1 hx
 have:=h e h1
 match e,this with
 | [y],_=>simp only [List.mem_singleton] at h2;subst h2;exact h1
theorem flos_of {x:AV} (h:ShR (.sl [.flo .f32]) x):∃ n cs,x=.list n cs/\Flos n cs:=by
 cases h with
 | sl es n els hn hl he hv=>
  refine ⟨n,els.flatten,rfl,by unfold maxLen at hn;omega,?_,by rw [flat_len he];simp [hl]⟩
  have:∀ x∈els.flatten,AV.flo .f32 (toF x)=x:=by
   intro x hx
   have:=hv [x] (ShR.flat1 he hx) 0 _ x rfl rfl
   cases this;rfl
  unfold fO
  rw [List.map_map]
  exact (List.map_congr_left (g:=id) this |>.trans (List.map_id _)).symm
theorem normArg_self {H:Heap} {s:Sh} {x:AV} (h:ShR s x):normArg H x=some (x,false):=by
 have hc:=h.cell
 have hp:=hc.pure
 cases h<;>simp only [normArg,normCell]<;>rw [if_pos ⟨hp,fun cs e=>by cases e⟩]
inductive ArgR:AV->Prop
 | cell {s:Sh} {x:AV} (h:ShR s x):ArgR x
 | agg {ss:List Sh} {xs:List AV} (h:ShRs ss xs):ArgR (.agg xs)
theorem normCell_self {H:Heap} {s:Sh} {x:AV} (h:ShR s x):normCell H x=some (x,false):=by
 have hc:=h.cell
 have hp:=hc.pure
 cases hc<;>simp only [normCell]<;>rw [if_pos ⟨hp,fun cs e=>by cases e⟩]
theorem normCells_self {H:Heap}:∀ (ss:List Sh) (xs:List AV),ShRs ss xs->normCells H xs=some (xs,false)/\∀ x∈xs,ArgOk1 x
 | ss,[],_=>⟨rfl,fun x h=>by cases h⟩
 | [],x::xs,hx=>by have:=hx.1;simp at this
 | s::ss,x::xs,hx=>by
  have h0:=hx.2 0 s x rfl rfl
  obtain ⟨i1,i2⟩:=normCells_self (H:=H) ss xs ⟨by have:=hx.1;simpa using this,fun j s x a b=>hx.2 (j+1) s x (by simpa using a) (by simpa using b)⟩
  refine ⟨by simp only [normCells,normCell_self h0,i1,Bool.or_self],fun y hy=>?_⟩
  rcases List.mem_cons.1 hy with rfl | hy
  ·have:=h0.cell
   cases this<;>first | trivial | (rename_i h;exact h)
  ·exact i2 y hy
theorem ArgR.norm {H:Heap} {x:AV} (h:ArgR x):normArg H x=some (x,false)/\ArgOk x:=by
 cases h with
 | cell h=>exact ⟨normArg_self h,h.arg⟩
 | agg h=>
  obtain ⟨a,b⟩:=normCells_self (H:=H) _ _ h
  exact ⟨by simp only [normArg,a],b⟩
section
variable {H : Type} {enc : TypeId × Value → H} {P : Program} {w : World} {base : Nat} {spare : Nat → Bool} {held : Bool}
theorem open_argS {d:Nat} {t:TypeId} {ss:List Sh} {cs:Array Value} {y:DataW H} {ps:List MemPlace} (hs:shOf P d t=some ss) (h:DataW.Trod enc P w base spare held t (.agg cs) y ps):
  ∃ xs:List AV,ShRs ss xs/\VRel ⟨Old w,w.heap,id,0⟩ (.agg xs) (.agg cs):=by
 obtain ⟨fuel,hf⟩:=h
 have hv:(Value.agg cs).cells.toList=cs.toList:=rfl
 rw [hv] at hf
 obtain ⟨xs,h1,h2⟩:=open_cells d fuel t ss _ _ hs hf
 refine ⟨xs,h1,.agg xs cs ?_ fun j x v a b=>h2.2 j x v a (by simpa using b)⟩
 have:=h2.1;simpa using this
end
end Go.Abs
end
noncomputable section
namespace Go.Abs
open Classical Go.RowKit
structure Ways where
 vary:FuncId->Nat->Option (SSt->Vary)
 unroll:FuncId->Nat->Option (Tmp × Nat)
 join:List Nat
 picks:List Nat
 joins:List JoinE
 rjoins:List JoinE
 deeps:List (Nat × Nat)
def fsG (P:Program) (M:List (Nat × List (Nat × Nat × Nat))) (l:List (FuncId × Ent)) (W:Ways) (N k:Nat):FnS:=fsS P (tabL l) (domL l) (fun g=>hasNat g W.join) N (liveOf M) (asgU M W.vary W.unroll (fun g=>hasNat g W.picks) W.joins W.rjoins W.deeps) k
section
variable {P : Program} {M : List (Nat × List (Nat × Nat × Nat))} {l : List (FuncId × Ent)} {W : Ways} {N k : Nat} {g : FuncId}
theorem con_ofG (hm:P.follows .mixedOrders=true) (hnum:NoNum P) (hl:TabLOk P l) {args':List AV} {ms:List Bool} {d:List RLeaf}
  (h:(fsG P M l W N k).call (List RLeaf) g (args'.map symA) [] (resK ms)=some d) (ha:∀ x∈args',ArgOk x) (hp:FzPlain d):Contract P g args' d:=
 contract_of hm hnum (tabL_ok hl) h ha hp
theorem law_ofG (hm:P.follows .mixedOrders=true) (hnum:NoNum P) (hl:TabLOk P l) {xs:List AV} (hx:∀ x∈xs,ArgR x)
  (h:(fsG P M l W N k).call (List RLeaf) g (xs.map symA) [] (resK [false])=some [.v (.bool true)]) {w:World} {args:Array Value} (ha:VRels ⟨Old w,w.heap,id,0⟩ xs args.toList):
  Calls P g args w fun e w'=>e=.returned (.bool true)/\Below w.heap.size w w':=by
 have hs:∀ (xs:List AV),(∀ x∈xs,ArgR x)->normArgs Heap.empty xs=some (xs,false)/\∀ x∈xs,ArgOk x:=by
  intro xs
  induction xs with
  | nil=>intro _;exact ⟨rfl,fun x h=>by cases h⟩
  | cons x xs ih=>
   intro hx
   obtain ⟨i1,i2⟩:=ih fun y hy=>hx y (List.mem_cons_of_mem _ hy)
   obtain ⟨j1,j2⟩:=(hx x List.mem_cons_self).norm (H:=Heap.empty)
   refine ⟨by simp only [normArgs,j1,i1,Bool.or_self],fun y hy=>?_⟩
   rcases List.mem_cons.1 hy with rfl | hy
   ·exact j2
   ·exact i2 y hy
 obtain ⟨h1,h2⟩:=hs xs hx
 have hc:=con_ofG hm hnum hl h h2 trivial
 exact (hc Heap.empty xs false h1 (fun e=>by cases e)).law ha
end
theorem ent_const {P:Program} {g:FuncId} {y:AV} (hy:LeafOk (.v y)) (hc:∀ H,CallOk P (fun _=>none) g [] H y H) (f:Ent) (hf:∀ args' R K,f args' R K=match args' with | []=>K [.v y] | _=>none):EntOk P g f:=by
 intro args' R K r ha h
 rw [hf] at h
 split at h
 ·refine ⟨[.v y],fun R' K'=>hf _ _ _,fun l hl=>by simp only [List.mem_singleton] at hl;subst hl;exact hy,?_⟩
  intro H args bor hn hb
  have:args=[]:=by
   cases args with
   | nil=>rfl
   | cons x xs=>
    simp only [normArgs] at hn
    split at hn
    ·simp at hn
    ·cases hn
  subst this
  exact hc H
 ·cases h
end Go.Abs
end
