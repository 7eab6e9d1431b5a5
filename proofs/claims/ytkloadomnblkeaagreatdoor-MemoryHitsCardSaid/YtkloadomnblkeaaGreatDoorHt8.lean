/- Part 8 of the library of the proof: an abstract run of the program. -/
import Derived.Test.YtkloadomnblkeaaGreatDoorHt2
import Derived.Test.YtkloadomnblkeaaGreatDoorHt4
set_option linter.unusedVariables false
set_option linter.unusedSimpArgs false

noncomputable section
namespace Go.Abs
open Classical
theorem au {A:Type} {F:A->A} {bot:A} (Q:Nat->A->Prop) (h:∀ k r,(∀ j,j<k->Q j r)->Q k (F r)):∀ N k,k<N->Q k (bg N F bot)
 | 0,k,hk=>absurd hk (Nat.not_lt_zero k)
 | N+1,k,hk=>h k _ fun j hj=>au Q h N j (by omega)
section
variable {R : Type} {x y : Option R}
theorem ae {p:Prop} [Decidable p]:cO (decide p) x y=if p then x else y:=by
 by_cases h:p<;>simp [cO,h]
theorem cr {α:Type} [DecidableEq α] {a b:α}:cO (a != b) x y=if a=b then y else x:=by
 by_cases h:a=b
 ·subst h;simp [cO,bne]
 ·rw [if_neg h];simp only [cO,bne,beq_eq_false_iff_ne.mpr h,Bool.not_false]
theorem jN {α:Type} [DecidableEq α] {a b:α}:cO (a==b) x y=if a=b then x else y:=by
 by_cases h:a=b
 ·subst h;simp [cO]
 ·rw [if_neg h];simp only [cO,beq_eq_false_iff_ne.mpr h]
theorem fN {b:Bool}:cO (!b) x y=if b=true then y else x:=by cases b<;>rfl
theorem aj {p:Prop} [Decidable p]:gO (decide p) x=if p then x else none:=by
 by_cases h:p<;>simp [gO,h]
theorem ak {α:Type} {a:α} {f:α->Option R}:bO (some a) f=f a:=rfl
end
theorem wrap64 {z:Int} (h1:-9223372036854775808<=z) (h2:z<9223372036854775808):IntKind.i64.wrap z=z:=by
 simp [IntKind.wrap,IntKind.signed,IntKind.bits]
 omega
def toI:AV->Int
 | .int _ z=>z
 | _=>0
def aB (cs:List AV):List Int:=cs.map toI
def jD (n:Nat) (cs:List AV):Prop:=n<9223372036854775808/\cs=(aB cs).map (AV.int .i64)/\cs.length=n
theorem jD.get {n:Nat} {cs:List AV} (h:jD n cs) {i:Nat} (hi:i<n):asInt .i64 (cs.getD i .top)=some ((aB cs).getD i 0):=by
 obtain ⟨h1,h2,h3⟩:=h
 rw [h2]
 have:i<(aB cs).length:=by simp [aB,h3,hi]
 simp [List.getD,this,asInt]
 simp [aB,List.getElem?_map]
 have h4:i<cs.length:=by omega
 simp [h4,toI]
theorem jD.len {n:Nat} {cs:List AV} (h:jD n cs):(aB cs).length=n:=by
 simp [aB,h.2.2]
theorem drop_cons {α:Type} {xs:List α} {i:Nat} {d:α} (h:i<xs.length):xs.drop i=xs.getD i d::xs.drop (i+1):=by
 rw [List.drop_eq_getElem_cons h];simp [List.getD,h]
def bR:List Int->Int
 | []=>0
 | x::xs=>if x=0 then bR xs else x
theorem lF {n i:Nat} (h:n<9223372036854775808) (hi:i<n):IntKind.i64.wrap ((i:Int)+1)=((i+1:Nat):Int):=by
 rw [wrap64]<;>omega
theorem bh {k:IntKind} {z:Int}:gT (.v (.int k z)):=⟨.int k z,(fun _ _ h=>by cases h),(fun _ h=>by cases h)⟩
theorem dz {b:Bool}:gT (.v (.bool b)):=⟨.bool b,(fun _ _ h=>by cases h),(fun _ h=>by cases h)⟩
def aJ (o:Option Nat):Bool:=aM .f32 (fj .sub .f32 o o) (some 0)==some .eq
def toF:AV->Option Nat
 | .aL _ o=>o
 | _=>none
def fO (cs:List AV):List (Option Nat):=cs.map toF
def bu (n:Nat) (cs:List AV):Prop:=n<9223372036854775808/\cs=(fO cs).map (AV.aL .f32)/\cs.length=n
theorem bu.len {n:Nat} {cs:List AV} (h:bu n cs):(fO cs).length=n:=by
 simp [fO,h.2.2]
theorem bu.get {n:Nat} {cs:List AV} (h:bu n cs) {i:Nat} (hi:i<n):aq .f32 (cs.getD i .top)=some ((fO cs).getD i none):=by
 have h4:=h.len
 obtain ⟨h1,h2,h3⟩:=h
 have h5:i<(fO cs).length:=by omega
 rw [List.getD_eq_getElem?_getD,List.getD_eq_getElem?_getD]
 conv=>lhs;rw [h2]
 simp [h5,aq]
def aY (n:Nat) (xs:List (Option Nat)):Int:=if n>4096 then 5 else if xs.all aJ then 0 else 1
theorem PF (v w:Int):ag (ag (aX (cM (Go.Value.int IntKind.i64 (0:Int))).cells 2) 0 [AV.int IntKind.i64 v]) 1 [AV.int IntKind.i64 w]=[AV.int .i64 v,AV.int .i64 w]:=by
 rfl
theorem Gu (v w:Int):jD 2 [AV.int .i64 v,AV.int .i64 w]:=⟨by omega,rfl,rfl⟩
theorem pZ {n:Nat} {cs:List AV} (h:∀ c∈cs,eY c):gT (.fz n cs):=fun c hc=>(h c hc).cell
theorem PG {k:FloatKind} {o:Option Nat}:gT (.v (.aL k o)):=⟨(Cell.aL k o).pure,(fun _ _ h=>by cases h),(fun _ h=>by cases h)⟩
def az (o:Option Nat):Option Nat:=if aM .f32 o (some 0)=some .eq then some 0 else o
def bU (xs:List (Option Nat)):List AV:=xs.map (AV.aL .f32)
def mD (xs ys:List (Option Nat)):Bool:=(xs.length==ys.length)&&(List.range xs.length).all fun i=>aM .f32 (xs.getD i none) (ys.getD i none)==some .eq
theorem zE {xs:List (Option Nat)}:fO (bU xs)=xs:=by
 simp [fO,bU,List.map_map,Function.comp_def,toF]
theorem p9 {xs:List (Option Nat)}:(bU xs).length=xs.length:=by simp [bU]
theorem mE {xs ys:List (Option Nat)}:bU (xs++ys)=bU xs++bU ys:=by simp [bU]
theorem PH {xs:List (Option Nat)} (h:xs.length<9223372036854775808):bu xs.length (bU xs):=⟨h,by rw [zE];rfl,p9⟩
theorem fF {xs:List (Option Nat)}:∀ c∈bU xs,eY c:=by
 intro c hc
 obtain ⟨z,_,rfl⟩:=List.mem_map.1 hc
 exact .aL _ _
theorem jO {xs:List (Option Nat)} {i:Nat} (h:i<xs.length):aq .f32 ((bU xs).getD i .top)=some (xs.getD i none):=by
 simp [bU,List.getD,h,aq]
theorem CR {R:Type} {a b:Option Nat} {c:Ordering} {x y:Option R}:cO (aM .f32 a b==some c) x y=if aM .f32 a b=some c then x else y:=by
 by_cases h:aM .f32 a b=some c
 ·rw [if_pos h,h,beq_self_eq_true];rfl
 ·rw [if_neg h,beq_eq_false_iff_ne.mpr h];rfl
theorem Gv {R:Type} {a b:Option Nat} {c:Ordering} {x y:Option R}:cO (aM .f32 a b != some c) x y=if aM .f32 a b=some c then y else x:=by
 have e:(aM .f32 a b != some c)=!(aM .f32 a b==some c):=rfl
 by_cases h:aM .f32 a b=some c
 ·rw [if_pos h,e,h,beq_self_eq_true];rfl
 ·rw [if_neg h,e,beq_eq_false_iff_ne.mpr h];rfl
theorem bV {n i:Nat} {p:Nat->Bool} (h:i<n):((List.range n).drop i).all p=(p i&&((List.range n).drop (i+1)).all p):=by
 rw [List.drop_eq_getElem_cons (by simpa using h)];simp
end Go.Abs
end
noncomputable section
namespace Go.Abs
open Classical Go.RowKit
theorem B5.cell {s:Sh} {x:AV} (h:B5 s x):Cell x:=by
 induction h with
 | bool b=>exact .bool b
 | int k z _=>exact .int k z
 | aL k o _=>exact .aL k o
 | str s _=>exact .string s
 | sl es n OU hn hl he hv ih=>
  refine .list _ _ fun x hx=>?_
  obtain ⟨e,h1,h2⟩:=List.mem_flatten.1 hx
  obtain ⟨j,hj⟩:=List.getElem?_of_mem h2
  have cC:=(List.getElem?_eq_some_iff.1 hj).1
  rw [he e h1] at cC
  exact ih e h1 j _ x (List.getElem?_eq_getElem cC) hj
theorem B5.arg {s:Sh} {x:AV} (h:B5 s x):lG x:=by
 have hc:=h.cell
 cases hc<;>first | trivial | (rename_i h;exact h)
theorem B5.VV {es:List (List AV)} (h:∀ e∈es,e.length=1):∀ {x:AV},x∈es.flatten->[x]∈es:=by
 intro x hx
 obtain ⟨e,h1,h2⟩:=List.mem_flatten.1 hx
 have:=h e h1
 match e,this with
 | [y],_=>simp only [List.mem_singleton] at h2;subst h2;exact h1
theorem TE {x:AV} (h:B5 (.sl [.aL .f32]) x):∃ n cs,x=.list n cs/\bu n cs:=by
 cases h with
 | sl es n OU hn hl he hv=>
  refine ⟨n,OU.flatten,rfl,by unfold maxLen at hn;omega,?_,by rw [gb he];simp [hl]⟩
  have:∀ x∈OU.flatten,AV.aL .f32 (toF x)=x:=by
   intro x hx
   have:=hv [x] (B5.VV he hx) 0 _ x rfl rfl
   cases this;rfl
  unfold fO
  rw [List.map_map]
  exact (List.map_congr_left (g:=id) this |>.trans (List.map_id _)).symm
theorem D2 {H:af} {s:Sh} {x:AV} (h:B5 s x):normArg H x=some (x,false):=by
 have hc:=h.cell
 have hp:=hc.pure
 cases hc<;>simp only [normArg,cg]<;>rw [if_pos ⟨hp,fun cs e=>by cases e⟩]
inductive MZ:AV->Prop
 | cell {s:Sh} {x:AV} (h:B5 s x):MZ x
 | agg {ss:List Sh} {xs:List AV} (h:m6 ss xs):MZ (.agg xs)
theorem Ch {H:af} {s:Sh} {x:AV} (h:B5 s x):cg H x=some (x,false):=by
 have hc:=h.cell
 have hp:=hc.pure
 cases hc<;>simp only [cg]<;>rw [if_pos ⟨hp,fun cs e=>by cases e⟩]
theorem oF {H:af}:∀ (ss:List Sh) (xs:List AV),m6 ss xs->da H xs=some (xs,false)/\∀ x∈xs,uZ x
 | ss,[],_=>⟨rfl,fun x h=>by cases h⟩
 | [],x::xs,hx=>by have:=hx.1;simp at this
 | s::ss,x::xs,hx=>by
  have h0:=hx.2 0 s x rfl rfl
  obtain ⟨i1,i2⟩:=oF (H:=H) ss xs ⟨by have:=hx.1;simpa using this,fun j s x a b=>hx.2 (j+1) s x (by simpa using a) (by simpa using b)⟩
  refine ⟨by simp only [da,Ch h0,i1,Bool.or_self],fun y hy=>?_⟩
  rcases List.mem_cons.1 hy with rfl | hy
  ·have:=h0.cell
   cases this<;>first | trivial | (rename_i h;exact h)
  ·exact i2 y hy
theorem MZ.norm {H:af} {x:AV} (h:MZ x):normArg H x=some (x,false)/\lG x:=by
 cases h with
 | cell h=>exact ⟨D2 h,h.arg⟩
 | agg h=>
  obtain ⟨a,b⟩:=oF (H:=H) _ _ h
  exact ⟨by simp only [normArg,a],b⟩
section
variable {H : Type} {enc : TypeId × Value → H} {P : Program} {w : World} {base : Nat} {spare : Nat → Bool} {held : Bool}
theorem CS {d:Nat} {t:TypeId} {ss:List Sh} {cs:Array Value} {y:DataW H} {ps:List MemPlace} (hs:B4 P d t=some ss) (h:DataW.Trod enc P w base spare held t (.agg cs) y ps):
  ∃ xs:List AV,m6 ss xs/\ao ⟨Old w,w.heap,id,0⟩ (.agg xs) (.agg cs):=by
 obtain ⟨fuel,hf⟩:=h
 have hv:(Value.agg cs).cells.toList=cs.toList:=rfl
 rw [hv] at hf
 obtain ⟨xs,h1,h2⟩:=open_cells d fuel t ss _ _ hs hf
 refine ⟨xs,h1,.agg xs cs ?_ fun j x v a b=>h2.2 j x v a (by simpa using b)⟩
 have:=h2.1;simpa using this
end
end Go.Abs
end
noncomputable section
namespace Go.Abs
open Classical Go.RowKit
structure Gw where
 oG:FuncId->Nat->Option (bX->Ci)
 D3:FuncId->Nat->Option (Tmp × Nat)
 join:List Nat
 VW:List Nat
 CT:List Lh
 u0:List Lh
 VX:List (Nat × Nat)
def fsG (P:Program) (M:List (Nat × List (Nat × Nat × Nat))) (l:List (FuncId × fr)) (W:Gw) (N k:Nat):sS:=cE P (TF l) (TG l) (fun g=>l9 g W.join) N (Xa M) (aeL M W.oG W.D3 (fun g=>l9 g W.VW) W.CT W.u0 W.VX) k
section
variable {P : Program} {M : List (Nat × List (Nat × Nat × Nat))} {l : List (FuncId × fr)} {W : Gw} {N k : Nat} {g : FuncId}
theorem Li (hm:P.follows .mixedOrders=true) (fK:ja P) (hl:eZ P l) {ai:List AV} {ms:List Bool} {d:List aa}
  (h:(fsG P M l W N k).call (List aa) g (ai.map Jc) [] (bp ms)=some d) (ha:∀ x∈ai,lG x) (hp:iW d):tA P g ai d:=
 Gx hm fK (Lj hl) h ha hp
theorem TH (hm:P.follows .mixedOrders=true) (fK:ja P) (hl:eZ P l) {xs:List AV} (hx:∀ x∈xs,MZ x)
  (h:(fsG P M l W N k).call (List aa) g (xs.map Jc) [] (bp [false])=some [.v (.bool true)]) {w:World} {args:Array Value} (ha:ay ⟨Old w,w.heap,id,0⟩ xs args.toList):
  Calls P g args w fun e w'=>e=.returned (.bool true)/\Below w.heap.size w w':=by
 have hs:∀ (xs:List AV),(∀ x∈xs,MZ x)->normArgs af.empty xs=some (xs,false)/\∀ x∈xs,lG x:=by
  intro xs
  induction xs with
  | nil=>intro _;exact ⟨rfl,fun x h=>by cases h⟩
  | cons x xs ih=>
   intro hx
   obtain ⟨i1,i2⟩:=ih fun y hy=>hx y (List.mem_cons_of_mem _ hy)
   obtain ⟨j1,j2⟩:=(hx x List.mem_cons_self).norm (H:=af.empty)
   refine ⟨by simp only [normArgs,j1,i1,Bool.or_self],fun y hy=>?_⟩
   rcases List.mem_cons.1 hy with rfl | hy
   ·exact j2
   ·exact i2 y hy
 obtain ⟨h1,h2⟩:=hs xs hx
 have hc:=Li hm fK hl h h2 trivial
 exact (hc af.empty xs false h1 (fun e=>by cases e)).law ha
end
theorem M0 {P:Program} {g:FuncId} {y:AV} (hy:gT (.v y)) (hc:∀ H,CallOk P (fun _=>none) g [] H y H) (f:fr) (hf:∀ ai R K,f ai R K=match ai with | []=>K [.v y] | _=>none):bG P g f:=by
 intro ai R K r ha h
 rw [hf] at h
 split at h
 ·refine ⟨[.v y],fun R' K'=>hf _ _ _,fun l hl=>by simp only [List.mem_singleton] at hl;subst hl;exact hy,?_⟩
  intro H args gU hn hb
  have:args=[]:=by
   cases args with
   | nil=>rfl
   | cons x xs=>
    simp only [normArgs] at hn
    split at hn
    ·simp at hn
    ·cases hn
  subst this
  exact hc H
 ·cases h
end Go.Abs
end
