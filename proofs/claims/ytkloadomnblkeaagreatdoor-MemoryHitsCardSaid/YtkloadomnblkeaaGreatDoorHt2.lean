/- Part 2 of the library of the proof: an abstract run of the program. -/
import Derived.Test.YtkloadomnblkeaaGreatDoorHt1
import Derived.Below
import Derived.Deep.Slices
import Derived.OpenShut
set_option linter.unusedVariables false
set_option linter.unusedSimpArgs false

noncomputable section
namespace Go.Abs
def fo (step:St->Option (Exit × St)):Nat->St->Option (Exit × St)
  | 0,_=>none
  | n+1,σ=>match step σ with
    | some (.normal,σ')=>fo step n σ'
    | r=>r
def yL:Option Code->St->Option (Exit × St)
  | none,σ=>some (.normal,σ)
  | some .ret,σ=>some (.ret,σ)
  | some (.exit id),σ=>some (.exit id,σ)
  | some (.goto l),σ=>some (.goto l,σ)
  | _,_=>none
def fy (ro:Option Nat) (ps:Array Tmp) (as bd:Code) (σ:St):Option (af × Nat × List Nat):=
  match ro with
  | none=>some ((σ.H.push .deferred).push (.loop { state:=.ready,pending:=none,tmps:=σ.tmps,params:=ps,assign:=as,body:=bd,defers:=σ.H.n }),σ.H.n+1,σ.H.n::σ.defers)
  | some l=>match σ.H.get l with
    | some (.loop L)=>some (σ.H.push (.loop { state:=.ready,pending:=none,tmps:=σ.tmps,params:=ps,assign:=as,body:=bd,defers:=L.defers }),σ.H.n,σ.defers)
    | _=>none
def lX (Γ:bz) (fs:fb) (ro:Option Nat) (g:Operand) (ps:Array Tmp) (as bd:Code) (σ:St):Option (Exit × St):=
  match ev Γ σ.tmps g with
  | .func f first cap=>match fy ro ps as bd σ with
    | some (H1,l,ds)=>match fs.call f (first++[.yield l]++cap) H1 with
      | some (_,H2)=>match H2.get l with
        | some (.loop L)=>match L.state with
          | .busy=>none
          | _=>if H2.fH<=l then yL L.pending { σ with H:=H2.ij l (.loop { L with state:=.exhausted }),defers:=ds } else none
        | _=>none
      | none=>none
    | none=>none
  | _=>none
def aV (P:Program) (Γ:bz) (fs:fb) (dr:Array Oper->St->Option St) (lf:Nat) (ro:Option Nat):Code->St->Option (Exit × St)
  | .skip,σ=>some (.normal,σ)
  | .label _,σ=>some (.normal,σ)
  | .region _ ops d,σ=>match (match d with | true=>dr ops σ | false=>fc P Γ fs ops ops.toList σ) with
    | some σ'=>some (.normal,σ')
    | none=>none
  | .seq x y,σ=>match aV P Γ fs dr lf ro x σ with
    | some (.normal,σ')=>aV P Γ fs dr lf ro y σ'
    | r=>r
  | .cond c x y,σ=>match ev Γ σ.tmps c with
    | .bool true=>aV P Γ fs dr lf ro x σ
    | .bool false=>aV P Γ fs dr lf ro y σ
    | _=>none
  | .block id x,σ=>match aV P Γ fs dr lf ro x σ with
    | some (.exit k,σ')=>if k=id then some (.normal,σ') else some (.exit k,σ')
    | r=>r
  | .loop x,σ=>fo (aV P Γ fs dr lf ro x) lf σ
  | .rangeFunc g ps as bd,σ=>lX Γ fs ro g ps as bd σ
  | .exit id,σ=>some (.exit id,σ)
  | .goto l,σ=>some (.goto l,σ)
  | .ret,σ=>some (.ret,σ)
  | .scope x,σ=>match aV P Γ fs dr lf ro x σ with
    | some (.goto _,_)=>none
    | r=>r
  | _,_=>none
structure de (P:Program) (Γ:bz) (ro:Option Nat) (c:Code) (σ:St) (e:Exit) (σ':St):Prop where
  grow:σ.H.rev.length=σ.H.n->dD σ.H σ'.H
  lu:∀ (F G:Nat->Prop) (i:Nat->Nat) (a:Act) (w:World) (Q:Exit->Act->World->Prop),iz Γ F G i σ a w->(∀ l,ro=some l->l<σ.H.n)->
    (∀ F' i' a' w',iz Γ F' G i' σ' a' w'->Ext σ.H.n F G i w F' i' w'->σ.H.n<=σ'.H.n->Q e a' w')->c.wpIn (W (ro.map i)) 0 P Q a w
structure qZ (P:Program) (Γ:bz) (ops:Array Oper) (σ σ':St):Prop where
  grow:σ.H.rev.length=σ.H.n->dD σ.H σ'.H
  lu:∀ (ro:Option Nat) (F G:Nat->Prop) (i:Nat->Nat) (a:Act) (w:World) (Q:Exit->Act->World->Prop),iz Γ F G i σ a w->
    (∀ F' i' a' w',iz Γ F' G i' σ' a' w'->Ext σ.H.n F G i w F' i' w'->σ.H.n<=σ'.H.n->Q .normal a' w')->
    wpAnyIn (W ro) 0 P .any ops Q ops.size (Array.replicate ops.size false) a w
section
variable {P : Program} {b : Frame} {a : Act} {k : List Item} {cs : List Frame} {w : World}
theorem gA {c:Code}:step P (lone (b.atR a (.code (.scope c)::k)) cs w)=.next (lone (b.atR a (.code c::.inScope c::k)) cs w):=
  step_lone_go (by simp [stepG,stepG.exec,Frame.atR])
theorem B6 {c:Code}:step P (lone (b.atR a (.inScope c::k)) cs w)=.next (lone (b.atR a k) cs w):=
  step_lone_go (by simp [stepG,stepG.exec,Frame.atR])
end
def noGoto (Q:Exit->Act->World->Prop):Exit->Act->World->Prop
  | .goto _,_,_=>False
  | e,a,w=>Q e a w
theorem qA {F:Fence} {n:Nat} {P:Program} {Q:Exit->Act->World->Prop} {a:Act} {w:World} {c:Code} (h:c.wpIn F n P (noGoto Q) a w):(Code.scope c).wpIn F n P Q a w:=by
  intro b k cs uJ hb hr
  have h0:(lone (b.atR a (.code (.scope c)::k)) cs w).fenced P F:=fenced_calm hb hr rfl
  obtain ⟨e,a₁,w₁,hq,Mq⟩:=h b (.inScope c::k) cs uJ hb hr
  cases e with
  | normal=>exact ⟨.normal,a₁,w₁,hq,.head h0 gA (StepsIn.trans Mq (.one (fenced_calm hb hr rfl) B6))⟩
  | exit id'=>
    have hx:exitTo id' (.inScope c::k)=exitTo id' k:=by simp [exitTo]
    exact ⟨.exit id',a₁,w₁,hq,fun k' hk=>.head h0 gA (Mq.1 k' (by rw [hx];exact hk)),
      fun gL hk=>let ⟨k₁,h1,h2⟩:=Mq.2 gL (by rw [hx];exact hk);⟨k₁,h1,.head h0 gA h2⟩⟩
  | goto l=>exact hq.elim
  | ret=>exact ⟨_,a₁,w₁,hq,.of_steps (.one h0 gA) Mq⟩
  | panic ch=>exact ⟨_,a₁,w₁,hq,.of_steps (.one h0 gA) Mq⟩
  | outgrown=>exact ⟨_,a₁,w₁,hq,.of_steps (.one h0 gA) Mq⟩
section
variable {P : Program} {Γ : bz} {fs : fb} {ro : Option Nat} {c x y : Code} {σ σ' σ'' : St} {e : Exit}
theorem iz.drew {F G:Nat->Prop} {i:Nat->Nat} {a:Act} {w:World} (h:iz Γ F G i σ a w) (n:Nat):iz Γ F G i σ a { w with drawn:=n }:=
  ⟨h.tmps,h.defers,h.mZ,h.heap,h.dx⟩
theorem de.pure (h:∀ {F:Fence} {Q:Exit->Act->World->Prop} {a:Act} {w:World},Q e a w->c.wpIn F 0 P Q a w):de P Γ ro c σ e σ:=
  ⟨dD.refl,fun F G i a w Q hs _ hq=>h (hq F i a w hs (Ext.refl _ _ _ _ _) (Nat.le_refl _))⟩
theorem yM {F F' G:Nat->Prop} {i i':Nat->Nat} {w w':World} {K:Nat} (he:Ext K F G i w F' i' w') (hl:∀ l,ro=some l->l<K):ro.map i'=ro.map i:=by
  cases ro with
  | none=>rfl
  | some l=>simp [he.same l (hl l rfl)]
theorem de.seq (h:de P Γ ro x σ .normal σ') (k:de P Γ ro y σ' e σ''):de P Γ ro (.seq x y) σ e σ'':=by
  refine ⟨fun bw=>(h.grow bw).trans (k.grow (h.grow bw).ok),fun F G i a w Q hs hl hq=>?_⟩
  refine wpIn_seq (h.lu F G i a w _ hs hl fun F' i' a' w' et he hle=>?_)
  show y.wpIn _ _ _ _ _ _
  rw [←yM he hl]
  refine k.lu F' G i' a' w' _ et (fun l h=>Nat.lt_of_lt_of_le (hl l h) hle) fun FP K0 OY K2 WJ gn q9=>hq FP K0 OY K2 WJ (he.trans gn hle) (Nat.le_trans hle q9)
theorem de.Tg (h:de P Γ ro x σ e σ') (he:e≠.normal):de P Γ ro (.seq x y) σ e σ':=by
  refine ⟨h.grow,fun F G i a w Q hs hl hq=>wpIn_seq (h.lu F G i a w _ hs hl fun F' i' a' w' et hx hle=>?_)⟩
  have:=hq F' i' a' w' et hx hle
  cases e<;>first | exact absurd rfl he | exact this
theorem de.block {id:Nat} (h:de P Γ ro x σ e σ'):de P Γ ro (.block id x) σ (match e with | .exit k=>if k=id then .normal else .exit k | e=>e) σ':=by
  refine ⟨h.grow,fun F G i a w Q hs hl hq=>wpIn_block (h.lu F G i a w _ hs hl fun F' i' a' w' et hx hle=>?_)⟩
  have:=hq F' i' a' w' et hx hle
  cases e<;>try exact this
  rename_i k
  simp only [Exit.inBlock]
  split<;>rename_i hk<;>simp only [hk,if_true,if_false] at this<;>exact this
theorem de.scope (h:de P Γ ro x σ e σ') (hg:∀ l,e≠.goto l):de P Γ ro (.scope x) σ e σ':=by
  refine ⟨h.grow,fun F G i a w Q hs hl hq=>qA (h.lu F G i a w _ hs hl fun F' i' a' w' et hx hle=>?_)⟩
  have:=hq F' i' a' w' et hx hle
  cases e<;>first | exact this | exact absurd rfl (hg _)
theorem de.cond {cnd:Operand} {b:Bool} (hc:ev Γ σ.tmps cnd=.bool b) (h:de P Γ ro (if b then x else y) σ e σ'):de P Γ ro (.cond cnd x y) σ e σ':=by
  refine ⟨h.grow,fun F G i a w Q hs hl hq=>?_⟩
  have hv:=yN hs.tmps hs.dx cnd
  rw [hc] at hv
  generalize hx:a.eval cnd=v at hv
  cases hv
  exact wpIn_cond hx (h.lu F G i a w Q hs hl hq)
theorem OZ {step:St->Option (Exit × St)} (fA:∀ σ e σ',step σ=some (e,σ')->de P Γ ro x σ e σ'):
    ∀ (n:Nat) (σ:St) (e:Exit) (σ':St),fo step n σ=some (e,σ')->de P Γ ro (.loop x) σ e σ':=by
  have grow:∀ (n:Nat) (σ:St) (e:Exit) (σ':St),fo step n σ=some (e,σ')->σ.H.rev.length=σ.H.n->dD σ.H σ'.H:=by
    intro n
    induction n with
    | zero=>intro σ e σ' h;simp [fo] at h
    | succ n ih=>
      intro σ e σ' h bw
      simp only [fo] at h
      split at h
      · rename_i σ1 h1
        have g1:=(fA _ _ _ h1).grow bw
        exact g1.trans (ih _ _ _ h g1.ok)
      · exact (fA _ _ _ h).grow bw
  have rounds:∀ (n:Nat) (σ:St) (e:Exit) (σ':St),fo step n σ=some (e,σ')->
      ∀ (F G:Nat->Prop) (i:Nat->Nat) (a:Act) (w:World) (Q:Exit->Act->World->Prop),iz Γ F G i σ a w->(∀ l,ro=some l->l<σ.H.n)->
      (∀ F' i' a' w',iz Γ F' G i' σ' a' w'->Ext σ.H.n F G i w F' i' w'->σ.H.n<=σ'.H.n->Q e a' w')->x.roundsIn (W (ro.map i)) 0 P Q n a w:=by
    intro n
    induction n with
    | zero=>intro σ e σ' h;simp [fo] at h
    | succ n ih=>
      intro σ e σ' h F G i a w Q hs hl hq
      simp only [fo] at h
      rw [roundsIn_succ]
      split at h
      · rename_i σ1 h1
        refine (fA _ _ _ h1).lu F G i a w _ hs hl fun F' i' a' w' et he hle=>?_
        show Code.roundsIn _ _ _ _ _ _ _ _
        rw [←yM he hl]
        exact ih _ _ _ h F' G i' a' w' Q et (fun l h=>Nat.lt_of_lt_of_le (hl l h) hle) fun FP K0 OY K2 WJ gn q9=>hq FP K0 OY K2 WJ (he.trans gn hle) (Nat.le_trans hle q9)
      · rename_i ek
        refine (fA _ _ _ h).lu F G i a w _ hs hl fun F' i' a' w' et he hle=>?_
        have:=hq F' i' a' w' et he hle
        cases e<;>first | exact absurd h (ek _) | exact this
  intro n σ e σ' h
  exact ⟨grow n σ e σ' h,fun F G i a w Q hs hl hq=>wpIn_loop_rounds n (rounds n σ e σ' h F G i a w Q hs hl hq)⟩
def Mr (P:Program) (F:Fence) (Q:Exit->Act->World->Prop) (a:Act) (w:World):Option Code->Prop
  | none=>Q .normal a w
  | some c=>c.wpIn F 0 P Q a w
theorem O0 {j:Option Code} (h:yL j σ=some (e,σ')):σ'=σ/\∀ (F:Fence) (Q:Exit->Act->World->Prop) (a:Act) (w:World),Q e a w->Mr P F Q a w j:=by
  unfold yL at h
  split at h<;>first
    | (cases h;done)
    | (simp only [Option.some.injEq,Prod.mk.injEq] at h
       obtain ⟨rfl,rfl⟩:=h
       refine ⟨rfl,?_⟩
       intro F Q a w hq
       first
        | exact hq
        | exact wpIn_ret hq
        | exact wpIn_exit hq
        | exact wpIn_goto hq)
end
end Go.Abs
end
noncomputable section
namespace Go.Abs
section
variable {P : Program} {Γ : bz} {fs : fb} {ro : Option Nat} {σ σ' σ'' : St} {e : Exit} {F G : Nat → Prop} {i : Nat → Nat} {a : Act} {w : World} {H H' : af}
theorem ba.uU (hH:ba F G i H w.heap) {l:Nat} {L:oD} (h:H.get l=some (.loop L)):
  ∃ (fn:FuncId) (t:Array Value),w.heap[i l]?=some (.loop { state:=L.state,pending:=L.pending,fn:=fn,tmps:=t,params:=L.params,assign:=L.assign,body:=L.body,defers:=i L.defers })/\
   ay ⟨F,w.heap,i,H.n⟩ L.tmps t.toList/\L.defers<H.n:=by
 obtain ⟨o,ho,hr⟩:=hH.row l _ h
 cases hr with
 | loop _ fn t ht hd=>exact ⟨fn,t,ho,ht,hd⟩
theorem ba.lB (hH:ba F G i H w.heap) {l:Nat} {L:oD} (h:H.get l=some (.loop L)) (dm:H.fH<=l) (st:LoopState) (bx:Option Code) {fn:FuncId} {t:Array Value}
  (ht:ay ⟨F,w.heap,i,H.n⟩ L.tmps t.toList) (hd:L.defers<H.n):
  ba F G i (H.ij l (.loop { L with state:=st,pending:=bx })) (w.putObj (i l) (.loop { state:=st,pending:=bx,fn:=fn,tmps:=t,params:=L.params,assign:=L.assign,body:=L.body,defers:=i L.defers })).heap/\
   Ext H.n F G i w F i (w.putObj (i l) (.loop { state:=st,pending:=bx,fn:=fn,tmps:=t,params:=L.params,assign:=L.assign,body:=L.body,defers:=i L.defers })):=by
 obtain ⟨fn0,t0,ho,ht0,Tx⟩:=hH.uU h
 have le:∀ o',Env.le ⟨F,w.heap,i,H.n⟩ ⟨F,w.heap.setIfInBounds (i l) o',i,H.n⟩:=by
  intro o'
  refine ⟨fun _ h=>h,fun b hb=>?_,Nat.le_refl _,fun _ _=>rfl,fun b c e z hc=>?_⟩
  ·rw [Array.getElem?_setIfInBounds,if_neg]
   rintro rfl
   exact (hH.out l _ h).1 hb
  ·rw [Array.getElem?_setIfInBounds,if_neg]
   ·exact ⟨c,e,z,hc,Nat.le_refl _⟩
   ·rintro rfl;rw [ho] at hc;cases hc
 exact hH.put h dm _ _ (fun c e z hc=>by rw [ho] at hc;cases hc) (.loop { L with state:=st,pending:=bx } fn t (ht.mono (le _)) hd)
theorem I1 {ps:Array Tmp} {as bd:Code} {H1:af} {l:Nat} {ds:List Nat} (bw:σ.H.rev.length=σ.H.n) (h:fy ro ps as bd σ=some (H1,l,ds)):dD σ.H H1:=by
 unfold fy at h
 split at h
 ·simp only [Option.some.injEq,Prod.mk.injEq] at h
  obtain ⟨rfl,rfl,rfl⟩:=h
  have g1:=(gg.push (H:=σ.H) .deferred).grow bw
  exact g1.trans ((gg.push _).grow g1.ok)
 ·split at h
  ·simp only [Option.some.injEq,Prod.mk.injEq] at h
   obtain ⟨rfl,rfl,rfl⟩:=h
   exact (gg.push _).grow bw
  ·cases h
theorem MT {ps:Array Tmp} {as bd:Code} {H1:af} {l:Nat} {ds:List Nat} (hs:iz Γ F G i σ a w) (h:fy ro ps as bd σ=some (H1,l,ds)) (fn:FuncId):
  ∃ (mk:List Deferred) (w1:World) (i1:Nat->Nat),(Instr.enterLoop fn a.tmps ps as bd (ro.map i)).run P w=.ok (i1 l,mk) w1/\ba F G i1 H1 w1.heap/\Ext σ.H.n F G i w F i1 w1/\σ.H.n<=H1.n/\
   l<H1.n/\(∀ r∈ds,r<H1.n)/\mk++a.defers=ds.map (mark i1):=by
 unfold fy at h
 split at h
 ·simp only [Option.some.injEq,Prod.mk.injEq] at h
  obtain ⟨rfl,rfl,rfl⟩:=h
  have e1:=iG (K:=σ.H.n) (F:=F) (G:=G) (i:=i) (w:=w) (.deferred (some [])) hs.heap.cn σ.H.n w.heap.size (Nat.le_refl _)
  have h1:=hs.heap.alloc (.deferred (some [])) .deferred .deferred
  let w1:=w.alloc (.deferred (some []))
  let i1:=Abs.put i σ.H.n w.heap.size
  have fI:w1.heap.size=w.heap.size+1:=by simp [w1]
  let L:oD:={ state:=.ready,pending:=none,tmps:=σ.tmps,params:=ps,assign:=as,body:=bd,defers:=σ.H.n }
  let o:Obj:=.loop { state:=.ready,pending:=none,fn:=fn,tmps:=a.tmps,params:=ps,assign:=as,body:=bd,defers:=w.heap.size }
  have e2:=iG (K:=σ.H.n+1) (F:=F) (G:=G) (i:=i1) (w:=w1) o h1.cn (σ.H.n+1) w1.heap.size (Nat.le_refl _)
  have ee:=e1.trans e2 (Nat.le_succ _)
  have h2:=h1.alloc o (.loop L) (by
   have hd:L.defers<σ.H.n+1+1:=by show σ.H.n<_;omega
   have:=d_.loop (E:=⟨F,(w1.alloc o).heap,Abs.put i1 (σ.H.n+1) w1.heap.size,σ.H.n+1+1⟩) L fn a.tmps (hs.tmps.mono (ee.le (Nat.le_refl _) (by omega))) hd
   have hi:Abs.put i1 (σ.H.n+1) w1.heap.size σ.H.n=w.heap.size:=by rw [bD (by omega)];exact aH
   simp only [L,hi] at this
   exact this)
  refine ⟨[{ target:=.collected w.heap.size,args:=#[] }],_,_,?_,h2,ee,by simp;omega,by simp,?_,?_⟩
  ·rw [Option.map_none,run_enterLoop_outer]
   have hi:Abs.put i1 (σ.H.push .deferred).n w1.heap.size (σ.H.n+1)=w.heap.size+1:=by
    show Abs.put i1 (σ.H.n+1) w1.heap.size (σ.H.n+1)=_
    rw [aH,fI]
   rw [hi]
  ·intro r hr
   rcases List.mem_cons.1 hr with rfl | hr
   ·simp;omega
   ·have:=hs.mZ r hr;simp;omega
  ·rw [hs.defers]
   simp only [List.map_cons,List.singleton_append,List.cons.injEq]
   refine ⟨?_,List.map_congr_left fun r hr=>?_⟩
   ·unfold mark
    have:Abs.put i1 (σ.H.push .deferred).n w1.heap.size σ.H.n=w.heap.size:=by
     show Abs.put i1 (σ.H.n+1) w1.heap.size σ.H.n=_
     rw [bD (by omega)];exact aH
    rw [this]
   ·exact congrArg (fun b=>({ target:=.collected b,args:=#[] }:Deferred)) (ee.same r (hs.mZ r hr)).symm
 ·rename_i l0
  split at h
  ·rename_i L0 F6
   simp only [Option.some.injEq,Prod.mk.injEq] at h
   obtain ⟨rfl,rfl,rfl⟩:=h
   obtain ⟨fn0,t0,ho,ht0,Tx⟩:=hs.heap.uU F6
   let L:oD:={ state:=.ready,pending:=none,tmps:=σ.tmps,params:=ps,assign:=as,body:=bd,defers:=L0.defers }
   let o:Obj:=.loop { state:=.ready,pending:=none,fn:=fn,tmps:=a.tmps,params:=ps,assign:=as,body:=bd,defers:=i L0.defers }
   have ee:=iG (K:=σ.H.n) (F:=F) (G:=G) (i:=i) (w:=w) o hs.heap.cn σ.H.n w.heap.size (Nat.le_refl _)
   have h2:=hs.heap.alloc o (.loop L) (by
    have:=d_.loop (E:=⟨F,(w.alloc o).heap,Abs.put i σ.H.n w.heap.size,σ.H.n+1⟩) L fn a.tmps (hs.tmps.mono (ee.le (Nat.le_refl _) (by omega))) (Nat.lt_succ_of_lt Tx)
    have hi:Abs.put i σ.H.n w.heap.size L0.defers=i L0.defers:=bD Tx
    simp only [L,hi] at this
    exact this)
   refine ⟨[],_,_,?_,h2,ee,by simp,by simp,?_,?_⟩
   ·unfold Instr.enterLoop
    simp only [Option.map_some,Sem.run_bind,run_getLoop ho,Result.andThen_ok,Sem.run_pure,run_newObj_alloc]
    rw [aH]
   ·intro r hr;have:=hs.mZ r hr;simp;omega
   ·rw [List.nil_append,hs.defers]
    refine List.map_congr_left fun r hr=>?_
    unfold mark
    rw [ee.same r (hs.mZ r hr)]
  ·cases h
theorem MH (cI:eC P Γ fs) {g:Operand} {ps:Array Tmp} {as bd:Code} (h:lX Γ fs ro g ps as bd σ=some (e,σ')):de P Γ ro (.rangeFunc g ps as bd) σ e σ':=by
 unfold lX at h
 split at h
 ·rename_i f first cap hg
  split at h
  ·rename_i H1 l ds cA
   split at h
   ·rename_i y H2 Lb
    split at h
    ·rename_i L hL
     have hc:=cI.call _ _ _ _ _ Lb
     have rest:L.state≠.busy/\H2.fH<=l/\yL L.pending { σ with H:=H2.ij l (.loop { L with state:=.exhausted }),defers:=ds }=some (e,σ'):=by
      split at h
      ·cases h
      ·rename_i ek
       split at h
       ·rename_i dm;exact ⟨ek,dm,h⟩
       ·cases h
     obtain ⟨abK,dm,hj⟩:=rest
     obtain ⟨rfl,abL⟩:=O0 (P:=P) hj
     refine ⟨fun bw=>?_,fun F G i a w Q hs hl hq=>?_⟩
     ·have g1:=I1 bw cA
      have g2:=hc.grow g1.ok
      exact (g1.trans g2).trans ((gg.ij l _ _ hL).grow g2.ok)
     ·refine wpIn_rangeFunc fun fn _=>?_
      obtain ⟨mk,w1,i1,cc,OE,he1,l8,VT,Ty,hmk⟩:=MT (P:=P) hs cA fn
      have Cc:Env.le ⟨F,w.heap,i,σ.H.n⟩ ⟨F,w1.heap,i1,H1.n⟩:=he1.le (Nat.le_refl _) l8
      have dG:=yN hs.tmps hs.dx g
      rw [hg] at dG
      have dG:=dG.mono Cc
      generalize hfv:a.eval g=fv at dG
      cases dG with
      | func _ _ _ cX nU k1 k2 kf kc=>
       obtain ⟨fn',I2,MU,hf3⟩:=hc.fn
       have cW:ay ⟨F,w1.heap,i1,H1.n⟩ (first++[.yield l]++cap) (cX++#[Value.func (.yield (i1 l)) #[] #[]]++nU).toList:=by
        have e:(cX++#[Value.func (.yield (i1 l)) #[] #[]]++nU).toList=cX.toList++[Value.func (.yield (i1 l)) #[] #[]]++nU.toList:=by simp
        rw [e]
        refine ay.append (ay.append ⟨by simpa using k1,fun j x v p q=>kf j x v p (by simpa using q)⟩ (ay.cons (.yield l VT) ay.nil)) ⟨by simpa using k2,fun j x v p q=>kc j x v p (by simpa using q)⟩
       refine ⟨i1 l,mk,w1,{ target:=.fn (.func f) nU,args:=cX++#[Value.func (.yield (i1 l)) #[] #[]] },w1,f,cX++#[Value.func (.yield (i1 l)) #[] #[]]++nU,w1,cc,?_,fun _ _=>trivial,?_,fun hd=>by simp at hd,
        Lf (CallsIn.mono (hc.lu F G i1 w1 _ OE (hs.dx.mono Cc) cW) ?_)⟩
       ·simp only [resolve,hfv,Deferred.ofValue,Sem.run_pure]
        simp [Act.eval]
       ·simp only [invoke]
        exact tt I2 MU hf3 _ _
       ·intro en w3 hen
        cases en with
        | panicked c=>exact hen.elim
        | outgrown=>exact hen.elim
        | returned v=>
         obtain ⟨F2,i2,tu⟩:=hen
         obtain ⟨fn2,t2,xD,ht2,WN⟩:=tu.heap.uU hL
         have WI:i2 l=i1 l:=tu.ext.same l VT
         obtain ⟨WC,WD⟩:=tu.heap.lB hL dm .exhausted L.pending (fn:=fn2) ht2 WN
         have Gd:=run_endLoop (P:=P) xD abK
         rw [WI] at Gd
         refine ⟨_,_,Gd,?_⟩
         have Tt:=(he1.trans tu.ext l8).trans WD (Nat.le_trans l8 tu.le)
         have wS:Env.le ⟨F,w.heap,i,σ.H.n⟩ _:=Tt.le (N':=H2.n) (Nat.le_refl _) (Nat.le_trans l8 tu.le)
         have et:iz Γ F2 G i2 { σ with H:=H2.ij l (.loop { L with state:=.exhausted }),defers:=ds } { a with defers:=mk++a.defers } _:=
          ⟨hs.tmps.mono wS,by
           rw [show ({ a with defers:=mk++a.defers }:Act).defers=mk++a.defers from rfl,hmk]
           refine List.map_congr_left fun r hr=>?_
           unfold mark
           rw [tu.ext.same r (Ty r hr)],fun r hr=>Nat.lt_of_lt_of_le (Ty r hr) tu.le,WC,hs.dx.mono wS⟩
         have hqq:=hq F2 i2 { a with defers:=mk++a.defers } _ et Tt (Nat.le_trans l8 tu.le)
         have:=abL (W (ro.map i)) Q _ _ hqq
         rw [WI] at this
         cases hp:L.pending<;>rw [hp] at this<;>exact this
    ·cases h
   ·cases h
  ·cases h
 ·cases h
end
end Go.Abs
end
noncomputable section
namespace Go.Abs
def gQ:List Nat->af->Option af
 | [],H=>some H
 | d::ds,H=>match H.get d with
  | some .deferred=>if H.fH<=d then gQ ds (H.kill d) else none
  | _=>none
def pR (P:Program) (tmps:List AV) (H:af):ResultVar->Option AV
 | .tmp t=>tmps[t]?
 | .cell a t=>match tmps[a]? with
  | some x=>nN P H t x
  | none=>none
def gh (P:Program) (tmps:List AV) (H:af):List ResultVar->Option (List AV)
 | []=>some []
 | r::rs=>match pR P tmps H r,gh P tmps H rs with
  | some x,some xs=>some (x::xs)
  | _,_=>none
def eV:List AV->AV
 | [x]=>x
 | xs=>.tuple xs
def iE (P:Program) (fn:Func) (σ:St):Option (AV × af):=
 match gQ σ.defers σ.H with
 | some H=>match gh P σ.tmps H fn.results.toList with
  | some xs=>some (eV xs,H)
  | none=>none
 | none=>none
def mA (P:Program) (run:Code->St->Option (Exit × St)) (g:FuncId) (args:List AV) (H:af):Option (AV × af):=
 match P.funcs[g]? with
 | some fn=>match fn.body with
  | some c=>match run c { tmps:=args++List.replicate (fn.ntmps-args.length) (cM undef),H:=H,defers:=[] } with
   | some (.normal,σ)=>iE P fn σ
   | some (.ret,σ)=>iE P fn σ
   | _=>none
  | none=>none
 | none=>none
def gR:List Tmp->List AV->List AV->List AV
 | t::ts,x::xs,tmps=>gR ts xs (tmps.set t x)
 | _,_,tmps=>tmps
def uT (r:Nat) (j:Option Code) (H:af):Option (AV × af):=
 match H.get r with
 | some (.loop L)=>if H.fH<=r then some (.bool j.isNone,H.ij r (.loop { L with state:=if j.isNone then .ready else .done,pending:=j })) else none
 | _=>none
def iD (run:Nat->Code->St->Option (Exit × St)) (r:Nat) (args:List AV) (H:af):Option (AV × af):=
 match H.get r with
 | some (.loop L)=>if args.length=L.params.size then
   match run r L.assign { tmps:=gR L.params.toList args L.tmps,H:=H,defers:=[] } with
   | some (.normal,σ1)=>match σ1.H.get r with
    | some (.loop L1)=>match L1.state with
     | .ready=>if σ1.H.fH<=r then
       match run r L.body { σ1 with H:=σ1.H.ij r (.loop { L1 with state:=.busy }) } with
       | some (.normal,σ2)=>uT r none σ2.H
       | some (.ret,σ2)=>uT r (some .ret) σ2.H
       | some (.exit k,σ2)=>uT r (some (.exit k)) σ2.H
       | some (.goto k,σ2)=>uT r (some (.goto k)) σ2.H
       | _=>none
      else none
     | _=>none
    | _=>none
   | _=>none
  else none
 | _=>none
section
variable {P : Program} {Γ : bz} {fs : fb} {ro : Option Nat} {c x y : Code} {σ σ' σ'' : St} {e : Exit} {F G : Nat → Prop} {i : Nat → Nat} {a : Act} {w : World} {H H' : af} {dr : Array Oper → St → Option St} {lf : Nat}
theorem j7 (hm:P.follows .mixedOrders=true) (cI:eC P Γ fs) (zg:∀ ops σ σ',dr ops σ=some σ'->qZ P Γ ops σ σ'):
  ∀ (c:Code) (σ:St) (e:Exit) (σ':St),aV P Γ fs dr lf ro c σ=some (e,σ')->de P Γ ro c σ e σ':=by
 intro c
 induction c with
 | skip=>intro σ e σ' h;simp only [aV,Option.some.injEq,Prod.mk.injEq] at h;obtain ⟨rfl,rfl⟩:=h;exact .pure wpIn_skip
 | label l=>intro σ e σ' h;simp only [aV,Option.some.injEq,Prod.mk.injEq] at h;obtain ⟨rfl,rfl⟩:=h;exact .pure wpIn_label
 | exit id=>intro σ e σ' h;simp only [aV,Option.some.injEq,Prod.mk.injEq] at h;obtain ⟨rfl,rfl⟩:=h;exact .pure wpIn_exit
 | goto l=>intro σ e σ' h;simp only [aV,Option.some.injEq,Prod.mk.injEq] at h;obtain ⟨rfl,rfl⟩:=h;exact .pure wpIn_goto
 | ret=>intro σ e σ' h;simp only [aV,Option.some.injEq,Prod.mk.injEq] at h;obtain ⟨rfl,rfl⟩:=h;exact .pure wpIn_ret
 | refuse s=>intro σ e σ' h;simp [aV] at h
 | scope b ih=>
  intro σ e σ' h
  simp only [aV] at h
  split at h
  ·cases h
  ·rename_i ek
   exact (ih _ _ _ h).scope fun l hl=>ek l σ' (by rw [h,hl])
 | region id ops d=>
  intro σ e σ' h
  simp only [aV] at h
  cases d with
  | false=>
   simp only at h
   split at h
   ·rename_i σ1 h1
    simp only [Option.some.injEq,Prod.mk.injEq] at h;obtain ⟨rfl,rfl⟩:=h
    exact ⟨fun bw=>(uQ cI _ _ _ bw h1).1,fun F G i a w Q hs _ hq=>wpIn_region_list (Tq cI _ _ _ F i a w hs h1 hq)⟩
   ·cases h
  | true=>
   simp only at h
   split at h
   ·rename_i σ1 h1
    simp only [Option.some.injEq,Prod.mk.injEq] at h;obtain ⟨rfl,rfl⟩:=h
    have hd:=zg _ _ _ h1
    exact ⟨hd.grow,fun F G i a w Q hs _ hq=>wpIn_region_any hm (hd.lu _ F G i a _ Q (hs.drew _) fun F' i' a' w' et he hle=>hq F' i' a' w' et ((nY _).trans he (Nat.le_refl _)) hle)⟩
   ·cases h
 | seq x y xz CF=>
  intro σ e σ' h
  simp only [aV] at h
  split at h
  ·rename_i σ1 h1;exact (xz _ _ _ h1).seq (CF _ _ _ h)
  ·rename_i ek
   refine (xz _ _ _ h).Tg ?_
   rintro rfl
   exact ek _ h
 | cond cnd x y xz CF=>
  intro σ e σ' h
  simp only [aV] at h
  split at h
  ·rename_i hc;exact .cond hc (xz _ _ _ h)
  ·rename_i hc;exact .cond hc (CF _ _ _ h)
  ·cases h
 | block id x ih=>
  intro σ e σ' h
  simp only [aV] at h
  split at h
  ·rename_i k σ1 h1
   have:=(ih _ _ _ h1).block (id:=id)
   split at h
   ·rename_i hk
    simp only [Option.some.injEq,Prod.mk.injEq] at h;obtain ⟨rfl,rfl⟩:=h
    simpa [hk] using this
   ·rename_i hk
    simp only [Option.some.injEq,Prod.mk.injEq] at h;obtain ⟨rfl,rfl⟩:=h
    simpa [hk] using this
  ·rename_i ek
   have:=(ih _ _ _ h).block (id:=id)
   cases e<;>first | exact absurd h (ek _ _) | exact this
 | loop x ih=>intro σ e σ' h;exact OZ (fun σ e σ' h=>ih σ e σ' h) _ _ _ _ h
 | rangeFunc g ps as bd _ _=>intro σ e σ' h;exact MH cI h
theorem ba.shut (hH:ba F G i H w.heap) {d:Nat} (h:H.get d=some .deferred) (dm:H.fH<=d):
  ba F G i (H.kill d) (w.putObj (i d) (.deferred none)).heap/\Ext H.n F G i w F i (w.putObj (i d) (.deferred none)):=by
 obtain ⟨o,ho,hr⟩:=hH.row d _ h
 have cC:=af.cT h
 cases hr
 have aP:∀ b,b≠i d->(w.putObj (i d) (.deferred none)).heap[b]?=w.heap[b]?:=fun b hb=>World.putObj_heap_other hb
 have ext:Ext H.n F G i w F i (w.putObj (i d) (.deferred none)):=by
  refine ⟨fun _ h=>h,fun b hb=>aP b ?_,by simp,fun b c e z hc=>?_,fun _ _=>rfl,rfl,rfl,rfl⟩
  ·rintro rfl
   have:=hH.out d _ h
   exact hb.elim this.1 this.2
  ·refine ⟨c,e,z,?_,Nat.le_refl _⟩
   rw [aP b (by rintro rfl;rw [ho] at hc;cases hc)]
   exact hc
 have hk:=hH.kill cC
 refine ⟨⟨fun r row hr=>?_,hk.out,hk.inj,fun b hb=>by simpa using hH.cn b hb,hH.apart,hk.ok⟩,ext⟩
 obtain ⟨o2,xD,Tr⟩:=hk.row r row hr
 refine ⟨o2,?_,Tr.mono (ext.le (Nat.le_refl _) (Nat.le_refl _))⟩
 rw [aP,xD]
 intro e
 rw [af.fa hH.ok cC] at hr
 split at hr
 ·cases hr
 ·rename_i ek;exact ek (hH.inj r d row _ hr h e)
def ow (bl:Array Value) (r:ResultVar):Sem Value:=
 match r with
 | .tmp t=>pure (bl.getD t undef)
 | .cell a t=>do loadVar t (←asAddr (bl.getD a undef))
theorem IM (fn:Func) (bl:Array Value):results fn bl=(do
  let vs←fn.results.mapM (ow bl)
  pure (if h:vs.size=1 then vs[0] else .tuple vs)):=by
 unfold results
 congr 1
theorem F_ (hH:ba F G i H w.heap) {tmps:List AV} {bl:Array Value} (ht:ay ⟨F,w.heap,i,H.n⟩ tmps bl.toList) {r:ResultVar} {y:AV} (h:pR P tmps H r=some y):
  ∃ v,(ow bl r).run P w=.ok v w/\ao ⟨F,w.heap,i,H.n⟩ y v:=by
 cases r with
 | tmp t=>
  simp only [pR] at h
  obtain ⟨v,hv,hr⟩:=ht.get h
  refine ⟨v,?_,hr⟩
  have:bl.getD t undef=v:=by rw [Array.getD_eq_getD_getElem?];rw [Array.getElem?_toList] at hv;rw [hv];rfl
  simp [ow,this]
 | cell b t=>
  simp only [pR] at h
  split at h
  ·rename_i x hx
   obtain ⟨v,hv,hr⟩:=ht.get hx
   have e:bl.getD b undef=v:=by rw [Array.getD_eq_getD_getElem?];rw [Array.getElem?_toList] at hv;rw [hv];rfl
   obtain ⟨u,hu,W3⟩:=CG (P:=P) hH hr h
   refine ⟨u,?_,W3⟩
   simp only [ow,e]
   unfold Instr.loadAt Instr.sureAddr at hu
   unfold asAddr
   cases v with
   | pointer p=>
    cases p with
    | some ad=>simpa using hu
    | none=>simp [stuck,Sem.run_bind] at hu
   | _=>simp [stuck,Sem.run_bind] at hu
  ·cases h
theorem DO (hH:ba F G i H w.heap) {tmps:List AV} {bl:Array Value} (ht:ay ⟨F,w.heap,i,H.n⟩ tmps bl.toList):∀ {rs:List ResultVar} {ys:List AV},gh P tmps H rs=some ys->
  ∃ vs,(rs.mapM (ow bl)).run P w=.ok vs w/\ay ⟨F,w.heap,i,H.n⟩ ys vs:=by
 intro rs
 induction rs with
 | nil=>intro ys h;simp only [gh,Option.some.injEq] at h;subst h;exact ⟨[],by simp,ay.nil⟩
 | cons r rs ih=>
  intro ys h
  simp only [gh] at h
  split at h
  ·rename_i x xs hx W5
   simp only [Option.some.injEq] at h;subst h
   obtain ⟨v,hv,hr⟩:=F_ (P:=P) hH ht hx
   obtain ⟨vs,jJ,xE⟩:=ih W5
   refine ⟨v::vs,?_,ay.cons hr xE⟩
   simp only [List.mapM_cons,Sem.run_bind,hv,Result.andThen_ok,jJ,Sem.run_pure]
  ·cases h
theorem Ga (hH:ba F G i H w.heap) {tmps:List AV} {bl:Array Value} (ht:ay ⟨F,w.heap,i,H.n⟩ tmps bl.toList) {fn:Func} {ys:List AV} (h:gh P tmps H fn.results.toList=some ys):
  ∃ v,(results fn bl).run P w=.ok v w/\ao ⟨F,w.heap,i,H.n⟩ (eV ys) v:=by
 obtain ⟨vs,jJ,xE⟩:=DO (P:=P) hH ht h
 have cc:∀ (f:ResultVar->Sem Value),(fn.results.toList.mapM f).run P w=.ok vs w->(fn.results.mapM f).run P w=.ok vs.toArray w:=by
  intro f hf
  rw [Array.mapM_eq_mapM_toList,Sem.run_map,hf]
  rfl
 refine ⟨if h:vs.toArray.size=1 then vs.toArray[0] else .tuple vs.toArray,?_,?_⟩
 ·rw [IM,Sem.run_bind,cc _ jJ]
  rfl
 ·unfold eV
  split
  ·rename_i x
   match vs,xE with
   | [v],xE=>exact xE.2 0 x v rfl rfl
   | [],xE=>exact absurd xE.1 (by simp)
   | _::_::_,xE=>exact absurd xE.1 (by simp)
  ·rename_i ek
   have:¬ vs.toArray.size=1:=by
    intro hl
    have hl2:ys.length=1:=by rw [xE.1];simpa using hl
    match ys,hl2 with
    | [x],_=>exact ek x rfl
   rw [dif_neg this]
   exact .tuple _ _ (by rw [xE.1];simp) (fun j x v p q=>xE.2 j x v p (by simpa using q))
end
end Go.Abs
end
noncomputable section
namespace Go.Abs
section
variable {P : Program} {Γ : bz} {fs : fb} {ro : Option Nat} {c x y : Code} {σ σ' σ'' : St} {e : Exit} {F G : Nat → Prop} {i : Nat → Nat} {a : Act} {w : World} {H H' : af} {dr : Array Oper → St → Option St} {lf : Nat}
theorem MI (bw:H.rev.length=H.n) {d:Nat} (hd:d<H.n):dD H (H.kill d):=by
 refine ⟨by simp [af.kill,bw],by simp,rfl,fun s ro hs h=>?_⟩
 rw [af.fa bw hd] at h
 split at h
 ·cases h
 ·exact ⟨ro,h⟩
theorem tf:∀ (ds:List Nat) (H H':af),H.rev.length=H.n->gQ ds H=some H'->dD H H'/\H'.n=H.n:=by
 intro ds
 induction ds with
 | nil=>intro H H' bw h;simp only [gQ,Option.some.injEq] at h;subst h;exact ⟨dD.refl bw,rfl⟩
 | cons d ds ih=>
  intro H H' bw h
  simp only [gQ] at h
  split at h
  ·rename_i hd
   split at h
   ·have g1:=MI bw (af.cT hd)
    obtain ⟨g2,hn⟩:=ih _ _ g1.ok h
    exact ⟨g1.trans g2,by rw [hn];rfl⟩
   ·cases h
  ·cases h
theorem MJ {fn:Func} {tmps:List AV} {bl:Array Value} {xs:List AV} {R:Ending->World->Prop}:∀ (ds:List Nat) (H H':af) (w:World),ba F G i H w.heap->ay ⟨F,w.heap,i,H.n⟩ tmps bl.toList->
  gQ ds H=some H'->gh P tmps H' fn.results.toList=some xs->
  (∀ v w',ba F G i H' w'.heap->Ext H.n F G i w F i w'->ao ⟨F,w'.heap,i,H'.n⟩ (eV xs) v->R (.returned v) w')->LeavesInM (W none) 0 P fn bl R (ds.map (mark i)) .returning w:=by
 intro ds
 induction ds with
 | nil=>
  intro H H' w hH ht h hx hR
  simp only [gQ,Option.some.injEq] at h;subst h
  obtain ⟨v,hv,hr⟩:=Ga (P:=P) hH ht hx
  exact ⟨v,hv,hR v w hH (Ext.refl _ _ _ _ _) hr⟩
 | cons d ds ih=>
  intro H H' w hH ht h hx hR
  simp only [gQ] at h
  split at h
  ·rename_i hd
   split at h
   ·rename_i dm
    obtain ⟨h1,h2⟩:=hH.shut hd dm
    obtain ⟨o,ho,uJ⟩:=hH.row d _ hd
    cases uJ
    refine ⟨by simp,.inl ⟨i d,_,rfl,run_takeDeferred ho,?_⟩⟩
    refine ih _ _ _ h1 (ht.mono (h2.le (Nat.le_refl _) (Nat.le_refl _))) h hx fun v w' k1 k2 k3=>hR v w' k1 (h2.trans k2 (Nat.le_refl _)) k3
   ·cases h
  ·cases h
theorem MK {fn:Func} {yv:AV} (h:iE P fn σ=some (yv,H')) {R:Ending->World->Prop} (hs:iz Γ F G i σ a w)
  (hR:∀ v w',wI F G i σ.H w yv H' v w' F i->R (.returned v) w'):LeavesInM (W none) 0 P fn a.tmps R a.defers .returning w:=by
 unfold iE at h
 split at h
 ·rename_i H1 hu
  split at h
  ·rename_i xs hx
   simp only [Option.some.injEq,Prod.mk.injEq] at h
   obtain ⟨rfl,rfl⟩:=h
   rw [hs.defers]
   have hn:=(tf _ _ _ hs.heap.ok hu).2
   exact MJ _ _ _ _ hs.heap hs.tmps hu hx fun v w' k1 k2 k3=>hR v w' ⟨k3,k1,k2,by omega⟩
  ·cases h
 ·cases h
theorem Gb {fn:Func} {yv:AV} (bw:σ.H.rev.length=σ.H.n) (h:iE P fn σ=some (yv,H')):dD σ.H H':=by
 unfold iE at h
 split at h
 ·rename_i H1 hu
  split at h
  ·simp only [Option.some.injEq,Prod.mk.injEq] at h
   obtain ⟨rfl,rfl⟩:=h
   exact (tf _ _ _ bw hu).1
  ·cases h
 ·cases h
def ja (P : Program) : Prop := ∀ (g : FuncId) (fn : Func), P.funcs[g]? = some fn → fn.body.isSome = true → fn.name ≠ "runtime.NumGoroutine"
theorem ov (fK:ja P) {run:Code->St->Option (Exit × St)} (cc:∀ c σ e σ',run c σ=some (e,σ')->de P Γ none c σ e σ') {g:FuncId} {args:List AV} {yv:AV}
  (h:mA P run g args H=some (yv,H')):CallOk P Γ g args H yv H':=by
 unfold mA at h
 split at h
 ·rename_i fn K5
  split at h
  ·rename_i c hc
   have both:∃ e σ,run c { tmps:=args++List.replicate (fn.ntmps-args.length) (cM undef),H:=H,defers:=[] }=some (e,σ)/\iE P fn σ=some (yv,H')/\(e=.normal\/e=.ret):=by
    split at h
    ·rename_i σ hr;exact ⟨_,σ,hr,h,.inl rfl⟩
    ·rename_i σ hr;exact ⟨_,σ,hr,h,.inr rfl⟩
    ·cases h
   obtain ⟨e,σ,hr,hl,he⟩:=both
   have VN:=cc _ _ _ _ hr
   refine ⟨fun bw=>?_,⟨fn,K5,by simp [hc],fK g fn K5 (by simp [hc])⟩,fun F G i w ai hH hg cW=>?_⟩
   ·have g1:=VN.grow bw
    exact g1.trans (Gb g1.ok hl)
   ·refine callsIn_of_wp_marks K5 hc trivial ?_
    have fI:args.length=ai.size:=by rw [cW.1];simp
    have hs:iz Γ F G i { tmps:=args++List.replicate (fn.ntmps-args.length) (cM undef),H:=H,defers:=[] } { tmps:=ai++Array.replicate (fn.ntmps-ai.size) undef,defers:=[] } w:=by
     refine ⟨?_,rfl,fun r hr=>by simp at hr,hH,hg⟩
     show ay _ _ (ai++Array.replicate (fn.ntmps-ai.size) undef).toList
     rw [Array.toList_append,Array.toList_replicate,←fI]
     exact cW.append (ay.replicate (sW _ _) _)
    refine VN.lu F G i _ w _ hs (fun l h=>by cases h) fun F' i' a' w' et hx hle=>?_
    have:=MK (R:=Ret F G i H w yv H') hl et fun v w2 dG=>⟨F',i',dG.val,dG.heap,hx.trans dG.ext hle,Nat.le_trans hle dG.le⟩
    rcases he with rfl | rfl<;>exact this
  ·cases h
 ·cases h
theorem Gc {E:Env}:∀ (ts:List Tmp) (xs:List AV) (vs:List Value) (tmps:List AV) (bl:Array Value),ay E xs vs->ay E tmps bl.toList->
  ay E (gR ts xs tmps) ((ts.zip vs).foldl (fun (t:Array Value) (p:Tmp × Value)=>t.setIfInBounds p.1 p.2) bl).toList:=by
 intro ts
 induction ts with
 | nil=>intro xs vs tmps bl hx ht;cases xs<;>simpa [gR] using ht
 | cons t ts ih=>
  intro xs vs tmps bl hx ht
  match xs,vs,hx with
  | [],[],hx=>simpa [gR] using ht
  | [],_::_,hx=>exact absurd hx.1 (by simp)
  | _::_,[],hx=>exact absurd hx.1 (by simp)
  | x::xs,v::vs,hx=>
   simp only [gR,List.zip_cons_cons,List.foldl_cons]
   refine ih xs vs _ _ ⟨by simpa using hx.1,fun j a b p q=>hx.2 (j+1) a b (by simpa using p) (by simpa using q)⟩ ?_
   have:=ht.set t (hx.2 0 x v rfl rfl)
   simpa using this
theorem Ts {r:Nat} {j:Option Code} {yv:AV} (hH:ba F G i H w.heap) (h:uT r j H=some (yv,H')):
  ∃ v w',(Instr.endRound (i r) j).run P w=.ok v w'/\wI F G i H w yv H' v w' F i:=by
 unfold uT at h
 split at h
 ·rename_i L hL
  split at h
  ·rename_i dm
   simp only [Option.some.injEq,Prod.mk.injEq] at h
   obtain ⟨rfl,rfl⟩:=h
   obtain ⟨fn,t,ho,ht,hd⟩:=hH.uU hL
   obtain ⟨h1,h2⟩:=hH.lB hL dm (if j.isNone then .ready else .done) j (fn:=fn) ht hd
   exact ⟨_,_,run_endRound j ho,.bool _,h1,h2,Nat.le_refl _⟩
  ·cases h
 ·cases h
theorem ML {r:Nat} {j:Option Code} {yv:AV} (bw:H.rev.length=H.n) (h:uT r j H=some (yv,H')):dD H H':=by
 unfold uT at h
 split at h
 ·rename_i L hL
  split at h
  ·simp only [Option.some.injEq,Prod.mk.injEq] at h
   obtain ⟨rfl,rfl⟩:=h
   exact (gg.ij r _ _ hL).grow bw
  ·cases h
 ·cases h
def DP:Exit->Option (Option Code)
 | .normal=>some none
 | .ret=>some (some .ret)
 | .exit k=>some (some (.exit k))
 | .goto k=>some (some (.goto k))
 | _=>none
theorem DQ {run:Nat->Code->St->Option (Exit × St)} {r:Nat} {args:List AV} {yv:AV} (h:iD run r args H=some (yv,H')):
  ∃ L σ1 L1 e σ2 j,H.get r=some (.loop L)/\args.length=L.params.size/\run r L.assign { tmps:=gR L.params.toList args L.tmps,H:=H,defers:=[] }=some (.normal,σ1)/\
   σ1.H.get r=some (.loop L1)/\L1.state=.ready/\σ1.H.fH<=r/\run r L.body { σ1 with H:=σ1.H.ij r (.loop { L1 with state:=.busy }) }=some (e,σ2)/\DP e=some j/\uT r j σ2.H=some (yv,H'):=by
 unfold iD at h
 split at h
 ·rename_i L hL
  split at h
  ·rename_i cW
   split at h
   ·rename_i σ1 h1
    split at h
    ·rename_i L1 Ph
     split at h
     ·rename_i na
      split at h
      ·rename_i dm
       split at h
       ·rename_i σ2 h2;exact ⟨L,σ1,L1,_,σ2,_,hL,cW,h1,Ph,na,dm,h2,rfl,h⟩
       ·rename_i σ2 h2;exact ⟨L,σ1,L1,_,σ2,_,hL,cW,h1,Ph,na,dm,h2,rfl,h⟩
       ·rename_i k σ2 h2;exact ⟨L,σ1,L1,_,σ2,_,hL,cW,h1,Ph,na,dm,h2,rfl,h⟩
       ·rename_i k σ2 h2;exact ⟨L,σ1,L1,_,σ2,_,hL,cW,h1,Ph,na,dm,h2,rfl,h⟩
       ·cases h
      ·cases h
     ·cases h
    ·cases h
   ·cases h
  ·cases h
 ·cases h
theorem pQ {run:Nat->Code->St->Option (Exit × St)} (cc:∀ r c σ e σ',run r c σ=some (e,σ')->de P Γ (some r) c σ e σ') {r:Nat} {args:List AV} {yv:AV}
  (h:iD run r args H=some (yv,H')):Lc P Γ r args H yv H':=by
 obtain ⟨L,σ1,L1,e,σ2,j,hL,cW,h1,Ph,na,dm,h2,hj,Gd⟩:=DQ h
 have c1:=cc _ _ _ _ _ h1
 have c2:=cc _ _ _ _ _ h2
 refine ⟨fun bw=>?_,fun F G i w ai hH hg hA=>?_⟩
 ·have g1:=c1.grow bw
  have g2:=(gg.ij r _ _ Ph (H:=σ1.H)).grow (H':=σ1.H.ij r (.loop { L1 with state:=.busy })) g1.ok
  have g3:=c2.grow g2.ok
  exact ((g1.trans g2).trans g3).trans (ML g3.ok Gd)
 ·obtain ⟨fn,t,ho,ht,hd⟩:=hH.uU hL
  have fI:ai.size=L.params.size:=by have:=hA.1;simp at this;omega
  refine ⟨_,_,_,_,run_yield (P:=P) ho fI,?_⟩
  refine roundIn_of_wpIn trivial ?_
  have DH:=af.cT hL
  have hs:iz Γ F G i { tmps:=gR L.params.toList args L.tmps,H:=H,defers:=[] }
    { tmps:=(L.params.zip ai).foldl (fun tmps (t,a)=>tmps.setIfInBounds t a) t,defers:=[] } w:=by
   refine ⟨?_,rfl,fun r hr=>by simp at hr,hH,hg⟩
   have:=Gc L.params.toList args ai.toList L.tmps t hA ht
   rw [←Array.foldl_toList]
   rw [Array.toList_zip]
   exact this
  refine c1.lu F G i _ w _ hs (fun l h=>by cases h;exact DH) fun F1 i1 a1 w1 B0 he1 l8=>?_
  obtain ⟨fn1,t1,ho1,ht1,VO⟩:=B0.heap.uU Ph
  have VP:i1 r=i r:=he1.same r DH
  rw [VP] at ho1
  refine ⟨_,run_beginRound ho1 na,?_⟩
  obtain ⟨k1,k2⟩:=B0.heap.lB Ph dm .busy L1.pending (fn:=fn1) ht1 VO
  rw [VP] at k1 k2
  have wN:Env.le ⟨F1,w1.heap,i1,σ1.H.n⟩ _:=k2.le (N':=σ1.H.n) (Nat.le_refl _) (Nat.le_refl _)
  have CE:iz Γ F1 G i1 { σ1 with H:=σ1.H.ij r (.loop { L1 with state:=.busy }) } a1 _:=
   ⟨B0.tmps.mono wN,B0.defers,B0.mZ,k1,B0.dx.mono wN⟩
  have W6:(W none).inRound (i r)=W ((some r).map i1):=by simp [W,Fence.inRound,VP]
  rw [W6]
  refine c2.lu F1 G i1 a1 _ _ CE (fun l h=>by cases h;exact Nat.lt_of_lt_of_le DH l8) fun F2 i2 a2 w2 hs3 he3 abG=>?_
  have WI:i2 r=i r:=by rw [he3.same r (Nat.lt_of_lt_of_le DH l8),VP]
  obtain ⟨v,w3,VQ,dG⟩:=Ts (P:=P) hs3.heap Gd
  rw [WI] at VQ
  have Tt:=((he1.trans k2 l8).trans he3 l8).trans dG.ext (Nat.le_trans l8 abG)
  have aex:Ret F G i H w yv H' (.returned v) w3:=⟨F2,i2,dG.val,dG.heap,Tt,Nat.le_trans (Nat.le_trans l8 abG) dG.le⟩
  cases e<;>simp only [DP,Option.some.injEq,reduceCtorEq] at hj<;>subst hj<;>exact ⟨v,w3,VQ,aex⟩
end
end Go.Abs
end
noncomputable section
namespace Go.Abs
def mu (j:Nat) (acc:List Nat):List Edge->Nat->Option Nat
 | [],m=>some m
 | e::es,m=>match Region.binds .any e with
  | true=>if e.on<j then mu j acc es (m|||2 ^ e.on|||acc.getD (j-1-e.on) 0) else none
  | false=>mu j acc es m
def lY:List Oper->Nat->List Nat->Option (List Nat)
 | [],_,acc=>some acc.reverse
 | o::os,j,acc=>match mu j acc o.after.toList 0 with
  | some m=>lY os (j+1) (m::acc)
  | none=>none
def iX (Ms:List Nat) (j k:Nat):Bool:=
 if k<j then (Ms.getD j 0).testBit k else if j<k then (Ms.getD k 0).testBit j else true
def dN (Ms:List Nat) (t:Tmp) (j:Nat):List (Option Tmp)->Nat->Bool
 | [],_=>true
 | d::ds,k=>(match d with | some u=>if u==t then iX Ms j k else true | none=>true)&&dN Ms t j ds (k+1)
def cV (Ms:List Nat) (all:List (Option Tmp)):List (Option Tmp)->Nat->Bool
 | [],_=>true
 | d::ds,j=>(match d with | some t=>dN Ms t j all 0 | none=>true)&&cV Ms all ds (j+1)
def mw:AV->Bool
 | .bool _ | .int .. | .aL .. | .string _=>true
 | _=>false
structure Rec where
 o:Oper
 ρ:Operand->AV
 y:AV
 H:af
 add:Bool
 fl:Option (AV × List AV)
def bb:List Nat->Nat->Nat->Nat
 | [],_,p=>p
 | m::ms,j,p=>bb ms (j+1) (if m==2 ^ j-1 then p else j+1)
def K3 (j:Nat):List Nat->Bool
 | []=>true
 | m::ms=>!m.testBit j&&K3 j ms
def rf (P:Program) (Ms:List Nat) (j:Nat) (o:Oper):Option AV:=
 match o.op with
 | .alloc t=>match o.guard with
  | none=>if K3 j Ms then zeroOf P t else none
  | some _=>none
 | _=>none
def s8 (P:Program) (fs:fb) (Ms:List Nat) (j:Nat) (o:Oper) (ρ:Operand->AV):Option (AV × List AV):=
 match o.op with
 | .buildSlice t n ps=>match o.guard with
  | none=>if K3 j Ms&&!fs.fz t then
    match bC P { rev:=[],n:=0,fH:=0 } t n (ps.toList.map fun p=>(p.1,ρ p.2)) with
    | some (y,⟨[some (.cells cs)],_,_⟩)=>if cs.all mw then some (y,cs) else none
    | _=>none
   else none
  | some _=>none
 | _=>none
def Cv (P:Program) (fs:fb) (Ms:List Nat) (j:Nat) (o:Oper) (ρ:Operand->AV):Option (AV × List AV):=
 match rf P Ms j o with
 | some z=>some (.ptr 0 0,z.cells)
 | none=>s8 P fs Ms j o ρ
def FT:AV->Nat->AV
 | .slice _ o l e,r=>.slice r o l e
 | _,r=>.ptr r 0
def quietAt (P:Program) (o:Oper):Bool:=
 match o.op with
 | .convert s d _=>!my P s d
 | op=>iU op
def fV (t:Option Tmp) (j:Nat):List (Option Tmp)->Nat->Bool
 | [],_=>true
 | d::ds,k=>(k==j||(match t,d with | some a,some b=>a != b | _,_=>true))&&fV t j ds (k+1)
def gM:Nat->AV->AV->Bool
 | 0,_,_=>false
 | k+1,x,y=>match x,y with
  | .top,.top=>true
  | .bool a,.bool b=>a==b
  | .int q a,.int q' b=>q==q'&&a==b
  | .aL q (some a),.aL q' (some b)=>q==q'&&a==b
  | .string a,.string b=>a.data.toList==b.data.toList
  | .bI,.bI=>true
  | .ptr r o,.ptr r' o'=>r==r'&&o==o'
  | .av,.av=>true
  | .slice r o l e,.slice r' o' l' e'=>r==r'&&o==o'&&l==l'&&e==e'
  | .nilFunc,.nilFunc=>true
  | .nilIface,.nilIface=>true
  | .yield r,.yield r'=>r==r'
  | .map r,.map r'=>r==r'
  | .fB,.fB=>true
  | .aL q none,.aL q' none=>q==q'
  | .agg a,.agg b=>all k a b
  | .tuple a,.tuple b=>all k a b
  | .list n a,.list n' b=>n==n'&&all k a b
  | .nl n a,.nl n' b=>n==n'&&all k a b
  | .dK a n,.dK b n'=>n==n'&&all k a b
  | .iface t a,.iface t' b=>t==t'&&gM k a b
  | .func f a b,.func f' a' b'=>f==f'&&all k a a'&&all k b b'
  | _,_=>false
 where all (k:Nat):List AV->List AV->Bool
 | [],[]=>true
 | x::xs,y::ys=>gM k x y&&all k xs ys
 | _,_=>false
def eA:Op->Bool
 | .move _ | .assign _ | .pick .. | .build .. | .nilCheck _ | .binOp .. | .unOp .. | .makeInterface .. | .makeFunc .. | .fieldAddr .. | .field .. | .indexAddr .. | .index .. | .extract ..=>true
 | .call { callee:=.builtin b,.. }=>match b with
  | .len | .max | .min=>true
  | _=>false
 | _=>false
def aS (H0:af):List Rec->af
 | []=>H0
 | r::rs=>if r.add then r.H else aS H0 rs
def lZ (m:Nat):List Rec->Nat->Bool
 | [],_=>true
 | r::rs,j=>(!r.add||m.testBit (j-1))&&lZ m rs (j-1)
def gN (t:Tmp):List Rec->Option AV
 | []=>none
 | r::rs=>match r.o.dst with
  | some u=>if u==t then some r.y else gN t rs
  | none=>gN t rs
def cK (Γ:bz) (Ms:List Nat) (aC:List (Option Tmp)) (tmps:List AV) (acc:List Rec) (j:Nat):Operand->AV
 | .tmp t=>if dN Ms t j aC 0 then match tmps[t]? with
   | some x=>match gN t acc with
    | some y=>y
    | none=>x
   | none=>.top
  else .top
 | x=>ev Γ tmps x
structure B7 where
 run:Oper->(Operand->AV)->AV->af->Bool
 still:Oper->(Operand->AV)->AV->Bool
instance:CoeFun B7 fun _=>Oper->(Operand->AV)->AV->af->Bool:=⟨B7.run⟩
def uL (P:Program) (fs:fb) (ops:Array Oper):B7:=⟨fun o ρ y H=>quietAt P o&&(match aZ P fs ops ρ H o with
 | some (y',_)=>gM 16 y y'
 | none=>false),fun _ _ _=>false⟩
def gf (fp:B7) (m:Nat) (o:Oper) (ρ:Operand->AV) (y:AV) (H0:af):List Rec->Nat->Bool
 | [],_=>true
 | r::rs,j=>if r.add then (if m.testBit (j-1) then true else fp o ρ y (aS H0 rs)&&gf fp m o ρ y H0 rs (j-1)) else gf fp m o ρ y H0 rs (j-1)
def l6 (fp:B7) (m:Nat) (H:af):List Rec->Nat->Bool
 | [],_=>true
 | r::rs,j=>(r.add||r.fl.isSome||eA r.o.op||m.testBit (j-1)||fp r.o r.ρ r.y H)&&l6 fp m H rs (j-1)
def dF (fp:B7) (P:Program) (Γ:bz) (fs:fb) (ops:Array Oper) (Ms:List Nat) (aC:List (Option Tmp)) (σ:St):List Oper->Nat->List Rec->Option (List Rec)
 | [],_,acc=>some acc
 | o::os,j,acc=>match rf P Ms j o with
  | some z=>match fV o.dst j aC 0 with
   | true=>dF fp P Γ fs ops Ms aC σ os (j+1) (⟨o,cK Γ Ms aC σ.tmps acc j,.top,σ.H,false,some (.ptr 0 0,z.cells)⟩::acc)
   | false=>none
  | none=>match aZ P fs ops (cK Γ Ms aC σ.tmps acc j) (aS σ.H acc) o with
   | some (y,H')=>match quietAt P o with
    | true=>match eA o.op||gf fp (Ms.getD j 0) o (cK Γ Ms aC σ.tmps acc j) y σ.H acc j with
     | true=>dF fp P Γ fs ops Ms aC σ os (j+1) (⟨o,cK Γ Ms aC σ.tmps acc j,y,H',false,none⟩::acc)
     | false=>none
    | false=>match fp.still o (cK Γ Ms aC σ.tmps acc j) y with
     | true=>dF fp P Γ fs ops Ms aC σ os (j+1) (⟨o,cK Γ Ms aC σ.tmps acc j,y,H',false,none⟩::acc)
     | false=>match lZ (Ms.getD j 0) acc j&&l6 fp (Ms.getD j 0) H' acc j with
      | true=>dF fp P Γ fs ops Ms aC σ os (j+1) (⟨o,cK Γ Ms aC σ.tmps acc j,y,H',true,none⟩::acc)
      | false=>match s8 P fs Ms j o (cK Γ Ms aC σ.tmps acc j) with
       | some z=>match fV o.dst j aC 0 with
        | true=>dF fp P Γ fs ops Ms aC σ os (j+1) (⟨o,cK Γ Ms aC σ.tmps acc j,.top,σ.H,false,some z⟩::acc)
        | false=>none
       | none=>none
   | none=>none
def bJ (tmps:List AV):List Rec->List AV
 | []=>tmps
 | r::rs=>dt (bJ tmps rs) r.o.dst r.y
def cf:List Rec->List AV->af->List AV × af
 | [],tmps,H=>(tmps,H)
 | r::rs,tmps,H=>match r.fl with
  | some z=>(dt (cf rs tmps H).1 r.o.dst (FT z.1 (cf rs tmps H).2.n),(cf rs tmps H).2.push (.cells z.2))
  | none=>cf rs tmps H
def m9 (fp:B7) (P:Program) (Γ:bz) (fs:fb) (ops:Array Oper) (σ:St):Option St:=
 match lY ops.toList 0 [] with
 | some Ms=>
  let p:=bb Ms 0 0
  let aC:=(ops.toList.take p).map (·.dst)
  match cV (Ms.take p) aC aC 0 with
  | true=>match dF fp P Γ fs ops (Ms.take p) aC σ (ops.toList.take p) 0 [] with
   | some acc=>match cf acc (bJ σ.tmps acc) (aS σ.H acc) with
    | (tmps,H)=>fc P Γ fs ops (ops.toList.drop p) { σ with tmps:=tmps,H:=H }
   | none=>none
  | false=>none
 | none=>none
def n_ (P:Program) (Γ:bz) (fs:fb) (ops:Array Oper) (σ:St):Option St:=m9 (uL P fs ops) P Γ fs ops σ
end Go.Abs
end
noncomputable section
namespace Go.Abs
theorem B8 {j:Nat} {acc:List Nat}:∀ (es:List Edge) (m r:Nat),mu j acc es m=some r->
  (∀ e∈es,Region.binds .any e=true->e.on<j)/\
  ∀ k,r.testBit k=true↔m.testBit k=true\/∃ e∈es,Region.binds .any e=true/\(k=e.on\/(acc.getD (j-1-e.on) 0).testBit k=true):=by
 intro es
 induction es with
 | nil=>intro m r h;simp only [mu,Option.some.injEq] at h;subst h;simp
 | cons e es ih=>
  intro m r h
  simp only [mu] at h
  split at h
  ·rename_i hb
   split at h
   ·rename_i cC
    obtain ⟨h1,h2⟩:=ih _ _ h
    refine ⟨fun e' gn DJ=>?_,fun k=>?_⟩
    ·rcases List.mem_cons.1 gn with rfl | gn
     ·exact cC
     ·exact h1 e' gn DJ
    ·rw [h2 k]
     simp only [Nat.testBit_or,Bool.or_eq_true,Nat.testBit_two_pow,decide_eq_true_eq,List.mem_cons,exists_eq_or_imp,hb,true_and]
     constructor
     ·rintro (((h | h) | h) | h)
      ·exact .inl h
      ·exact .inr (.inl (.inl h.symm))
      ·exact .inr (.inl (.inr h))
      ·exact .inr (.inr h)
     ·rintro (h | (h | h) | h)
      ·exact .inl (.inl (.inl h))
      ·exact .inl (.inl (.inr h.symm))
      ·exact .inl (.inr h)
      ·exact .inr h
   ·cases h
  ·rename_i hb
   obtain ⟨h1,h2⟩:=ih _ _ h
   refine ⟨fun e' gn DJ=>?_,fun k=>?_⟩
   ·rcases List.mem_cons.1 gn with rfl | gn
    ·rw [hb] at DJ;cases DJ
    ·exact h1 e' gn DJ
   ·rw [h2 k]
    simp only [List.mem_cons,exists_eq_or_imp,hb,Bool.false_eq_true,false_and,false_or]
def oa (Ms:List Nat) (j:Nat) (o:Oper):Prop:=
 (∀ e∈o.after,Region.binds .any e=true->e.on<j)/\
 ∀ k,(Ms.getD j 0).testBit k=true↔∃ e∈o.after,Region.binds .any e=true/\(k=e.on\/(Ms.getD e.on 0).testBit k=true)
theorem wF:∀ (os:List Oper) (j:Nat) (acc Ms:List Nat),lY os j acc=some Ms->acc.length=j->
  Ms.length=j+os.length/\(∀ k,k<j->Ms.getD k 0=acc.getD (j-1-k) 0)/\∀ t o,os[t]?=some o->oa Ms (j+t) o:=by
 intro os
 induction os with
 | nil=>
  intro j acc Ms h hl
  simp only [lY,Option.some.injEq] at h;subst h
  refine ⟨by simp [hl],fun k hk=>?_,fun t o h=>by simp at h⟩
  simp only [List.getD_eq_getElem?_getD]
  rw [List.getElem?_reverse (by omega),hl]
 | cons o os ih=>
  intro j acc Ms h hl
  simp only [lY] at h
  split at h
  ·rename_i m hm
   obtain ⟨h1,h2,h3⟩:=ih (j+1) (m::acc) Ms h (by simp [hl])
   have hold:∀ k,k<j->Ms.getD k 0=acc.getD (j-1-k) 0:=by
    intro k hk
    rw [h2 k (by omega)]
    have:j+1-1-k=(j-1-k)+1:=by omega
    rw [this]
    simp
   refine ⟨by simp [h1];omega,hold,fun t o' ht=>?_⟩
   cases t with
   | zero=>
    simp only [List.getElem?_cons_zero,Option.some.injEq] at ht;subst ht
    obtain ⟨e1,e2⟩:=B8 _ _ _ hm
    have hMj:Ms.getD j 0=m:=by rw [h2 j (by omega)];simp
    refine ⟨fun e he hb=>e1 e (by simpa using he) hb,fun k=>?_⟩
    rw [Nat.add_zero,hMj,e2 k]
    simp only [Nat.zero_testBit,Bool.false_eq_true,false_or,Array.mem_toList_iff]
    constructor
    ·rintro ⟨e,he,hb,h⟩
     refine ⟨e,he,hb,h.imp id fun h=>?_⟩
     rw [hold e.on (e1 e (by simpa using he) hb)];exact h
    ·rintro ⟨e,he,hb,h⟩
     refine ⟨e,he,hb,h.imp id fun h=>?_⟩
     rw [hold e.on (e1 e (by simpa using he) hb)] at h;exact h
   | succ t=>
    have:=h3 t o' (by simpa using ht)
    rwa [show j+1+t=j+(t+1) by omega] at this
  ·cases h
theorem wG:∀ (ms:List Nat) (j p:Nat),p<=j->bb ms j p<=j+ms.length/\p<=bb ms j p/\
  ∀ t m,ms[t]?=some m->bb ms j p<=j+t->m=2 ^ (j+t)-1:=by
 intro ms
 induction ms with
 | nil=>intro j p hp;simp [bb];exact hp
 | cons m ms ih=>
  intro j p hp
  simp only [bb]
  by_cases hm:m=2 ^ j-1
  ·have:(m==2 ^ j-1)=true:=by simpa using hm
   simp only [this,if_true]
   obtain ⟨h1,h2,h3⟩:=ih (j+1) p (by omega)
   refine ⟨by simp;omega,h2,fun t m' ht hle=>?_⟩
   cases t with
   | zero=>simp at ht;subst ht;exact hm
   | succ t=>
    have:=h3 t m' (by simpa using ht) (by omega)
    rwa [show j+1+t=j+(t+1) by omega] at this
  ·have:(m==2 ^ j-1)=false:=by simpa using hm
   simp only [this]
   obtain ⟨h1,h2,h3⟩:=ih (j+1) (j+1) (by omega)
   simp only [Bool.false_eq_true,if_false]
   refine ⟨by simp;omega,by omega,fun t m' ht hle=>?_⟩
   cases t with
   | zero=>omega
   | succ t=>
    have:=h3 t m' (by simpa using ht) (by omega)
    rwa [show j+1+t=j+(t+1) by omega] at this
theorem lz {Ms:List Nat} {t:Tmp} {j:Nat}:∀ (ds:List (Option Tmp)) (k:Nat),dN Ms t j ds k=true->∀ l,ds[l]?=some (some t)->iX Ms j (k+l)=true:=by
 intro ds
 induction ds with
 | nil=>intro k _ l h;simp at h
 | cons d ds ih=>
  intro k h l hl
  simp only [dN,Bool.and_eq_true] at h
  cases l with
  | zero=>
   simp at hl;subst hl
   have:=h.1
   simpa using this
  | succ l=>
   have:=ih (k+1) h.2 l (by simpa using hl)
   rwa [show k+1+l=k+(l+1) by omega] at this
theorem qK {Ms:List Nat} {all:List (Option Tmp)}:∀ (ds:List (Option Tmp)) (j:Nat),cV Ms all ds j=true->∀ l t,ds[l]?=some (some t)->dN Ms t (j+l) all 0=true:=by
 intro ds
 induction ds with
 | nil=>intro j _ l t h;simp at h
 | cons d ds ih=>
  intro j h l t hl
  simp only [cV,Bool.and_eq_true] at h
  cases l with
  | zero=>
   simp at hl;subst hl
   exact h.1
  | succ l=>
   have:=ih (j+1) h.2 l t (by simpa using hl)
   rwa [show j+1+l=j+(l+1) by omega] at this
theorem oc {t:Tmp} {j:Nat}:∀ (ds:List (Option Tmp)) (k:Nat),fV (some t) j ds k=true->∀ l,ds[l]?=some (some t)->k+l=j:=by
 intro ds
 induction ds with
 | nil=>intro k _ l h;simp at h
 | cons d ds ih=>
  intro k h l hl
  simp only [fV,Bool.and_eq_true] at h
  cases l with
  | zero=>
   simp at hl;subst hl
   have:=h.1
   simpa using this
  | succ l=>
   have:=ih (k+1) h.2 l (by simpa using hl)
   omega
theorem yU:∀ (k:Nat),(∀ x y:AV,gM k x y=true->x=y)/\(∀ xs ys:List AV,gM.all k xs ys=true->xs=ys):=by
 intro k
 induction k with
 | zero=>
  refine ⟨fun x y h=>by simp [gM] at h,fun xs=>?_⟩
  induction xs with
  | nil=>intro ys h;cases ys<;>simp [gM.all] at h ⊢
  | cons x xs ih=>intro ys h;cases ys<;>simp [gM.all,gM] at h
 | succ k ih=>
  have one:∀ x y:AV,gM (k+1) x y=true->x=y:=by
   intro x y h
   cases x with
   | aL k1 o1=>
    cases y with
    | aL k2 o2=>cases o1<;>cases o2<;>simp only [gM,Bool.and_eq_true,beq_iff_eq,Bool.false_eq_true,decide_eq_true_eq] at h<;>first
     | (cases h;done)
     | (subst h;rfl)
     | (obtain ⟨rfl,rfl⟩:=h;rfl)
    | _=>cases o1<;>simp [gM] at h
   | _=>
    cases y with
    | aL k2 o2=>cases o2<;>simp [gM] at h
    | _=>
     simp only [gM,Bool.and_eq_true,beq_iff_eq,Bool.false_eq_true,decide_eq_true_eq] at h<;>first
      | rfl
      | (cases h;done)
      | (subst h;rfl)
      | (obtain ⟨rfl,rfl⟩:=h;rfl)
      | (obtain ⟨⟨⟨rfl,rfl⟩,rfl⟩,rfl⟩:=h;rfl)
      | (obtain ⟨rfl,h⟩:=h;rw [ih.2 _ _ h])
      | (obtain ⟨rfl,h⟩:=h;rw [ih.1 _ _ h])
      | (obtain ⟨⟨rfl,h⟩,h'⟩:=h;rw [ih.2 _ _ h,ih.2 _ _ h'])
      | (rw [ih.2 _ _ h])
      | (rename_i a b;obtain ⟨⟨la⟩⟩:=a;obtain ⟨⟨lb⟩⟩:=b;simp only at h;subst h;rfl)
  refine ⟨one,fun xs=>?_⟩
  induction xs with
  | nil=>intro ys h;cases ys<;>simp [gM.all] at h ⊢
  | cons x xs xz=>
   intro ys h
   cases ys with
   | nil=>simp [gM.all] at h
   | cons y ys=>
    simp only [gM.all,Bool.and_eq_true] at h
    rw [one _ _ h.1,xz _ h.2]
end Go.Abs
end
noncomputable section
namespace Go.Abs
section
variable {P : Program} {Γ : bz} {fs : fb} {ops : Array Oper} {ρ : Operand → AV} {H H' : af} {o : Oper} {y : AV}
theorem B9 {b:Builtin} {ts:List TypeId} {xs:List AV} (hq:b=.len\/b=.max\/b=.min) (h:dn P H b ts xs=some (y,H')) (H2:af):dn P H2 b ts xs=some (y,H2):=by
 unfold dn at h ⊢
 split at h
 ·rcases hq with hq | hq | hq<;>cases hq
 ·rename_i h1 h2 h3
  split at h
  ·rename_i hy;simp only [Option.some.injEq,Prod.mk.injEq] at h;simp only [hy,h.1]
  ·cases h
 ·rcases hq with hq | hq | hq<;>cases hq
 ·rcases hq with hq | hq | hq<;>cases hq
 ·split at h
  ·rename_i hy;simp only [Option.some.injEq,Prod.mk.injEq] at h;simp only [hy,h.1]
  ·cases h
 ·split at h
  ·rename_i hy;simp only [Option.some.injEq,Prod.mk.injEq] at h;simp only [hy,h.1]
  ·cases h
 ·cases h
theorem O3 (hp:eA o.op=true) (h:fi P ρ H o=some (y,H')) (H2:af):fi P ρ H2 o=some (y,H2):=by
 unfold fi at h ⊢
 cases ho:o.op<;>simp only [ho,reduceCtorEq] at h ⊢
 all_goals rw [ho] at hp
 all_goals first
  | exact absurd (show false=true from hp) (by decide)
  | (rw [(du h).1];done)
  | (simp only [Option.some.injEq,Prod.mk.injEq] at h ⊢;exact ⟨h.1,trivial⟩)
  | skip
 case pick c a b=>
  split at h
  ·rename_i hc;simp only [Option.some.injEq,Prod.mk.injEq] at h ⊢;exact ⟨h.1,trivial⟩
  ·cases h
 case makeFunc fn a b=>
  split at h
  ·simp only [Option.some.injEq,Prod.mk.injEq] at h ⊢;exact ⟨h.1,trivial⟩
  ·cases h
 case call c=>
  obtain ⟨ce,args,O4⟩:=c
  cases ce with
  | builtin b=>
   refine B9 ?_ h H2
   revert hp
   cases b<;>simp [eA]
  | _=>exact absurd (show false=true from hp) (by decide)
theorem Iy (hp:eA o.op=true) (h:bj P fs ρ H o=some (y,H')) (H2:af):bj P fs ρ H2 o=some (y,H2):=by
 unfold bj at h ⊢
 split at h
 ·rename_i ho;rw [ho] at hp;exact absurd (show false=true from hp) (by decide)
 ·cases h
 ·rename_i ho;rw [ho] at hp;exact absurd (show false=true from hp) (by decide)
 ·rename_i ho;rw [ho] at hp;exact absurd (show false=true from hp) (by decide)
 ·exact O3 hp h H2
theorem rh (hp:eA o.op=true) (h:aZ P fs ops ρ H o=some (y,H')) (H2:af):aZ P fs ops ρ H2 o=some (y,H2):=by
 unfold aZ at h ⊢
 split at h
 ·exact Iy hp h H2
 ·simp only [Option.some.injEq,Prod.mk.injEq] at h ⊢;exact ⟨h.1,trivial⟩
 ·cases h
theorem od (hq:quietAt P o=true) (h:bj P fs ρ H o=some (y,H')):H'=H:=by
 unfold bj at h
 unfold quietAt at hq
 split at h
 ·rename_i ho;rw [ho] at hq;exact absurd (show false=true from hq) (by decide)
 ·cases h
 ·rename_i s d x ho
  rw [ho] at hq
  simp only at hq
  have hqq:iU o.op=true:=by rw [ho];rfl
  split at h
  ·split at h
   ·rename_i hs;rw [hs] at hq;cases hq
   ·exact uM hqq h
  ·exact uM hqq h
 ·rename_i ho;rw [ho] at hq;exact absurd (show false=true from hq) (by decide)
 ·rename_i h1 h2 h3 h4
  refine uM ?_ h
  split at hq
  ·rename_i s d x ho;exact absurd ho (h3 _ _ _)
  ·exact hq
theorem iY (hq:quietAt P o=true) (h:aZ P fs ops ρ H o=some (y,H')):H'=H:=by
 unfold aZ at h
 split at h
 ·exact od hq h
 ·simp only [Option.some.injEq,Prod.mk.injEq] at h;exact h.2.symm
 ·cases h
theorem FU (h:uL P fs ops o ρ y H=true):aZ P fs ops ρ H o=some (y,H):=by
 simp only [uL,Bool.and_eq_true] at h
 obtain ⟨hq,h⟩:=h
 split at h
 ·rename_i y' H' hs
  have:=(yU 16).1 _ _ h
  subst this
  have:=iY hq hs
  subst this
  exact hs
 ·cases h
structure s9 (P:Program) (fs:fb) (ops:Array Oper) (fp:B7):Prop where
 run:∀ o ρ y H,fp o ρ y H=true->aZ P fs ops ρ H o=some (y,H)
 still:∀ o ρ y,fp.still o ρ y=true->∀ H,aZ P fs ops ρ H o=some (y,H)
theorem My:s9 P fs ops (uL P fs ops):=⟨fun _ _ _ _ h=>FU h,fun _ _ _ h=>by cases h⟩
def K4 (fp:B7) (P:Program) (Γ:bz) (fs:fb) (ops:Array Oper) (Ms:List Nat) (aC:List (Option Tmp)) (σ:St) (r:Rec) (rest:List Rec):Prop:=
 ops[rest.length]?=some r.o/\
 match r.fl with
 | some z=>r.ρ=cK Γ Ms aC σ.tmps rest rest.length/\r.y=.top/\r.add=false/\Cv P fs Ms rest.length r.o r.ρ=some z/\fV r.o.dst rest.length aC 0=true
 | none=>r.ρ=cK Γ Ms aC σ.tmps rest rest.length/\∃ H',aZ P fs ops r.ρ (aS σ.H rest) r.o=some (r.y,H')/\
   ((r.add=false/\((quietAt P r.o=true/\(eA r.o.op=true\/gf fp (Ms.getD rest.length 0) r.o r.ρ r.y σ.H rest rest.length=true))\/fp.still r.o r.ρ r.y=true))\/
    (r.add=true/\H'=r.H/\lZ (Ms.getD rest.length 0) rest rest.length=true/\l6 fp (Ms.getD rest.length 0) r.H rest rest.length=true))
def Good (fp:B7) (P:Program) (Γ:bz) (fs:fb) (ops:Array Oper) (Ms:List Nat) (aC:List (Option Tmp)) (σ:St):List Rec->Prop
 | []=>True
 | r::rs=>K4 fp P Γ fs ops Ms aC σ r rs/\Good fp P Γ fs ops Ms aC σ rs
variable {fp : B7} {Ms : List Nat} {aC : List (Option Tmp)} {σ : St}
theorem Cw:∀ (os:List Oper) (acc R:List Rec),dF fp P Γ fs ops Ms aC σ os acc.length acc=some R->Good fp P Γ fs ops Ms aC σ acc->(∀ t o,os[t]?=some o->ops[acc.length+t]?=some o)->
  Good fp P Γ fs ops Ms aC σ R/\R.length=acc.length+os.length:=by
 intro os
 induction os with
 | nil=>intro acc R h hg _;simp only [dF,Option.some.injEq] at h;subst h;exact ⟨hg,rfl⟩
 | cons o os ih=>
  intro acc R h hg ho
  have ho0:ops[acc.length]?=some o:=by simpa using ho 0 o rfl
  have SB:∀ (r:Rec) t o',os[t]?=some o'->ops[(r::acc).length+t]?=some o':=by
   intro r t o' ht
   have:=ho (t+1) o' (by simpa using ht)
   rwa [show acc.length+(t+1)=(r::acc).length+t by simp;omega] at this
  simp only [dF] at h
  split at h
  ·rename_i z hz
   split at h
   ·rename_i Fy
    obtain ⟨h1,h2⟩:=ih (⟨o,cK Γ Ms aC σ.tmps acc acc.length,.top,σ.H,false,some (.ptr 0 0,z.cells)⟩::acc) R h ⟨⟨ho0,rfl,rfl,rfl,by simp only [Cv,hz],Fy⟩,hg⟩ (SB _)
    exact ⟨h1,by rw [h2];simp;omega⟩
   ·cases h
  ·rename_i K5
   split at h
   ·rename_i y H' cA
    split at h
    ·rename_i hq
     split at h
     ·rename_i hc
      obtain ⟨h1,h2⟩:=ih (⟨o,cK Γ Ms aC σ.tmps acc acc.length,y,H',false,none⟩::acc) R h ⟨⟨ho0,rfl,H',cA,.inl ⟨rfl,.inl ⟨hq,by simpa using hc⟩⟩⟩,hg⟩ (SB _)
      exact ⟨h1,by rw [h2];simp;omega⟩
     ·cases h
    ·rename_i hq
     split at h
     ·rename_i hs
      obtain ⟨h1,h2⟩:=ih (⟨o,cK Γ Ms aC σ.tmps acc acc.length,y,H',false,none⟩::acc) R h ⟨⟨ho0,rfl,H',cA,.inl ⟨rfl,.inr hs⟩⟩,hg⟩ (SB _)
      exact ⟨h1,by rw [h2];simp;omega⟩
     split at h
     ·rename_i hc
      simp only [Bool.and_eq_true] at hc
      obtain ⟨h1,h2⟩:=ih (⟨o,cK Γ Ms aC σ.tmps acc acc.length,y,H',true,none⟩::acc) R h ⟨⟨ho0,rfl,H',cA,.inr ⟨rfl,rfl,hc.1,hc.2⟩⟩,hg⟩ (SB _)
      exact ⟨h1,by rw [h2];simp;omega⟩
     ·split at h
      ·rename_i z hz
       split at h
       ·rename_i Fy
        obtain ⟨h1,h2⟩:=ih (⟨o,cK Γ Ms aC σ.tmps acc acc.length,.top,σ.H,false,some z⟩::acc) R h ⟨⟨ho0,rfl,rfl,rfl,by simp only [Cv,K5];exact hz,Fy⟩,hg⟩ (SB _)
        exact ⟨h1,by rw [h2];simp;omega⟩
       ·cases h
      ·cases h
   ·cases h
def eu (H0:af) (S:Nat->Bool):List Rec->af
 | []=>H0
 | r::rs=>if r.add&&S rs.length then r.H else eu H0 S rs
def fC (S:Nat->Bool) (t:Tmp):List Rec->Option AV
 | []=>none
 | r::rs=>match r.o.dst with
  | some u=>if u==t&&S rs.length then some r.y else fC S t rs
  | none=>fC S t rs
theorem wH {m:Nat}:∀ (rs:List Rec),lZ m rs rs.length=true->∀ pre r rest,rs=pre++r::rest->r.add=true->m.testBit rest.length=true:=by
 intro rs
 induction rs with
 | nil=>intro _ pre r rest h;simp at h
 | cons r0 rs ih=>
  intro h pre r rest he hr
  simp only [lZ,List.length_cons,Nat.add_sub_cancel,Bool.and_eq_true,Bool.or_eq_true,Bool.not_eq_true'] at h
  cases pre with
  | nil=>
   simp only [List.nil_append,List.cons.injEq] at he
   obtain ⟨rfl,rfl⟩:=he
   rcases h.1 with h1 | h1
   ·rw [hr] at h1;cases h1
   ·exact h1
  | cons p pre=>
   simp only [List.cons_append,List.cons.injEq] at he
   exact ih h.2 pre r rest he.2 hr
theorem FV {m:Nat}:∀ (rs:List Rec),l6 fp m H rs rs.length=true->∀ pre r rest,rs=pre++r::rest->r.add=false->r.fl=none->eA r.o.op=false->m.testBit rest.length=false->
  fp r.o r.ρ r.y H=true:=by
 intro rs
 induction rs with
 | nil=>intro _ pre r rest h;simp at h
 | cons r0 rs ih=>
  intro h pre r rest he h1 h2 h3 h4
  simp only [l6,List.length_cons,Nat.add_sub_cancel,Bool.and_eq_true,Bool.or_eq_true] at h
  cases pre with
  | nil=>
   simp only [List.nil_append,List.cons.injEq] at he
   obtain ⟨rfl,rfl⟩:=he
   rcases h.1 with (((h5 | h5) | h5) | h5) | h5
   ·rw [h1] at h5;cases h5
   ·rw [h2] at h5;cases h5
   ·rw [h3] at h5;cases h5
   ·rw [h4] at h5;cases h5
   ·exact h5
  | cons p pre=>
   simp only [List.cons_append,List.cons.injEq] at he
   exact ih h.2 pre r rest he.2 h1 h2 h3 h4
theorem B' (hk:s9 P fs ops fp) {m:Nat} {S:Nat->Bool} {H0:af} (hm:∀ l,m.testBit l=true->S l=true):∀ (rs:List Rec),gf fp m o ρ y H0 rs rs.length=true->
  aZ P fs ops ρ (aS H0 rs) o=some (y,aS H0 rs)->aZ P fs ops ρ (eu H0 S rs) o=some (y,eu H0 S rs):=by
 intro rs
 induction rs with
 | nil=>intro _ h;exact h
 | cons r rs ih=>
  intro h hb
  simp only [gf,List.length_cons,Nat.add_sub_cancel] at h
  simp only [eu]
  cases bZ:r.add with
  | false=>
   simp only [bZ,Bool.false_eq_true,if_false,Bool.false_and] at h ⊢
   refine ih h ?_
   simpa only [aS,bZ,Bool.false_eq_true,if_false] using hb
  | true=>
   simp only [bZ,if_true,Bool.true_and] at h ⊢
   cases hS:S rs.length with
   | true=>
    simp only [if_true]
    simpa only [aS,bZ,if_true] using hb
   | false=>
    have O5:m.testBit rs.length=false:=by
     cases hb:m.testBit rs.length with
     | false=>rfl
     | true=>rw [hm _ hb] at hS;cases hS
    simp only [O5,Bool.false_eq_true,if_false,Bool.and_eq_true] at h ⊢
    exact ih h.2 (hk.run _ _ _ _ h.1)
structure jX (Ms:List Nat) (S:Nat->Bool):Prop where
 down:∀ j k,S j=true->(Ms.getD j 0).testBit k=true->S k=true
theorem yV {H0:af} {S:Nat->Bool}:∀ (rs:List Rec),(∀ pre r rest,rs=pre++r::rest->r.add=true->S rest.length=true)->eu H0 S rs=aS H0 rs:=by
 intro rs
 induction rs with
 | nil=>intro _;rfl
 | cons r rs ih=>
  intro h
  simp only [eu,aS]
  cases bZ:r.add with
  | false=>
   simp only [Bool.false_and,Bool.false_eq_true,if_false]
   exact ih fun pre r' rest he hr=>h (r::pre) r' rest (by simp [he]) hr
  | true=>simp [h [] r rs rfl bZ]
theorem FW {S:Nat->Bool} (hc:jX Ms S) {R:List Rec} (hg:Good fp P Γ fs ops Ms aC σ R):∀ (pre:List Rec) {r:Rec} {rest:List Rec},R=pre++r::rest->r.add=true->S rest.length=false->
  (∀ k,(Ms.getD rest.length 0).testBit k=true->S k=true)->eu σ.H S R=aS σ.H rest/\eu σ.H (fun k=>k==rest.length||S k) R=r.H:=by
 intro pre
 induction pre generalizing R with
 | nil=>
  intro r rest he bZ hS dZ
  subst he
  obtain ⟨hr,OF⟩:=hg
  have dg:r.fl=none:=by
   obtain ⟨_,h⟩:=hr
   cases dg:r.fl with
   | none=>rfl
   | some z=>simp only [dg] at h;rw [h.2.2.1] at bZ;cases bZ
  obtain ⟨_,h⟩:=hr
  simp only [dg] at h
  obtain ⟨_,H',_,h⟩:=h
  rcases h with ⟨h,_⟩ | ⟨_,_,Th,_⟩
  ·rw [bZ] at h;cases h
  constructor
  ·simp only [List.nil_append,eu,bZ,hS,Bool.and_false,Bool.false_eq_true,if_false]
   exact yV rest fun pre r' bk he gL=>dZ _ (wH rest Th pre r' bk he gL)
  ·simp [eu,bZ]
 | cons p pre ih=>
  intro r rest he bZ hS dZ
  subst he
  obtain ⟨hp,OF⟩:=hg
  have hlen:(pre++r::rest).length≠rest.length:=by simp;omega
  have abp:p.add=true->S (pre++r::rest).length=false:=by
   intro O6
   have dg:p.fl=none:=by
    obtain ⟨_,h⟩:=hp
    cases dg:p.fl with
    | none=>rfl
    | some z=>simp only [dg] at h;rw [h.2.2.1] at O6;cases O6
   obtain ⟨_,h⟩:=hp
   simp only [dg] at h
   obtain ⟨_,H',_,h⟩:=h
   rcases h with ⟨h,_⟩ | ⟨_,_,Th,_⟩
   ·rw [O6] at h;cases h
   have O5:=wH _ Th pre r rest rfl bZ
   cases WL:S (pre++r::rest).length with
   | false=>rfl
   | true=>rw [hc.down _ _ WL O5] at hS;cases hS
  obtain ⟨i1,i2⟩:=ih OF rfl bZ hS dZ
  constructor
  ·simp only [List.cons_append,eu]
   cases O6:p.add with
   | false=>simp only [Bool.false_and,Bool.false_eq_true,if_false];exact i1
   | true=>
    have hn:=abp O6
    simp only [hn,Bool.and_false,Bool.false_eq_true,if_false];exact i1
  ·simp only [List.cons_append,eu]
   cases O6:p.add with
   | false=>simp only [Bool.false_and,Bool.false_eq_true,if_false];exact i2
   | true=>
    have:((pre++r::rest).length==rest.length||S (pre++r::rest).length)=false:=by
     rw [abp O6,Bool.or_false];exact beq_eq_false_iff_ne.2 hlen
    simp only [this,Bool.and_false,Bool.false_eq_true,if_false];exact i2
theorem yW (hk:s9 P fs ops fp) {S:Nat->Bool} (hc:jX Ms S) {R:List Rec} (hg:Good fp P Γ fs ops Ms aC σ R):∀ (pre:List Rec) {r:Rec} {rest:List Rec},R=pre++r::rest->r.fl=none->r.add=false->S rest.length=false->
  (∀ k,(Ms.getD rest.length 0).testBit k=true->S k=true)->aZ P fs ops r.ρ (eu σ.H S R) r.o=some (r.y,eu σ.H S R):=by
 intro pre
 induction pre generalizing R with
 | nil=>
  intro r rest he dg bZ hS dZ
  subst he
  obtain ⟨⟨_,h⟩,OF⟩:=hg
  simp only [dg] at h
  obtain ⟨_,H',cA,h⟩:=h
  rcases h with ⟨_,h⟩ | ⟨h,_⟩
  ·simp only [List.nil_append,eu,bZ,Bool.false_and,Bool.false_eq_true,if_false]
   rcases h with ⟨hq,h | h⟩ | h
   ·exact rh h cA _
   ·have:=iY hq cA
    subst this
    exact B' hk dZ rest h cA
   ·exact hk.still _ _ _ h _
  ·rw [bZ] at h;cases h
 | cons p pre ih=>
  intro r rest he dg bZ hS dZ
  subst he
  obtain ⟨hp,OF⟩:=hg
  simp only [List.cons_append,eu]
  cases O6:p.add with
  | false=>simp only [Bool.false_and,Bool.false_eq_true,if_false];exact ih OF rfl dg bZ hS dZ
  | true=>
   cases WL:S (pre++r::rest).length with
   | false=>simp only [Bool.and_false,Bool.false_eq_true,if_false];exact ih OF rfl dg bZ hS dZ
   | true=>
    simp only [Bool.and_self,if_true]
    have aeh:p.fl=none:=by
     obtain ⟨_,h⟩:=hp
     cases dg:p.fl with
     | none=>rfl
     | some z=>simp only [dg] at h;rw [h.2.2.1] at O6;cases O6
    obtain ⟨_,h⟩:=hp
    simp only [aeh] at h
    obtain ⟨_,H',_,h⟩:=h
    rcases h with ⟨h,_⟩ | ⟨_,_,_,WM⟩
    ·rw [O6] at h;cases h
    cases nL:eA r.o.op with
    | true=>
     exact rh nL (ih OF rfl dg bZ hS dZ) _
    | false=>
     refine hk.run _ _ _ _ (FV _ WM pre r rest rfl bZ dg nL ?_)
     cases hb:(Ms.getD (pre++r::rest).length 0).testBit rest.length with
     | false=>rfl
     | true=>rw [hc.down _ _ WL hb] at hS;cases hS
end
end Go.Abs
end
noncomputable section
namespace Go.Abs
section
variable {P : Program} {Γ : bz} {fs : fb} {ops : Array Oper} {Ms : List Nat} {aC : List (Option Tmp)} {σ : St} {F G : Nat → Prop} {i : Nat → Nat} {a : Act} {w : World}
def jm (aC:List (Option Tmp)) (R:List Rec):Prop:=∀ pre r rest,R=pre++r::rest->aC[rest.length]?=some r.o.dst
theorem uN {S:Nat->Bool} {t:Tmp}:∀ (rs:List Rec),(∀ pre r rest,rs=pre++r::rest->r.o.dst=some t->S rest.length=true)->fC S t rs=gN t rs:=by
 intro rs
 induction rs with
 | nil=>intro _;rfl
 | cons r rs ih=>
  intro h
  have hi:=ih fun pre r' rest he hr=>h (r::pre) r' rest (by simp [he]) hr
  cases hu:r.o.dst with
  | none=>simp only [fC,gN,hu];exact hi
  | some u=>
   simp only [fC,gN,hu]
   by_cases e:u=t
   ·subst e
    have:=h [] r rs rfl hu
    simp [this]
   ·simp [e,hi]
theorem FX {j k:Nat} (h:iX Ms j k=true) (hk:k<j):(Ms.getD j 0).testBit k=true:=by
 unfold iX at h;rw [if_pos hk] at h;exact h
theorem FY {j k:Nat} (h:iX Ms j k=true) (hk:j<k):(Ms.getD k 0).testBit j=true:=by
 unfold iX at h;rw [if_neg (by omega),if_pos hk] at h;exact h
theorem Iz {S:Nat->Bool} (hc:jX Ms S) {t:Tmp}:∀ (pre:List Rec) {R:List Rec} {r:Rec} {rest:List Rec},jm aC R->R=pre++r::rest->S rest.length=false->
  (∀ k,(Ms.getD rest.length 0).testBit k=true->S k=true)->dN Ms t rest.length aC 0=true->fC S t R=gN t rest:=by
 intro pre
 induction pre with
 | nil=>
  intro R r rest hd he hS dZ hr
  subst he
  have h1:fC S t rest=gN t rest:=uN rest fun cd r' bk gn gL=>by
   have hk:=hd (r::cd) r' bk (by simp [gn])
   rw [gL] at hk
   have:=lz _ _ hr _ hk
   rw [Nat.zero_add] at this
   exact dZ _ (FX this (by rw [gn];simp;omega))
  simp only [List.nil_append,fC,hS,Bool.and_false,Bool.false_eq_true,if_false]
  split<;>exact h1
 | cons p pre ih=>
  intro R r rest hd he hS dZ hr
  subst he
  have h1:=ih (R:=pre++r::rest) (r:=r) (rest:=rest) (fun cd r' bk gn=>hd (p::cd) r' bk (by simp [gn])) rfl hS dZ hr
  simp only [List.cons_append,fC]
  split
  ·rename_i u hu
   by_cases e:u=t
   ·subst e
    have hk:=hd [] p (pre++r::rest) rfl
    rw [hu] at hk
    have:=lz _ _ hr _ hk
    rw [Nat.zero_add] at this
    have hb:=FY this (by simp;omega)
    cases WL:S (pre++r::rest).length with
    | false=>simp only [Bool.and_false,Bool.false_eq_true,if_false];exact h1
    | true=>rw [hc.down _ _ WL hb] at hS;cases hS
   ·have:(u==t)=false:=by simpa using e
    simp only [this,Bool.false_and,Bool.false_eq_true,if_false];exact h1
  ·exact h1
theorem Mz {S:Nat->Bool} (hc:jX Ms S) (hw:cV Ms aC aC 0=true) {t:Tmp}:∀ (pre:List Rec) {R:List Rec} {r:Rec} {rest:List Rec},jm aC R->R=pre++r::rest->S rest.length=false->
  (r.o.dst=some t->fC (fun k=>k==rest.length||S k) t R=some r.y)/\(r.o.dst≠some t->fC (fun k=>k==rest.length||S k) t R=fC S t R):=by
 intro pre
 induction pre with
 | nil=>
  intro R r rest hd he hS
  subst he
  have Cx:∀ (rs:List Rec),rs.length<=rest.length->fC (fun k=>k==rest.length||S k) t rs=fC S t rs:=by
   intro rs
   induction rs with
   | nil=>intro _;rfl
   | cons q rs ihr=>
    intro hl
    have nJ:rs.length≠rest.length:=by simp at hl;omega
    have hb:(rs.length==rest.length)=false:=beq_eq_false_iff_ne.2 nJ
    simp only [fC,hb,Bool.false_or,ihr (by simp at hl;omega)]
  refine ⟨fun h=>?_,fun h=>?_⟩
  ·simp [fC,h]
  ·simp only [List.nil_append,fC]
   split
   ·rename_i u hu
    have:(u==t)=false:=by
     refine beq_eq_false_iff_ne.2 ?_
     rintro rfl
     exact h hu
    simp only [this,Bool.false_and,Bool.false_eq_true,if_false]
    exact Cx rest (Nat.le_refl _)
   ·exact Cx rest (Nat.le_refl _)
 | cons p pre ih=>
  intro R r rest hd he hS
  subst he
  have B_:jm aC (pre++r::rest):=fun cd r' bk gn=>hd (p::cd) r' bk (by simp [gn])
  obtain ⟨i1,i2⟩:=ih (R:=pre++r::rest) (r:=r) (rest:=rest) B_ rfl hS
  have ek:((pre++r::rest).length==rest.length)=false:=beq_eq_false_iff_ne.2 (by simp;omega)
  refine ⟨fun h=>?_,fun h=>?_⟩
  ·simp only [List.cons_append,fC,ek,Bool.false_or]
   split
   ·rename_i u hu
    by_cases e:u=t
    ·subst e
     have hj:=B_ pre r rest rfl
     rw [h] at hj
     have hr:=qK _ _ hw _ _ hj
     rw [Nat.zero_add] at hr
     have hk:=hd [] p (pre++r::rest) rfl
     rw [hu] at hk
     have:=lz _ _ hr _ hk
     rw [Nat.zero_add] at this
     have hb:=FY this (by simp;omega)
     cases WL:S (pre++r::rest).length with
     | false=>simp only [Bool.and_false,Bool.false_eq_true,if_false];exact i1 h
     | true=>rw [hc.down _ _ WL hb] at hS;cases hS
    ·have:(u==t)=false:=by simpa using e
     simp only [this,Bool.false_and,Bool.false_eq_true,if_false];exact i1 h
   ·exact i1 h
  ·simp only [List.cons_append,fC,ek,Bool.false_or,i2 h]
def qL (E:Env) (S:Nat->Bool) (R:List Rec) (tmps:List AV) (a:Act):Prop:=
 a.tmps.size=tmps.length/\∀ t v,a.tmps[t]?=some v->match fC S t R with
  | some y=>ao E y v
  | none=>∀ x,tmps[t]?=some x->ao E x v
theorem qL.mono {E E':Env} (le:E.le E') {S:Nat->Bool} {R:List Rec} {tmps:List AV} (h:qL E S R tmps a):qL E' S R tmps a:=by
 refine ⟨h.1,fun t v hv=>?_⟩
 have:=h.2 t v hv
 cases hl:fC S t R with
 | some y=>rw [hl] at this;exact this.mono le
 | none=>rw [hl] at this;exact fun x hx=>(this x hx).mono le
theorem qL.eval {E:Env} {S:Nat->Bool} (hc:jX Ms S) {pre:List Rec} {R:List Rec} {r:Rec} {rest:List Rec} (hd:jm aC R) (he:R=pre++r::rest) (hS:S rest.length=false)
  (dZ:∀ k,(Ms.getD rest.length 0).testBit k=true->S k=true) (h:qL E S R σ.tmps a) (xX:∀ x,(∀ t,x≠.tmp t)->ao E (ev Γ σ.tmps x) (a.eval x)) (x:Operand):
  ao E (cK Γ Ms aC σ.tmps rest rest.length x) (a.eval x):=by
 cases x with
 | tmp t=>
  simp only [cK,Act.eval]
  cases hr:dN Ms t rest.length aC 0 with
  | false=>simp only [Bool.false_eq_true,if_false];exact .top _
  | true=>
   simp only [if_true]
   cases ht:σ.tmps[t]? with
   | none=>exact .top _
   | some x0=>
    have cC:t<a.tmps.size:=by rw [h.1];exact (List.getElem?_eq_some_iff.1 ht).1
    have hv:a.tmps[t]?=some a.tmps[t]:=Array.getElem?_eq_getElem cC
    have WN:a.tmps.getD t undef=a.tmps[t]:=by rw [Array.getD_eq_getD_getElem?,hv];rfl
    rw [WN]
    have:=h.2 t _ hv
    rw [Iz hc pre hd he hS dZ hr] at this
    cases hl:gN t rest with
    | some y=>rw [hl] at this;exact this
    | none=>rw [hl] at this;exact this x0 ht
 | const v=>exact xX (.const v) (fun t h=>by cases h)
 | global g=>exact xX (.global g) (fun t h=>by cases h)
 | func f=>exact xX (.func f) (fun t h=>by cases h)
theorem qL.put {E:Env} {S:Nat->Bool} (hc:jX Ms S) (hw:cV Ms aC aC 0=true) {pre:List Rec} {R:List Rec} {r:Rec} {rest:List Rec} (hd:jm aC R) (he:R=pre++r::rest) (hS:S rest.length=false)
  (h:qL E S R σ.tmps a) {v:Value} (hv:ao E r.y v):qL E (fun k=>k==rest.length||S k) R σ.tmps (a.put r.o.dst v):=by
 have fI:(a.put r.o.dst v).tmps.size=a.tmps.size:=by
  unfold Act.put;split<;>simp
 refine ⟨fI.trans h.1,fun t u hu=>?_⟩
 obtain ⟨h1,h2⟩:=Mz (aC:=aC) hc hw (t:=t) pre hd he hS
 by_cases IA:r.o.dst=some t
 ·rw [h1 IA]
  have e:(a.put r.o.dst v).tmps=a.tmps.setIfInBounds t v:=by rw [IA];rfl
  rw [e,Array.getElem?_setIfInBounds,if_pos rfl] at hu
  split at hu
  ·simp only [Option.some.injEq] at hu;subst hu;exact hv
  ·cases hu
 ·rw [h2 IA]
  refine h.2 t u ?_
  unfold Act.put at hu
  split at hu
  ·rename_i d B_
   simp only [Array.getElem?_setIfInBounds] at hu
   rw [if_neg (by rintro rfl;exact IA B_)] at hu
   exact hu
  ·exact hu
end
end Go.Abs
end
noncomputable section
namespace Go.Abs
section
variable {P : Program} {Γ : bz} {fs : fb} {ops : Array Oper} {Ms : List Nat} {aC : List (Option Tmp)} {σ : St} {F G : Nat → Prop} {i : Nat → Nat} {a : Act} {w : World} {H : af}
theorem jY {R pre cd rest bk:List Rec} {r r':Rec} (h:R=pre++r::rest) (h':R=cd++r'::bk) (hl:rest.length=bk.length):r=r'/\rest=bk:=by
 have:=List.append_inj' (h.symm.trans h') (by simp [hl])
 have:=this.2
 simp only [List.cons.injEq] at this
 exact this
theorem IB {H0:af} {S:Nat->Bool} {j:Nat}:∀ (rs:List Rec),rs.length<=j->eu H0 (fun k=>k==j||S k) rs=eu H0 S rs:=by
 intro rs
 induction rs with
 | nil=>intro _;rfl
 | cons q rs ih=>
  intro hl
  have hb:(rs.length==j)=false:=beq_eq_false_iff_ne.2 (by simp at hl;omega)
  simp only [eu,hb,Bool.false_or,ih (by simp at hl;omega)]
theorem uO {H0:af} {S:Nat->Bool}:∀ (pre:List Rec) {R:List Rec} {r:Rec} {rest:List Rec},R=pre++r::rest->r.add=false->eu H0 (fun k=>k==rest.length||S k) R=eu H0 S R:=by
 intro pre
 induction pre with
 | nil=>
  intro R r rest he ha
  subst he
  simp only [List.nil_append,eu,ha,Bool.false_and,Bool.false_eq_true,if_false]
  exact IB rest (Nat.le_refl _)
 | cons p pre ih=>
  intro R r rest he ha
  subst he
  have ek:((pre++r::rest).length==rest.length)=false:=beq_eq_false_iff_ne.2 (by simp;omega)
  simp only [List.cons_append,eu,ek,Bool.false_or,ih rfl ha]
theorem Ext.abq {K:Nat} {F F' G G':Nat->Prop} {i i':Nat->Nat} {w w':World} (h:Ext K F G' i w F' i' w') (hg:∀ b,G b->G' b):Ext K F G i w F' i' w':=
 { h with aP:=fun b hb=>h.aP b (hb.imp id (hg b)) }
theorem ba.WO (hH:ba F G i H w.heap) (o:Obj):ba F (fun b=>G b\/b=w.heap.size) i H (w.alloc o).heap:=by
 have cn:∀ b,b<w.heap.size->(w.alloc o).heap[b]?=w.heap[b]?:=fun b hb=>by
  simp only [World.alloc,Array.getElem?_push];rw [if_neg (by omega)]
 have lt:∀ (r:Nat) (ro:eR),H.get r=some ro->i r<w.heap.size:=fun r ro h=>by
  obtain ⟨o',ho,_⟩:=hH.row r ro h
  exact (Array.getElem?_eq_some_iff.1 ho).1
 have le:Env.le ⟨F,w.heap,i,H.n⟩ ⟨F,(w.alloc o).heap,i,H.n⟩:=
  ⟨fun _ h=>h,fun b hb=>cn b (hH.cn b (.inl hb)),Nat.le_refl _,fun _ _=>rfl,fun b c e z hc=>⟨c,e,z,by rw [cn b (Array.getElem?_eq_some_iff.1 hc).1];exact hc,Nat.le_refl _⟩⟩
 refine ⟨fun r row hr=>?_,fun r row hr=>⟨(hH.out r row hr).1,fun hg=>?_⟩,hH.inj,fun b hb=>?_,fun b hb hg=>?_,hH.ok⟩
 ·obtain ⟨o',ho,ml⟩:=hH.row r row hr
  exact ⟨o',by rw [cn _ (lt r row hr)];exact ho,ml.mono le⟩
 ·rcases hg with hg | hg
  ·exact (hH.out r row hr).2 hg
  ·have:=lt r row hr;omega
 ·simp only [World.size_alloc]
  rcases hb with hb | hb | hb
  ·have:=hH.cn b (.inl hb);omega
  ·have:=hH.cn b (.inr hb);omega
  ·omega
 ·rcases hg with hg | hg
  ·exact hH.apart b hb hg
  ·have:=hH.cn b (.inl hb);omega
def WQ:AV->Nat->Value
 | .slice _ _ l _,b=>.slice (some ⟨b,0,none⟩) l l
 | _,b=>.pointer (some ⟨b,0,none⟩)
def DK (z:AV × List AV):Prop:=
 match z.1 with
 | .slice _ o l e=>o=0/\l*e<=z.2.length
 | _=>True
def yX (R:List Rec) (S:Nat->Bool) (bx:Nat->Nat) (b:Nat):Prop:=∃ pre r rest,R=pre++r::rest/\r.fl.isSome=true/\S rest.length=true/\b=bx rest.length
structure IC (G:Nat->Prop) (R:List Rec) (S:Nat->Bool) (bx:Nat->Nat) (a:Act) (w:World):Prop where
 obj:∀ pre r rest z,R=pre++r::rest->r.fl=some z->S rest.length=true->DK z/\∃ o,w.heap[bx rest.length]?=some o/\∀ E,d_ E (.cells z.2) o
 tmp:∀ pre r rest z,R=pre++r::rest->r.fl=some z->S rest.length=true->∀ t v,r.o.dst=some t->a.tmps[t]?=some v->v=WQ z.1 (bx rest.length)
 inj:∀ pre r rest cd r' bk,R=pre++r::rest->R=cd++r'::bk->r.fl.isSome=true->r'.fl.isSome=true->S rest.length=true->S bk.length=true->bx rest.length=bx bk.length->rest.length=bk.length
 out:∀ pre r rest,R=pre++r::rest->r.fl.isSome=true->S rest.length=true->¬ G (bx rest.length)
structure ri (Γ:bz) (Ms:List Nat) (σ:St) (R:List Rec) (F0 F G:Nat->Prop) (i0:Nat->Nat) (w0:World) (S:Nat->Bool) (bx i:Nat->Nat) (a:Act) (w:World):Prop where
 closed:jX Ms S
 VA:∀ k,S k=true->k<R.length
 heap:ba F (fun b=>G b\/yX R S bx b) i (eu σ.H S R) w.heap
 val:qL ⟨F,w.heap,i,(eu σ.H S R).n⟩ S R σ.tmps a
 defers:a.defers=σ.defers.map (mark i0)
 dx:fq Γ F w.heap i (eu σ.H S R).n
 ext:Ext σ.H.n F0 G i0 w0 F i w
 le:σ.H.n<=(eu σ.H S R).n
 bx:IC G R S bx a w
theorem jX.more {S:Nat->Bool} (hc:jX Ms S) {j:Nat} (dZ:∀ k,(Ms.getD j 0).testBit k=true->S k=true):jX Ms (fun k=>k==j||S k):=by
 refine ⟨fun l k hl hb=>?_⟩
 simp only [Bool.or_eq_true,beq_iff_eq] at hl ⊢
 rcases hl with rfl | hl
 ·exact .inr (dZ k hb)
 ·exact .inr (hc.down l k hl hb)
theorem iZ (hg:fq Γ F w.heap i H.n) (tmps:List AV) (x:Operand) (hx:∀ t,x≠.tmp t):ao ⟨F,w.heap,i,H.n⟩ (ev Γ tmps x) (a.eval x):=by
 have h:=yN (Γ:=Γ) (F:=F) (h:=w.heap) (i:=i) (N:=H.n) (tmps:=[]) (a:={ tmps:=#[],defers:=[] }) (by simpa using ay.nil) hg x
 cases x with
 | tmp t=>exact absurd rfl (hx t)
 | const v=>exact h
 | global g=>exact h
 | func f=>exact h
variable {R : List Rec} {F0 : Nat → Prop} {i0 : Nat → Nat} {w0 : World} {S : Nat → Bool} {bx : Nat → Nat}
theorem ri.step (hI:ri Γ Ms σ R F0 F G i0 w0 S bx i a w) (hd:jm aC R) (hw:cV Ms aC aC 0=true) {pre:List Rec} {r:Rec} {rest:List Rec} (he:R=pre++r::rest) (hS:S rest.length=false)
  (dZ:∀ k,(Ms.getD rest.length 0).testBit k=true->S k=true) (dg:r.fl=none) (Fy:∀ cd r' bk,R=cd++r'::bk->r'.fl.isSome=true->fV r'.o.dst bk.length aC 0=true)
  {v:Value} {w':World} {F':Nat->Prop} {i':Nat->Nat} {H':af} (lx:eu σ.H (fun k=>k==rest.length||S k) R=H') (dG:wI F (fun b=>G b\/yX R S bx b) i (eu σ.H S R) w r.y H' v w' F' i'):
  ri Γ Ms σ R F0 F' G i0 w0 (fun k=>k==rest.length||S k) bx i' (a.put r.o.dst v) w':=by
 have other:∀ cd r' bk,R=cd++r'::bk->r'.fl.isSome=true->(bk.length==rest.length||S bk.length)=true->S bk.length=true:=by
  intro cd r' bk gn nI et
  simp only [Bool.or_eq_true,beq_iff_eq] at et
  rcases et with h | h
  ·have:=(jY gn he h).1
   subst this
   rw [dg] at nI;cases nI
  ·exact h
 have WR:(fun b=>G b\/yX R (fun k=>k==rest.length||S k) bx b)=(fun b=>G b\/yX R S bx b):=by
  funext b
  refine propext (or_congr Iff.rfl ⟨?_,?_⟩)
  ·rintro ⟨p',r',VB,h1,h2,h3,h4⟩
   exact ⟨p',r',VB,h1,h2,other _ _ _ h1 h2 h3,h4⟩
  ·rintro ⟨p',r',VB,h1,h2,h3,h4⟩
   exact ⟨p',r',VB,h1,h2,by simp [h3],h4⟩
 have le:Env.le ⟨F,w.heap,i,(eu σ.H S R).n⟩ ⟨F',w'.heap,i',H'.n⟩:=dG.ext.le (Nat.le_refl _) dG.le
 refine ⟨hI.closed.more dZ,?_,?_,?_,?_,?_,?_,?_,?_⟩
 ·intro k hk
  simp only [Bool.or_eq_true,beq_iff_eq] at hk
  rcases hk with rfl | hk
  ·rw [he];simp;omega
  ·exact hI.VA k hk
 ·rw [WR,lx];exact dG.heap
 ·rw [lx]
  exact (hI.val.mono le).put hI.closed hw hd he hS dG.val
 ·rw [put_defers];exact hI.defers
 ·rw [lx];exact hI.dx.mono le
 ·exact hI.ext.trans (dG.ext.abq fun b h=>.inl h) hI.le
 ·rw [lx];exact Nat.le_trans hI.le dG.le
 ·refine ⟨fun cd r' bk z gn nI et=>?_,fun cd r' bk z' gn nI et t u ht hu=>?_,fun p1 r1 s1 p2 r2 s2 e1 e2 f1 f2 h1 h2 h=>?_,fun cd r' bk gn nI et=>?_⟩
  ·have O7:=other _ _ _ gn (by simp [nI]) et
   obtain ⟨qz,o,ho,hr⟩:=hI.bx.obj _ _ _ _ gn nI O7
   refine ⟨qz,o,?_,hr⟩
   rw [dG.ext.aP _ (.inr (.inr ⟨cd,r',bk,gn,by simp [nI],O7,rfl⟩))]
   exact ho
  ·have O7:=other _ _ _ gn (by simp [nI]) et
   refine hI.bx.tmp _ _ _ _ gn nI O7 t u ht ?_
   have ek:r.o.dst≠some t:=by
    intro hrt
    have h1:=Fy _ _ _ gn (by simp [nI])
    rw [ht] at h1
    have h2:=hd _ _ _ he
    rw [hrt] at h2
    have:=oc _ _ h1 _ h2
    have:=(jY he gn (by omega)).1
    subst this
    rw [dg] at nI;cases nI
   unfold Act.put at hu
   split at hu
   ·rename_i d B_
    simp only [Array.getElem?_setIfInBounds] at hu
    rw [if_neg (by rintro rfl;exact ek B_)] at hu
    exact hu
   ·exact hu
  ·exact hI.bx.inj _ _ _ _ _ _ e1 e2 f1 f2 (other _ _ _ e1 f1 h1) (other _ _ _ e2 f2 h2) h
  ·exact hI.bx.out _ _ _ gn nI (other _ _ _ gn nI et)
theorem ri.float (hI:ri Γ Ms σ R F0 F G i0 w0 S bx i a w) (hd:jm aC R) (hw:cV Ms aC aC 0=true) {pre:List Rec} {r:Rec} {rest:List Rec} (he:R=pre++r::rest) (hS:S rest.length=false)
  (dZ:∀ k,(Ms.getD rest.length 0).testBit k=true->S k=true) {z:AV × List AV} (qz:DK z) (dg:r.fl=some z) (hy:r.y=.top) (bZ:r.add=false) (Fy:∀ cd r' bk,R=cd++r'::bk->r'.fl.isSome=true->fV r'.o.dst bk.length aC 0=true)
  {o:Obj} (ho:∀ E,d_ E (.cells z.2) o):
  ri Γ Ms σ R F0 F G i0 w0 (fun k=>k==rest.length||S k) (fun k=>if k=rest.length then w.heap.size else bx k) i (a.put r.o.dst (WQ z.1 w.heap.size)) (w.alloc o):=by
 have lx:=uO (H0:=σ.H) (S:=S) pre he bZ
 have cn:∀ b,b<w.heap.size->(w.alloc o).heap[b]?=w.heap[b]?:=fun b hb=>by
  simp only [World.alloc,Array.getElem?_push];rw [if_neg (by omega)]
 have eT:∀ K,Ext K F (fun b=>G b\/yX R S bx b) i w F i (w.alloc o):=by
  intro K
  refine ⟨fun _ h=>h,fun b hb=>cn b (hI.heap.cn b hb),by simp,fun b c e z hc=>⟨c,e,z,?_,Nat.le_refl _⟩,fun _ _=>rfl,rfl,rfl,rfl⟩
  rw [cn b (Array.getElem?_eq_some_iff.1 hc).1];exact hc
 have le:Env.le ⟨F,w.heap,i,(eu σ.H S R).n⟩ ⟨F,(w.alloc o).heap,i,(eu σ.H S R).n⟩:=(eT _).le (Nat.le_refl _) (Nat.le_refl _)
 have WS:∀ cd r' bk,R=cd++r'::bk->r'.fl.isSome=true->S bk.length=true->bx bk.length<w.heap.size:=by
  intro cd r' bk gn nI et
  exact hI.heap.cn _ (.inr (.inr ⟨_,_,_,gn,nI,et,rfl⟩))
 have ek:∀ {bk:List Rec},S bk.length=true->bk.length≠rest.length:=fun h e=>by rw [e,hS] at h;cases h
 have WR:(fun b=>G b\/yX R (fun k=>k==rest.length||S k) (fun k=>if k=rest.length then w.heap.size else bx k) b)=(fun b=>(G b\/yX R S bx b)\/b=w.heap.size):=by
  funext b
  refine propext ⟨?_,?_⟩
  ·rintro (h | ⟨p',r',VB,h1,h2,h3,h4⟩)
   ·exact .inl (.inl h)
   ·simp only [Bool.or_eq_true,beq_iff_eq] at h3
    by_cases e:VB.length=rest.length
    ·simp only [e,if_true] at h4;exact .inr h4
    ·simp only [e,if_false] at h4
     exact .inl (.inr ⟨p',r',VB,h1,h2,h3.resolve_left e,h4⟩)
  ·rintro ((h | ⟨p',r',VB,h1,h2,h3,h4⟩) | h)
   ·exact .inl h
   ·refine .inr ⟨p',r',VB,h1,h2,by simp [h3],?_⟩
    simp only [ek h3,if_false];exact h4
   ·exact .inr ⟨pre,r,rest,he,by simp [dg],by simp,by simp [h]⟩
 refine ⟨hI.closed.more dZ,?_,?_,?_,?_,?_,?_,?_,?_⟩
 ·intro k hk
  simp only [Bool.or_eq_true,beq_iff_eq] at hk
  rcases hk with rfl | hk
  ·rw [he];simp;omega
  ·exact hI.VA k hk
 ·rw [WR,lx];exact hI.heap.WO o
 ·rw [lx]
  exact (hI.val.mono le).put hI.closed hw hd he hS (by rw [hy];exact .top _)
 ·rw [put_defers];exact hI.defers
 ·rw [lx];exact hI.dx.mono le
 ·exact hI.ext.trans ((eT _).abq fun b h=>.inl h) (Nat.le_refl _)
 ·rw [lx];exact hI.le
 ·refine ⟨fun cd r' bk z' gn nI et=>?_,fun cd r' bk z' gn nI et t u ht hu=>?_,fun p1 r1 s1 p2 r2 s2 e1 e2 f1 f2 h1 h2 h=>?_,fun cd r' bk gn nI et=>?_⟩
  ·by_cases e:bk.length=rest.length
   ·have hrr:=(jY gn he e).1
    subst hrr
    rw [dg] at nI;cases nI
    refine ⟨qz,o,?_,ho⟩
    simp only [e,if_true]
    exact World.alloc_heap_new _ _
   ·simp only [Bool.or_eq_true,beq_iff_eq] at et
    have O7:=et.resolve_left e
    obtain ⟨abr,o',Ti,gL⟩:=hI.bx.obj _ _ _ _ gn nI O7
    refine ⟨abr,o',?_,gL⟩
    simp only [e,if_false]
    rw [cn _ (WS _ _ _ gn (by simp [nI]) O7)];exact Ti
  ·by_cases e:bk.length=rest.length
   ·have hrr:=(jY gn he e).1
    subst hrr
    rw [dg] at nI;cases nI
    have e2:(a.put r'.o.dst (WQ z.1 w.heap.size)).tmps=a.tmps.setIfInBounds t (WQ z.1 w.heap.size):=by rw [ht];rfl
    rw [e2,Array.getElem?_setIfInBounds,if_pos rfl] at hu
    split at hu
    ·simp only [Option.some.injEq] at hu
     simp only [e,if_true];exact hu.symm
    ·cases hu
   ·simp only [Bool.or_eq_true,beq_iff_eq] at et
    have O7:=et.resolve_left e
    simp only [e,if_false]
    refine hI.bx.tmp _ _ _ _ gn nI O7 t u ht ?_
    have aej:r.o.dst≠some t:=by
     intro hrt
     have h1:=Fy _ _ _ gn (by simp [nI])
     rw [ht] at h1
     have h2:=hd _ _ _ he
     rw [hrt] at h2
     have:=oc _ _ h1 _ h2
     omega
    unfold Act.put at hu
    split at hu
    ·rename_i d B_
     simp only [Array.getElem?_setIfInBounds] at hu
     rw [if_neg (by rintro rfl;exact aej B_)] at hu
     exact hu
    ·exact hu
  ·simp only [Bool.or_eq_true,beq_iff_eq] at h1 h2
   by_cases x1:s1.length=rest.length<;>by_cases x2:s2.length=rest.length
   ·omega
   ·simp only [x1,x2,if_true,if_false] at h
    have:=WS _ _ _ e2 f2 (h2.resolve_left x2);omega
   ·simp only [x1,x2,if_true,if_false] at h
    have:=WS _ _ _ e1 f1 (h1.resolve_left x1);omega
   ·simp only [x1,x2,if_false] at h
    exact hI.bx.inj _ _ _ _ _ _ e1 e2 f1 f2 (h1.resolve_left x1) (h2.resolve_left x2) h
  ·by_cases e:bk.length=rest.length
   ·simp only [e,if_true]
    intro hg
    have:=hI.heap.cn _ (.inr (.inl hg));omega
   ·simp only [Bool.or_eq_true,beq_iff_eq] at et
    simp only [e,if_false]
    exact hI.bx.out _ _ _ gn nI (et.resolve_left e)
end
end Go.Abs
end
noncomputable section
namespace Go.Abs
section
variable {P : Program} {Γ : bz} {fs : fb} {ops : Array Oper} {Ms : List Nat} {aC : List (Option Tmp)} {σ : St} {F G : Nat → Prop} {i : Nat → Nat} {a : Act} {w : World} {H : af}
theorem eM (tmps:List AV) (d:Option Tmp) (y:AV):(dt tmps d y).length=tmps.length:=by cases d<;>simp [dt]
theorem gP (tmps:List AV):∀ (R:List Rec),(bJ tmps R).length=tmps.length:=by
 intro R
 induction R with
 | nil=>rfl
 | cons r rs ih=>simp only [bJ,eM,ih]
theorem pO (tmps:List AV) {t:Nat} {x:AV}:∀ (R:List Rec),(bJ tmps R)[t]?=some x->gN t R=some x\/(gN t R=none/\tmps[t]?=some x):=by
 intro R
 induction R with
 | nil=>intro h;exact .inr ⟨rfl,h⟩
 | cons r rs ih=>
  intro h
  simp only [bJ] at h
  cases hd:r.o.dst with
  | none=>simp only [hd,dt,gN] at h ⊢;exact ih h
  | some u=>
   simp only [hd,dt,gN] at h ⊢
   by_cases e:u=t
   ·subst e
    rw [List.getElem?_set] at h
    simp only [if_true] at h
    split at h
    ·simp only [beq_self_eq_true,if_true];exact .inl h
    ·cases h
   ·have:(u==t)=false:=by simpa using e
    simp only [this,Bool.false_eq_true,if_false]
    rw [List.getElem?_set,if_neg e] at h
    exact ih h
theorem ba.VC {b:Nat} (hH:ba F (fun c=>G c\/c=b) i H w.heap) {row:eR} {o:Obj} (ho:w.heap[b]?=some o) (hr:∀ E,d_ E row o) (hb:¬ G b):
  ba F G (Abs.put i H.n b) (H.push row) w.heap:=by
 have le:Env.le ⟨F,w.heap,i,H.n⟩ ⟨F,w.heap,Abs.put i H.n b,H.n+1⟩:=
  ⟨fun _ h=>h,fun _ _=>rfl,Nat.le_succ _,fun s hs=>bD hs,fun _ c e z h=>⟨c,e,z,h,Nat.le_refl _⟩⟩
 refine ⟨fun r ro h=>?_,fun r ro h=>?_,fun r r' ro wJ h h' e=>?_,fun c hc=>hH.cn c (hc.imp id .inl),fun c hf hg=>hH.apart c hf (.inl hg),by simp [af.push,hH.ok]⟩
 ·rcases af.dS h with ⟨hl,h⟩ | ⟨rfl,rfl⟩
  ·obtain ⟨o',Ti,gL⟩:=hH.row r ro h
   exact ⟨o',by rw [bD hl];exact Ti,gL.mono le⟩
  ·exact ⟨o,by rw [aH];exact ho,hr _⟩
 ·rcases af.dS h with ⟨hl,h⟩ | ⟨rfl,rfl⟩
  ·rw [bD hl]
   have:=hH.out r ro h
   exact ⟨this.1,fun hg=>this.2 (.inl hg)⟩
  ·rw [aH]
   exact ⟨fun hf=>hH.apart b hf (.inr rfl),hb⟩
 ·rcases af.dS h with ⟨hl,k⟩ | ⟨k,k2⟩<;>rcases af.dS h' with ⟨nJ,k'⟩ | ⟨k',k2'⟩
  ·rw [bD hl,bD nJ] at e;exact hH.inj r r' ro wJ k k' e
  ·rw [bD hl,k',aH] at e;exact absurd (.inr e) (hH.out r ro k).2
  ·rw [bD nJ,k,aH] at e;exact absurd (.inr e.symm) (hH.out r' wJ k').2
  ·omega
def iB (R:List Rec) (bx:Nat->Nat) (L:Nat) (b:Nat):Prop:=∃ pre r rest,R=pre++r::rest/\r.fl.isSome=true/\L<=rest.length/\b=bx rest.length
variable {R : List Rec} {S : Nat → Bool} {bx : Nat → Nat}
theorem Tj {z:AV × List AV} (qz:DK z) {b n:Nat} {i1:Nat->Nat} {h:Array Obj} {o:Obj} (ho:h[b]?=some o) (hr:d_ ⟨F,h,Abs.put i1 n b,n+1⟩ (.cells z.2) o):
  ao ⟨F,h,Abs.put i1 n b,n+1⟩ (FT z.1 n) (WQ z.1 b):=by
 obtain ⟨x,cs⟩:=z
 have hp:ao ⟨F,h,Abs.put i1 n b,n+1⟩ (.ptr n 0) (.pointer (some ⟨b,0,none⟩)):=by
  have hv:=ao.ptr (E:=⟨F,h,Abs.put i1 n b,n+1⟩) n 0 (Nat.lt_succ_self _)
  simpa only [aH] using hv
 cases x with
 | slice r o l e=>
  obtain ⟨rfl,hle⟩:=qz
  cases hr with
  | cells _ vs t z hc=>
   have:=ao.slice (E:=⟨F,h,Abs.put i1 n b,n+1⟩) n 0 l e l (Nat.lt_succ_self _) (Nat.le_refl _) ⟨vs,t,z,by show h[Abs.put i1 n b n]?=_;rw [aH];exact ho,by have h1:cs.length<=vs.size:=hc.1;have h2:l*e<=cs.length:=hle;omega⟩
   simp only [aH] at this
   exact this
 | _=>exact hp
theorem O8 (hp:IC G R S bx a w) (hS:∀ k,k<R.length->S k=true) {T0:List AV} {H0:af} {i:Nat->Nat} (hH:ba F (fun b=>G b\/iB R bx 0 b) i H0 w.heap)
  (hT:ay ⟨F,w.heap,i,H0.n⟩ T0 a.tmps.toList):∀ (rs pre:List Rec),R=pre++rs->
  ∃ i',ba F (fun b=>G b\/iB R bx rs.length b) i' (cf rs T0 H0).2 w.heap/\ay ⟨F,w.heap,i',(cf rs T0 H0).2.n⟩ (cf rs T0 H0).1 a.tmps.toList/\(∀ r,r<H0.n->i' r=i r)/\H0.n<=(cf rs T0 H0).2.n:=by
 intro rs
 induction rs with
 | nil=>intro pre he;exact ⟨i,hH,hT,fun _ _=>rfl,Nat.le_refl _⟩
 | cons r rs ih=>
  intro pre he
  obtain ⟨i1,h1,h2,h3,h4⟩:=ih (pre++[r]) (by simp [he])
  have cC:rs.length<R.length:=by rw [he];simp;omega
  have K6:∀ b,iB R bx (rs.length+1) b->iB R bx rs.length b:=by
   rintro b ⟨p,r',rest,e1,e2,e3,e4⟩;exact ⟨p,r',rest,e1,e2,by omega,e4⟩
  cases dg:r.fl with
  | none=>
   simp only [cf,dg,List.length_cons]
   have dH:(fun b=>G b\/iB R bx (rs.length+1) b)=(fun b=>G b\/iB R bx rs.length b):=by
    funext b
    refine propext (or_congr Iff.rfl ⟨K6 b,?_⟩)
    rintro ⟨p,r',rest,e1,e2,e3,e4⟩
    refine ⟨p,r',rest,e1,e2,?_,e4⟩
    rcases Nat.lt_or_ge rs.length rest.length with h | h
    ·exact h
    ·have:=(jY e1 he (by omega)).1
     subst this
     rw [dg] at e2;cases e2
   rw [dH]
   exact ⟨i1,h1,h2,h3,h4⟩
  | some z=>
   simp only [cf,dg,List.length_cons]
   have hSr:=hS _ cC
   obtain ⟨qz,o,ho,hr⟩:=hp.obj _ _ _ _ he dg hSr
   have WT:(fun b=>G b\/iB R bx rs.length b)=(fun b=>(G b\/iB R bx (rs.length+1) b)\/b=bx rs.length):=by
    funext b
    refine propext ⟨?_,?_⟩
    ·rintro (h | ⟨p,r',rest,e1,e2,e3,e4⟩)
     ·exact .inl (.inl h)
     ·rcases Nat.lt_or_ge rs.length rest.length with h | h
      ·exact .inl (.inr ⟨p,r',rest,e1,e2,h,e4⟩)
      ·have:rest.length=rs.length:=by omega
       rw [this] at e4;exact .inr e4
    ·rintro ((h | h) | h)
     ·exact .inl h
     ·exact .inr (K6 b h)
     ·exact .inr ⟨pre,r,rs,he,by simp [dg],Nat.le_refl _,h⟩
   rw [WT] at h1
   have hb:¬ (G (bx rs.length)\/iB R bx (rs.length+1) (bx rs.length)):=by
    rintro (h | ⟨p,r',rest,e1,e2,e3,e4⟩)
    ·exact hp.out _ _ _ he (by simp [dg]) hSr h
    ·have O7:S rest.length=true:=hS _ (by rw [e1];simp;omega)
     have:=hp.inj _ _ _ _ _ _ he e1 (by simp [dg]) e2 hSr O7 e4
     omega
   have hA:=h1.VC ho hr hb
   have le:Env.le ⟨F,w.heap,i1,(cf rs T0 H0).2.n⟩ ⟨F,w.heap,Abs.put i1 (cf rs T0 H0).2.n (bx rs.length),(cf rs T0 H0).2.n+1⟩:=
    ⟨fun _ h=>h,fun _ _=>rfl,Nat.le_succ _,fun s hs=>bD hs,fun _ c e z h=>⟨c,e,z,h,Nat.le_refl _⟩⟩
   refine ⟨_,hA,?_,fun s hs=>?_,by simp;omega⟩
   ·have hv:ao ⟨F,w.heap,Abs.put i1 (cf rs T0 H0).2.n (bx rs.length),(cf rs T0 H0).2.n+1⟩ (FT z.1 (cf rs T0 H0).2.n) (WQ z.1 (bx rs.length)):=Tj qz ho (hr _)
    have hT2:=h2.mono le
    cases hd:r.o.dst with
    | none=>exact hT2
    | some t=>
     refine ⟨by rw [eM];exact hT2.1,fun j x v hx ey=>?_⟩
     simp only [dt] at hx
     rw [List.getElem?_set] at hx
     by_cases e:t=j
     ·subst e
      simp only [if_true] at hx
      split at hx
      ·simp only [Option.some.injEq] at hx;subst hx
       rw [Array.getElem?_toList] at ey
       rw [hp.tmp _ _ _ _ he dg hSr t v hd ey]
       exact hv
      ·cases hx
     ·rw [if_neg e] at hx
      exact hT2.2 j x v hx ey
   ·rw [bD (by omega)];exact h3 s hs
end
end Go.Abs
end
noncomputable section
namespace Go.Abs
section
variable {P : Program} {Γ : bz} {fs : fb} {ops : Array Oper} {Ms : List Nat} {σ : St} {F G : Nat → Prop} {i : Nat → Nat} {a : Act} {w : World} {H : af} {ro : Option Nat} {Q : Exit → Act → World → Prop}
def xA (l:List Bool):Nat:=l.countP (·==false)
theorem s_:∀ (l:List Bool) (j:Nat),l[j]?=some false->xA (l.set j true)+1=xA l:=by
 intro l
 induction l with
 | nil=>intro j h;simp at h
 | cons b l ih=>
  intro j h
  cases j with
  | zero=>simp only [List.getElem?_cons_zero,Option.some.injEq] at h;subst h;simp [xA]
  | succ j=>
   have:=ih j (by simpa using h)
   simp only [xA,List.set_cons_succ,List.countP_cons] at this ⊢
   omega
theorem xY:∀ (l:List Bool) (j:Nat),l[j]?=some false->0<xA l:=by
 intro l j h
 have:=s_ l j h
 omega
def oe (ops:Array Oper):Prop:=∀ j o,ops[j]?=some o->∀ e∈o.after,Region.binds .any e=true->e.on<j
theorem jB (hb:oe ops) {listed:Array Bool} (fI:listed.size=ops.size):∀ k,k<ops.size->listed.getD k true=false->∃ j,j∈Region.ready .any ops listed:=by
 intro k
 induction k using Nat.strongRecOn with
 | _ k ih=>
  intro hk hu
  have ho:ops[k]?=some ops[k]:=Array.getElem?_eq_getElem hk
  by_cases cR:∀ e∈ops[k].after,Region.binds .any e=true->listed.getD e.on false=true
  ·exact ⟨k,mem_ready.2 ⟨hu,_,ho,cR⟩⟩
  ·simp only [Classical.not_forall,not_imp] at cR
   obtain ⟨e,he,FZ,ek⟩:=cR
   have cC:=hb k _ ho e he FZ
   refine ih e.on cC (by omega) ?_
   have:e.on<listed.size:=by omega
   rw [Array.getD_eq_getD_getElem?,Array.getElem?_eq_getElem this] at ek ⊢
   simpa using ek
theorem dh {listed:Array Bool} {k:Nat} (h:listed.getD k true=false):listed.getD k false=false/\k<listed.size/\listed.toList[k]?=some false:=by
 rcases Nat.lt_or_ge k listed.size with hk | hk
 ·rw [Array.getD_eq_getD_getElem?,Array.getElem?_eq_getElem hk] at h ⊢
  refine ⟨by simpa using h,hk,?_⟩
  rw [Array.getElem?_toList,Array.getElem?_eq_getElem hk]
  simpa using h
 ·rw [Array.getD_eq_getD_getElem?,Array.getElem?_eq_none hk] at h;simp at h
theorem og {listed:Array Bool} {j k:Nat} (hj:j<listed.size):(listed.setIfInBounds j true).getD k false=(k==j||listed.getD k false):=by
 rw [Array.getD_eq_getD_getElem?,Array.getD_eq_getD_getElem?,Array.getElem?_setIfInBounds]
 by_cases e:j=k
 ·subst e;simp [hj]
 ·have:(k==j)=false:=by simpa using fun h=>e h.symm
  simp [e,this]
theorem ID (hm:∀ j o,ops[j]?=some o->oa Ms j o):∀ j k,j<ops.size->(Ms.getD j 0).testBit k=true->k<j:=by
 intro j
 induction j using Nat.strongRecOn with
 | _ j ih=>
  intro k hj hb
  obtain ⟨h1,h2⟩:=hm j _ (Array.getElem?_eq_getElem hj)
  obtain ⟨e,he,FZ,h⟩:=(h2 k).1 hb
  have cC:=h1 e he FZ
  rcases h with rfl | h
  ·exact cC
  ·have:=ih e.on cC k (by omega) h
   omega
theorem VD (cI:eC P Γ fs) (hm:∀ j o,ops[j]?=some o->oa Ms j o) {p:Nat} (hp:∀ j,p<=j->j<ops.size->Ms.getD j 0=2 ^ j-1):
  ∀ (os:List Oper) (j:Nat) (σ σ':St) (F:Nat->Prop) (i:Nat->Nat) (a:Act) (w:World) (listed:Array Bool) (fuel:Nat),os=ops.toList.drop j->p<=j->listed.size=ops.size->(∀ k,listed.getD k false=decide (k<j))->j<=ops.size->
   ops.size-j<=fuel->fc P Γ fs ops os σ=some σ'->iz Γ F G i σ a w->(∀ F' i' a' w',iz Γ F' G i' σ' a' w'->Ext σ.H.n F G i w F' i' w'->σ.H.n<=σ'.H.n->Q .normal a' w')->
   wpAnyIn (W ro) 0 P .any ops Q fuel listed a w:=by
 intro os
 induction os with
 | nil=>
  intro j σ σ' F i a w listed fuel SB hpj fI hl hj abt h hs hq
  simp only [fc,Option.some.injEq] at h;subst h
  have IE:ops.size<=j:=by
   have:=congrArg List.length SB
   simp at this;omega
  refine wpAnyIn_done ?_ (hq F i a w hs (Ext.refl _ _ _ _ _) (Nat.le_refl _)) fuel
  refine List.eq_nil_iff_forall_not_mem.2 fun k hk=>?_
  have h1:=dh (mem_ready.1 hk).1
  have h2:=hl k
  rw [h1.1] at h2
  have:=of_decide_eq_false h2.symm
  have:=h1.2.1
  omega
 | cons o os ih=>
  intro j σ σ' F i a w listed fuel SB hpj fI hl hj abt h hs hq
  have ho:ops[j]?=some o:=by
   have:(ops.toList.drop j)[0]?=some o:=by rw [←SB];rfl
   simpa using this
  have ahe:j<ops.size:=(Array.getElem?_eq_some_iff.1 ho).1
  have ael:os=ops.toList.drop (j+1):=by
   have:os=(ops.toList.drop j).drop 1:=by rw [←SB];rfl
   rw [this,List.drop_drop]
  obtain ⟨fuel,rfl⟩:∃ f,fuel=f+1:=⟨fuel-1,by omega⟩
  simp only [fc] at h
  split at h
  ·rename_i y H' cA
   have na:j∈Region.ready .any ops listed:=by
    refine mem_ready.2 ⟨?_,o,ho,fun e he hb=>?_⟩
    ·have:=hl j
     simp only [Nat.lt_irrefl,decide_false] at this
     rw [Array.getD_eq_getD_getElem?,Array.getElem?_eq_getElem (by omega)] at this ⊢
     simpa using this
    ·have:=(hm j o ho).1 e he hb
     rw [hl];simpa using this
   refine ⟨fun h0=>(by rw [h0] at na;cases na),fun k hk=>?_⟩
   obtain ⟨SC,ok,bw,cR⟩:=mem_ready.1 hk
   obtain ⟨iC,mz,_⟩:=dh SC
   have hkj:¬ k<j:=by
    have:=hl k;rw [iC] at this
    exact of_decide_eq_false this.symm
   have aem:k=j:=by
    rcases Nat.lt_or_ge j k with cC | IE
    ·exfalso
     have O5:(Ms.getD k 0).testBit j=true:=by
      rw [hp k (by omega) (by omega),Nat.testBit_two_pow_sub_one];simpa using cC
     obtain ⟨e,he,hb,hx⟩:=((hm k ok bw).2 j).1 O5
     have uP:=cR e he hb
     rw [hl] at uP
     have uP:=of_decide_eq_true uP
     rcases hx with hx | hx
     ·omega
     ·have:=ID hm e.on j (by omega) hx
      omega
    ·omega
   subst aem
   unfold wpOpIn
   simp only [ho]
   refine i_ cI hs.heap hs.dx (yN hs.tmps hs.dx) cA fun v w' F' i' dG=>?_
   refine ih (k+1) _ σ' F' i' _ w' _ fuel ael (by omega) (by simp [fI]) (fun l=>?_) (by omega) (by omega) h (hs.step dG o.dst) fun FP K0 OY K2 et he hle=>hq FP K0 OY K2 et (dG.ext.trans he dG.le) (Nat.le_trans dG.le hle)
   rw [og mz,hl l]
   by_cases e:l=k
   ·subst e;simp
   ·have:(l==k)=false:=by simpa using e
    rw [this,Bool.false_or]
    exact decide_eq_decide.2 (by omega)
  ·cases h
end
end Go.Abs
end
noncomputable section
namespace Go.Abs
section
variable {fp : B7} {P : Program} {Γ : bz} {fs : fb} {ops : Array Oper} {Ms : List Nat} {aC : List (Option Tmp)} {σ : St} {F G : Nat → Prop} {i : Nat → Nat} {a : Act} {w : World} {H : af} {ro : Option Nat} {Q : Exit → Act → World → Prop} {R : List Rec}
theorem iV:∀ (pre:List Rec) {R:List Rec} {r:Rec} {rest:List Rec},Good fp P Γ fs ops Ms aC σ R->R=pre++r::rest->K4 fp P Γ fs ops Ms aC σ r rest:=by
 intro pre
 induction pre with
 | nil=>intro R r rest hg he;subst he;exact hg.1
 | cons p pre ih=>intro R r rest hg he;subst he;exact ih hg.2 rfl
theorem IF:∀ (R:List Rec) (j:Nat),j<R.length->∃ pre r rest,R=pre++r::rest/\rest.length=j:=by
 intro R
 induction R with
 | nil=>intro j h;simp at h
 | cons r rs ih=>
  intro j h
  rcases Nat.lt_or_ge j rs.length with hl | hl
  ·obtain ⟨pre,r',rest,he,hr⟩:=ih j hl
   exact ⟨r::pre,r',rest,by simp [he],hr⟩
  ·exact ⟨[],r,rs,rfl,by simp at h;omega⟩
theorem O9 (l:List Bool) (p:Nat) (h:∀ k,p<=k->k<l.length->l[k]?=some false):l.length-p<=xA l:=by
 have h1:xA l=xA (l.take p)+xA (l.drop p):=by
  unfold xA
  rw [←List.countP_append,List.take_append_drop]
 have h2:xA (l.drop p)=(l.drop p).length:=by
  refine List.countP_eq_length.2 fun b hb=>?_
  obtain ⟨k,hk⟩:=List.mem_iff_getElem?.1 hb
  rw [List.getElem?_drop] at hk
  have cC:p+k<l.length:=(List.getElem?_eq_some_iff.1 hk).1
  rw [h (p+k) (by omega) cC] at hk
  simp only [Option.some.injEq] at hk;subst hk;rfl
 rw [h1,h2];simp
theorem MA {t:TypeId} {z:AV} (hz:zeroOf P t=some z) (w:World):∃ o,(Instr.alloc t true (.tuple #[])).run P w=.ok (.pointer (some ⟨w.heap.size,0,none⟩)) (w.alloc o)/\∀ E,d_ E (.cells z.cells) o:=by
 obtain ⟨zv,hzv,hr,hk⟩:=dC hz ⟨fun _=>False,#[],id,0⟩ w
 refine ⟨.cells zv.cells t,?_,fun E=>?_⟩
 ·simp only [Instr.alloc,Sem.run_bind,hzv,Result.andThen_ok,newVar,newRow,run_newObj,Sem.run_pure]
  rfl
 ·obtain ⟨zv',WU,gL,VE⟩:=dC hz E w
  have:zv'=zv:=by
   rw [hzv] at WU
   simp at WU;exact WU.symm
  subst this
  have hc:=gL.cells VE
  refine .cells _ _ _ _ ⟨by rw [hc.1];simp,fun j x v h1 h2=>hc.2 j x v h1 (by simpa using h2),fun j hj hz=>?_⟩
  simp at hz
theorem IG {j:Nat} {o:Oper} {z:AV} (h:rf P Ms j o=some z):∃ t,o.op=.alloc t/\o.guard=none/\zeroOf P t=some z:=by
 unfold rf at h
 split at h
 ·rename_i t ho
  split at h
  ·rename_i hg
   split at h
   ·exact ⟨t,ho,hg,h⟩
   ·cases h
  ·cases h
 ·cases h
theorem yY {j:Nat} {o:Oper} {ρ:Operand->AV} {z:AV × List AV} (h:Cv P fs Ms j o ρ=some z):o.guard=none/\((∃ t x,o.op=.alloc t/\zeroOf P t=some x/\z=(.ptr 0 0,x.cells))\/
  ∃ t n ps,∃ H:Nat × Nat,o.op=.buildSlice t n ps/\fs.fz t=false/\bC P { rev:=[],n:=0,fH:=0 } t n (ps.toList.map fun p=>(p.1,ρ p.2))=some (z.1,⟨[some (.cells z.2)],H.1,H.2⟩)/\z.2.all mw=true):=by
 unfold Cv at h
 split at h
 ·rename_i x hx
  obtain ⟨t,h1,h2,h3⟩:=IG hx
  simp only [Option.some.injEq] at h
  exact ⟨h2,.inl ⟨t,x,h1,h3,h.symm⟩⟩
 ·unfold s8 at h
  split at h
  ·rename_i t n ps ho
   split at h
   ·rename_i hg
    split at h
    ·rename_i hc
     simp only [Bool.and_eq_true,Bool.not_eq_true'] at hc
     split at h
     ·rename_i y cs m l hb
      split at h
      ·rename_i hr
       simp only [Option.some.injEq] at h
       subst h
       exact ⟨hg,.inr ⟨t,n,ps,(m,l),ho,hc.2,hb,hr⟩⟩
      ·cases h
     ·cases h
    ·cases h
   ·cases h
  ·cases h
theorem K7 {j:Nat} {o:Oper} {ρ:Operand->AV} {z:AV × List AV} (h:Cv P fs Ms j o ρ=some z) {E:Env} (xX:∀ x,ao E (ρ x) (a.eval x)) (w:World):
  ∃ ob,o.guard=none/\(∀ c,o.op≠.defer c)/\DK z/\(execOp a.eval o).run P w=.ok (.value (WQ z.1 w.heap.size)) (w.alloc ob)/\∀ E,d_ E (.cells z.2) ob:=by
 obtain ⟨hg,⟨t,x,ho,hz,rfl⟩ | ⟨t,n,ps,H,ho,_,hb,hr⟩⟩:=yY h
 ·obtain ⟨ob,cc,aG⟩:=MA hz w
  refine ⟨ob,hg,fun c hc=>(by rw [ho] at hc;cases hc),trivial,?_,aG⟩
  simp only [execOp,ho,Sem.run_bind,cc,Result.andThen_ok,Sem.run_pure]
  rfl
 ·obtain ⟨hl,hp⟩:=pP xX ps
  obtain ⟨e,aA,cs,vs,h1,h2,h3,h4,h5⟩:=n8 (mi:=ps.map fun p=>(p.1,a.eval p.2)) hb hl hp w
  obtain ⟨x,dE⟩:=z
  simp only at h1 h2 hr hb
  have h2':dE=cs:=by simp [af.push] at h2;exact h2.1
  subst h1;subst h2'
  refine ⟨.cells vs e,hg,fun c hc=>(by rw [ho] at hc;cases hc),⟨rfl,h3⟩,?_,fun E'=>?_⟩
  ·simp only [execOp,ho,Sem.run_bind,h5,Result.andThen_ok,Sem.run_pure]
   rfl
  ·refine .cells _ _ _ _ ⟨by rw [h4.1];simp,fun j x v a b=>?_,fun j hj hz=>?_⟩
   ·have hv:=h4.2 j x v a (by simpa using b)
    have hrx:=List.all_eq_true.1 hr x (List.mem_of_getElem? a)
    cases x<;>simp [mw] at hrx<;>cases hv<;>first | exact .bool _ | exact .int _ _ | exact .float _ _ | exact .string _ | exact .nan _ _ (by assumption)
   ·have:=h4.1;simp at this;omega
theorem abu (hk:s9 P fs ops fp) (cI:eC P Γ fs) {Mf:List Nat} (hm:∀ j o,ops[j]?=some o->oa Mf j o) {p:Nat} (hp:∀ j,p<=j->j<ops.size->Mf.getD j 0=2 ^ j-1) (hpn:p<=ops.size)
  (K8:∀ j,j<p->Ms.getD j 0=Mf.getD j 0) (hg:Good fp P Γ fs ops Ms aC σ R) (hlen:R.length=p) (hd:jm aC R) (hw:cV Ms aC aC 0=true) {F0:Nat->Prop} {i0:Nat->Nat} {w0:World} {σ':St}
  (WV:∀ r∈σ.defers,r<σ.H.n)
  (hB:fc P Γ fs ops (ops.toList.drop p) { σ with tmps:=(cf R (bJ σ.tmps R) (aS σ.H R)).1,H:=(cf R (bJ σ.tmps R) (aS σ.H R)).2 }=some σ')
  (hq:∀ F' i' a' w',iz Γ F' G i' σ' a' w'->Ext σ.H.n F0 G i0 w0 F' i' w'->σ.H.n<=σ'.H.n->Q .normal a' w'):
  ∀ (fuel:Nat) (listed:Array Bool) (F:Nat->Prop) (bx i:Nat->Nat) (a:Act) (w:World),listed.size=ops.size->xA listed.toList<=fuel->ri Γ Ms σ R F0 F G i0 w0 (fun k=>listed.getD k false) bx i a w->
   wpAnyIn (W ro) 0 P .any ops Q fuel listed a w:=by
 have yZ:oe ops:=fun j o ho=>(hm j o ho).1
 have Fy:∀ cd r' bk,R=cd++r'::bk->r'.fl.isSome=true->fV r'.o.dst bk.length aC 0=true:=by
  intro cd r' bk he hf
  obtain ⟨_,h⟩:=iV cd hg he
  cases dg:r'.fl with
  | none=>rw [dg] at hf;cases hf
  | some z=>simp only [dg] at h;exact h.2.2.2.2
 have finish:∀ (fuel:Nat) (listed:Array Bool) (F:Nat->Prop) (bx i:Nat->Nat) (a:Act) (w:World),listed.size=ops.size->xA listed.toList<=fuel->ri Γ Ms σ R F0 F G i0 w0 (fun k=>listed.getD k false) bx i a w->
   (∀ k,k<p->listed.getD k false=true)->wpAnyIn (W ro) 0 P .any ops Q fuel listed a w:=by
  intro fuel listed F bx i a w fI Fz hI cR
  have hl:∀ k,listed.getD k false=decide (k<p):=by
   intro k
   by_cases hk:k<p
   ·rw [cR k hk];simp [hk]
   ·cases hc:listed.getD k false with
    | false=>simp [hk]
    | true=>
     have:=hI.VA k hc
     omega
  have lx:eu σ.H (fun k=>listed.getD k false) R=aS σ.H R:=yV R fun pre r rest he _=>cR _ (by rw [←hlen,he];simp;omega)
  have WR:(fun b=>G b\/yX R (fun k=>listed.getD k false) bx b)=(fun b=>G b\/iB R bx 0 b):=by
   funext b
   refine propext (or_congr Iff.rfl ⟨?_,?_⟩)
   ·rintro ⟨p1,r1,s1,h1,h2,h3,h4⟩;exact ⟨p1,r1,s1,h1,h2,Nat.zero_le _,h4⟩
   ·rintro ⟨p1,r1,s1,h1,h2,h3,h4⟩;exact ⟨p1,r1,s1,h1,h2,cR _ (by rw [←hlen,h1];simp;omega),h4⟩
  have hH:=hI.heap
  rw [WR,lx] at hH
  have hT:ay ⟨F,w.heap,i,(aS σ.H R).n⟩ (bJ σ.tmps R) a.tmps.toList:=by
   refine ⟨by rw [gP];simpa using hI.val.1.symm,fun t x v hx hv=>?_⟩
   have ey:=hI.val.2 t v (by simpa using hv)
   rw [uN R fun pre r rest he _=>cR _ (by rw [←hlen,he];simp;omega),lx] at ey
   rcases pO σ.tmps R hx with h | ⟨h,h2⟩
   ·rw [h] at ey;exact ey
   ·rw [h] at ey;exact ey x h2
  obtain ⟨i',k1,k2,k3,k4⟩:=O8 hI.bx (fun k hk=>cR k (by omega)) hH hT R [] rfl
  have hG:(fun b=>G b\/iB R bx R.length b)=G:=by
   funext b
   refine propext ⟨?_,.inl⟩
   rintro (h | ⟨p1,r1,s1,h1,h2,h3,h4⟩)
   ·exact h
   ·have:s1.length<R.length:=by rw [h1];simp;omega
    omega
  rw [hG] at k1
  have hle:=hI.le
  rw [lx] at hle
  have eT:Ext σ.H.n F0 G i0 w0 F i' w:={ hI.ext with same:=fun r hr=>(k3 r (by omega)).trans (hI.ext.same r hr) }
  have y5:=hI.dx
  rw [lx] at y5
  have le:Env.le ⟨F,w.heap,i,(aS σ.H R).n⟩ ⟨F,w.heap,i',(cf R (bJ σ.tmps R) (aS σ.H R)).2.n⟩:=
   ⟨fun _ h=>h,fun _ _=>rfl,k4,k3,fun _ c e z h=>⟨c,e,z,h,Nat.le_refl _⟩⟩
  have hs:iz Γ F G i' { σ with tmps:=(cf R (bJ σ.tmps R) (aS σ.H R)).1,H:=(cf R (bJ σ.tmps R) (aS σ.H R)).2 } a w:=by
   refine ⟨k2,?_,fun r hr=>Nat.lt_of_lt_of_le (WV r hr) (Nat.le_trans hle k4),k1,y5.mono le⟩
   rw [hI.defers]
   refine List.map_congr_left fun r hr=>?_
   unfold mark
   rw [eT.same r (WV r hr)]
  refine VD cI hm hp (ops.toList.drop p) p _ σ' F i' a w listed fuel rfl (Nat.le_refl _) fI hl hpn ?_ hB hs fun FP K0 OY K2 et he q9=>hq FP K0 OY K2 et (eT.trans he (Nat.le_trans hle k4)) (Nat.le_trans (Nat.le_trans hle k4) q9)
  have IE:=O9 listed.toList p fun k hk hkl=>by
   have iC:k<listed.size:=by simpa using hkl
   have:=hl k
   rw [Array.getD_eq_getD_getElem?,Array.getElem?_eq_getElem iC] at this
   rw [Array.getElem?_toList,Array.getElem?_eq_getElem iC]
   have h3:¬ k<p:=by omega
   simp only [Option.getD_some,h3,decide_false] at this
   rw [this]
  have:listed.toList.length=ops.size:=by simpa using fI
  omega
 intro fuel
 induction fuel with
 | zero=>
  intro listed F bx i a w fI Fz hI
  refine finish 0 listed F bx i a w fI Fz hI fun k hk=>?_
  cases hc:listed.getD k false with
  | true=>rfl
  | false=>
   exfalso
   have iC:k<listed.size:=by omega
   rw [Array.getD_eq_getD_getElem?,Array.getElem?_eq_getElem iC] at hc
   have:=xY listed.toList k (by rw [Array.getElem?_toList,Array.getElem?_eq_getElem iC];simpa using hc)
   omega
 | succ fuel ih=>
  intro listed F bx i a w fI Fz hI
  by_cases cR:∀ k,k<p->listed.getD k false=true
  ·exact finish (fuel+1) listed F bx i a w fI Fz hI cR
  simp only [Classical.not_forall,not_imp,Bool.not_eq_true] at cR
  obtain ⟨k0,hk0,MB⟩:=cR
  have Mu:listed.getD k0 true=false:=by
   have iC:k0<listed.size:=by omega
   rw [Array.getD_eq_getD_getElem?,Array.getElem?_eq_getElem iC] at MB ⊢
   exact MB
  obtain ⟨j0,IH⟩:=jB yZ fI k0 (by omega) Mu
  refine ⟨fun h0=>(by rw [h0] at IH;cases IH),fun j hj=>?_⟩
  obtain ⟨WW,oj,FA,lA⟩:=mem_ready.1 hj
  obtain ⟨xB,hj3,hj4⟩:=dh WW
  have lr:j<ops.size:=by omega
  have F3:∀ k,(Mf.getD j 0).testBit k=true->listed.getD k false=true:=by
   intro k hb
   obtain ⟨e,he,FZ,h⟩:=((hm j oj FA).2 k).1 hb
   have uP:=lA e he FZ
   rcases h with rfl | h
   ·exact uP
   ·refine hI.closed.down e.on k uP ?_
    rw [K8 e.on (by rw [←hlen];exact hI.VA _ uP)]
    exact h
  have VF:j<p:=by
   rcases Nat.lt_or_ge j p with h | h
   ·exact h
   ·exfalso
    have hb:(Mf.getD j 0).testBit k0=true:=by
     rw [hp j h lr,Nat.testBit_two_pow_sub_one];simp;omega
    rw [F3 k0 hb] at MB;cases MB
  have dZ:∀ k,(Ms.getD j 0).testBit k=true->listed.getD k false=true:=fun k hb=>F3 k (by rw [←K8 j VF];exact hb)
  obtain ⟨pre,r,rest,he,DH⟩:=IF R j (by omega)
  subst DH
  obtain ⟨uJ,xC⟩:=iV pre hg he
  rw [uJ] at FA
  simp only [Option.some.injEq] at FA;subst FA
  have WX:(fun k=>(listed.setIfInBounds rest.length true).getD k false)=(fun k=>k==rest.length||listed.getD k false):=funext fun k=>og hj3
  have II:xA (listed.setIfInBounds rest.length true).toList<=fuel:=by
   have:=s_ listed.toList rest.length hj4
   rw [Array.toList_setIfInBounds]
   omega
  have next:∀ F' y7 i' a' w',ri Γ Ms σ R F0 F' G i0 w0 (fun k=>k==rest.length||listed.getD k false) y7 i' a' w'->wpAnyIn (W ro) 0 P .any ops Q fuel (listed.setIfInBounds rest.length true) a' w':=
   fun F' y7 i' a' w' hI'=>ih _ F' y7 i' a' w' (by simpa using fI) II (by rw [WX];exact hI')
  unfold wpOpIn
  simp only [uJ]
  cases dg:r.fl with
  | some z=>
   simp only [dg] at xC
   obtain ⟨hρ,hy,bZ,WY,_⟩:=xC
   have xX:∀ x,ao ⟨F,w.heap,i,(eu σ.H (fun k=>listed.getD k false) R).n⟩ (r.ρ x) (a.eval x):=by
    intro x
    rw [hρ]
    exact hI.val.eval hI.closed hd he xB dZ (iZ hI.dx σ.tmps) x
   obtain ⟨o,VG,BZ,qz,cc,aG⟩:=K7 WY xX w
   have O_:Region.wanted r.o (yielded ops a.tmps)=true:=by simp [Region.wanted,VG]
   rw [if_pos O_]
   refine ⟨fun _ _=>trivial,?_⟩
   rw [Oper.semAt_eq _ _ _ BZ]
   rw [cc]
   exact next _ _ _ _ _ (hI.float hd hw he xB dZ qz dg hy bZ Fy aG)
  | none=>
   simp only [dg] at xC
   obtain ⟨hρ,H',cA,Pa⟩:=xC
   have xX:∀ x,ao ⟨F,w.heap,i,(eu σ.H (fun k=>listed.getD k false) R).n⟩ (r.ρ x) (a.eval x):=by
    intro x
    rw [hρ]
    exact hI.val.eval hI.closed hd he xB dZ (iZ hI.dx σ.tmps) x
   rcases Pa with ⟨bZ,_⟩ | ⟨bZ,SD,Th,WM⟩
   ·have h2:=yW hk hI.closed hg pre he dg bZ xB dZ
    exact i_ cI hI.heap hI.dx xX h2 fun v w' F' i' dG=>next _ _ _ _ _ (hI.step hd hw he xB dZ dg Fy (uO pre he bZ) dG)
   ·obtain ⟨c1,c2⟩:=FW hI.closed hg pre he bZ xB dZ
    rw [←c1,SD] at cA
    exact i_ cI hI.heap hI.dx xX cA fun v w' F' i' dG=>next _ _ _ _ _ (hI.step hd hw he xB dZ dg Fy c2 dG)
theorem Cy (cI:eC P Γ fs) (bw:σ.H.rev.length=σ.H.n):∀ (R:List Rec),Good fp P Γ fs ops Ms aC σ R->dD σ.H (aS σ.H R):=by
 intro R
 induction R with
 | nil=>intro _;exact dD.refl bw
 | cons r rs ih=>
  intro hg
  have h1:=ih hg.2
  obtain ⟨⟨_,h⟩,_⟩:=hg
  simp only [aS]
  cases bZ:r.add with
  | false=>simp only [Bool.false_eq_true,if_false];exact h1
  | true=>
   simp only [if_true]
   cases dg:r.fl with
   | some z=>simp only [dg] at h;rw [h.2.2.1] at bZ;cases bZ
   | none=>
    simp only [dg] at h
    obtain ⟨_,H',cA,hk⟩:=h
    rcases hk with ⟨hk,_⟩ | ⟨_,hk,_⟩
    ·rw [bZ] at hk;cases hk
    ·subst hk
     exact h1.trans (nc cI h1.ok cA)
theorem Cz {T:List AV} {H:af} (bw:H.rev.length=H.n):∀ (R:List Rec),dD H (cf R T H).2:=by
 intro R
 induction R with
 | nil=>exact dD.refl bw
 | cons r rs ih=>
  simp only [cf]
  cases dg:r.fl with
  | none=>exact ih
  | some z=>exact ih.trans ((gg.push _).grow ih.ok)
theorem CA {H0:af} {S:Nat->Bool} (hS:∀ k,S k=false):∀ (R:List Rec),eu H0 S R=H0:=by
 intro R
 induction R with
 | nil=>rfl
 | cons r rs ih=>simp only [eu,hS,Bool.and_false,Bool.false_eq_true,if_false,ih]
theorem y8 {S:Nat->Bool} (hS:∀ k,S k=false) {t:Tmp}:∀ (R:List Rec),fC S t R=none:=by
 intro R
 induction R with
 | nil=>rfl
 | cons r rs ih=>
  simp only [fC,hS,Bool.and_false,Bool.false_eq_true,if_false,ih]
  split<;>rfl
theorem CB (hk:s9 P fs ops fp) (cI:eC P Γ fs) {σ':St} (h:m9 fp P Γ fs ops σ=some σ'):qZ P Γ ops σ σ':=by
 unfold m9 at h
 split at h
 ·rename_i Mf Tk
  simp only at h
  split at h
  ·rename_i hw
   split at h
   ·rename_i R hR
    have hB:fc P Γ fs ops (ops.toList.drop (bb Mf 0 0)) { σ with tmps:=(cf R (bJ σ.tmps R) (aS σ.H R)).1,H:=(cf R (bJ σ.tmps R) (aS σ.H R)).2 }=some σ':=h
    clear h
    obtain ⟨m1,_,m3⟩:=wF _ _ _ _ Tk rfl
    have hm:∀ j o,ops[j]?=some o->oa Mf j o:=fun j o ho=>by
     have:=m3 j o (by simpa using ho)
     rwa [Nat.zero_add] at this
    obtain ⟨p1,_,p3⟩:=wG Mf 0 0 (Nat.le_refl _)
    have abw:Mf.length=ops.size:=by simpa using m1
    generalize hpp:bb Mf 0 0=p at *
    have hpn:p<=ops.size:=by omega
    have hp:∀ j,p<=j->j<ops.size->Mf.getD j 0=2 ^ j-1:=by
     intro j hj lr
     have:=p3 j Mf[j] (List.getElem?_eq_getElem (by omega)) (by omega)
     rw [List.getD_eq_getElem?_getD,List.getElem?_eq_getElem (by omega:j<Mf.length)]
     simpa using this
    have K8:∀ j,j<p->(Mf.take p).getD j 0=Mf.getD j 0:=by
     intro j hj
     rw [List.getD_eq_getElem?_getD,List.getD_eq_getElem?_getD,List.getElem?_take,if_pos hj]
    obtain ⟨g1,g2⟩:=Cw (ops.toList.take p) [] R hR trivial (fun t o ht=>by
     rw [List.getElem?_take] at ht
     split at ht
     ·simpa using ht
     ·cases ht)
    have hlen:R.length=p:=by
     rw [g2]
     have:ops.toList.length=ops.size:=by simp
     simp only [List.length_nil,List.length_take];omega
    have hd:jm ((ops.toList.take p).map (·.dst)) R:=by
     intro pre r rest he
     have ho:=(iV pre g1 he).1
     have cC:rest.length<p:=by rw [←hlen,he];simp;omega
     rw [List.getElem?_map,List.getElem?_take,if_pos cC,Array.getElem?_toList,ho]
     rfl
    refine ⟨fun bw=>?_,fun ro F G i a w Q hs hq=>?_⟩
    ·have t1:=Cy cI bw R g1
     have t2:=Cz (T:=bJ σ.tmps R) t1.ok R
     exact (t1.trans t2).trans (uQ cI _ _ _ t2.ok hB).1
    ·have hS:∀ k,(Array.replicate ops.size false).getD k false=false:=by
      intro k
      rw [Array.getD_eq_getD_getElem?,Array.getElem?_replicate]
      split<;>rfl
     have hN:∀ {C:Prop} k,(fun k=>(Array.replicate ops.size false).getD k false) k=true->C:=fun k h=>by
      have h2:(Array.replicate ops.size false).getD k false=true:=h
      rw [hS] at h2;cases h2
     have Fz:xA (Array.replicate ops.size false).toList<=ops.size:=by
      have:=List.countP_le_length (p:=(·==false)) (l:=(Array.replicate ops.size false).toList)
      simp only [Array.length_toList,Array.size_replicate] at this
      exact this
     have hc:eu σ.H (fun k=>(Array.replicate ops.size false).getD k false) R=σ.H:=CA hS R
     refine abu hk cI hm hp hpn K8 g1 hlen hd hw hs.mZ hB hq ops.size _ F (fun _=>0) i a w (by simp) Fz ?_
     refine ⟨⟨fun j k hj _=>?_⟩,fun k hk=>?_,?_,?_,hs.defers,?_,Ext.refl _ _ _ _ _,?_,⟨?_,?_,?_,?_⟩⟩
     ·exact hN _ hj
     ·exact hN _ hk
     ·rw [hc]
      have hG:(fun b=>G b\/yX R (fun k=>(Array.replicate ops.size false).getD k false) (fun _=>0) b)=G:=by
       funext b
       refine propext ⟨?_,.inl⟩
       rintro (h | ⟨_,_,_,_,_,h,_⟩)
       ·exact h
       ·exact hN _ h
      rw [hG];exact hs.heap
     ·rw [hc]
      refine ⟨by have:=hs.tmps.1;simpa using this.symm,fun t v hv=>?_⟩
      rw [y8 hS]
      exact fun x hx=>hs.tmps.2 t x v hx (by simpa using hv)
     ·rw [hc];exact hs.dx
     ·rw [hc];exact Nat.le_refl _
     ·intro _ _ _ _ _ _ h;exact hN _ h
     ·intro _ _ _ _ _ _ h;exact hN _ h
     ·intro _ _ _ _ _ _ _ _ _ _ h;exact hN _ h
     ·intro _ _ _ _ _ h;exact hN _ h
   ·cases h
  ·cases h
 ·cases h
theorem oh (cI:eC P Γ fs) {σ':St} (h:n_ P Γ fs ops σ=some σ'):qZ P Γ ops σ σ':=CB My cI h
end
end Go.Abs
end
noncomputable section
namespace Go.Abs
inductive Pure:AV->Prop
 | top:Pure .top
 | bool (b:Bool):Pure (.bool b)
 | int (k:IntKind) (n:Int):Pure (.int k n)
 | float (k:FloatKind) (n:Nat):Pure (.float k n)
 | nan (k:FloatKind):Pure (.nan k)
 | string (s:ByteArray):Pure (.string s)
 | bI:Pure .bI
 | dK (cells:List AV) (off:Nat) (h:∀ x∈cells,Pure x):Pure (.dK cells off)
 | av:Pure .av
 | list (len:Nat) (cells:List AV) (h:∀ x∈cells,Pure x):Pure (.list len cells)
 | nl (len:Nat) (cells:List AV) (h:∀ x∈cells,Pure x):Pure (.nl len cells)
 | fB:Pure .fB
 | func (f:FuncId) (first captured:List AV) (h1:∀ x∈first,Pure x) (h2:∀ x∈captured,Pure x):Pure (.func f first captured)
 | nilFunc:Pure .nilFunc
 | iface (t:TypeId) (x:AV) (h:Pure x):Pure (.iface t x)
 | nilIface:Pure .nilIface
 | agg (cells:List AV) (h:∀ x∈cells,Pure x):Pure (.agg cells)
 | tuple (cells:List AV) (h:∀ x∈cells,Pure x):Pure (.tuple cells)
theorem ao.pure {E:Env} {x:AV} {v:Value} (h:ao E x v) (hp:Pure x) (i:Nat->Nat) (N:Nat):ao ⟨E.F,E.h,i,N⟩ x v:=by
 induction h with
 | top v=>exact .top v
 | bool b=>exact .bool b
 | int k n=>exact .int k n
 | float k n=>exact .float k n
 | nan k n h=>exact .nan k n h
 | string s=>exact .string s
 | bI=>exact .bI
 | ptr r off hr=>cases hp
 | dK cells off b o vs hF hm hl _ ih=>cases hp with | dK _ _ hc=>exact .dK cells off b o vs hF hm hl fun j x v h1 h2=>ih j x v h1 h2 (hc x (List.mem_of_getElem? h1))
 | av=>exact .av
 | slice r off len aA cap hr hc hb=>cases hp
 | bY len cap a hc=>exact .bY len cap a hc
 | wD=>exact .wD
 | nl len cap cells b o vs h0 hc hF hm hl _ ih=>cases hp with | nl _ _ te=>exact .nl len cap cells b o vs h0 hc hF hm hl fun j x v h1 h2=>ih j x v h1 h2 (te x (List.mem_of_getElem? h1))
 | list len cap cells b o vs hc hF hm hl _ ih=>cases hp with | list _ _ te=>exact .list len cap cells b o vs hc hF hm hl fun j x v h1 h2=>ih j x v h1 h2 (te x (List.mem_of_getElem? h1))
 | map r hr=>cases hp
 | fB=>exact .fB
 | func f first captured cX iI h1 h2 _ _ mC tr=>
  cases hp with
  | func _ _ _ p1 p2=>exact .func f first captured cX iI h1 h2 (fun j x v a b=>mC j x v a b (p1 x (List.mem_of_getElem? a))) (fun j x v a b=>tr j x v a b (p2 x (List.mem_of_getElem? a)))
 | yield r hr=>cases hp
 | nilFunc=>exact .nilFunc
 | iface t x v _ ih=>cases hp with | iface _ _ h=>exact .iface t x v (ih h)
 | nilIface=>exact .nilIface
 | agg cells vs hl _ ih=>cases hp with | agg _ hc=>exact .agg cells vs hl fun j x v h1 h2=>ih j x v h1 h2 (hc x (List.mem_of_getElem? h1))
 | tuple cells vs hl _ ih=>cases hp with | tuple _ hc=>exact .tuple cells vs hl fun j x v h1 h2=>ih j x v h1 h2 (hc x (List.mem_of_getElem? h1))
def af.empty:af:={ rev:=[],n:=0,fH:=0 }
theorem af.fM (r:Nat):af.empty.get r=none:=by simp [af.get,af.empty]
section
variable {P : Program} {Γ : bz} {g : FuncId} {args : List AV} {y : AV} {H' : af} {F G : Nat → Prop} {i : Nat → Nat} {w : World} {H : af}
def Pw (G:Nat->Prop) (i:Nat->Nat) (H:af) (b:Nat):Prop:=G b\/∃ r row,H.get r=some row/\b=i r
theorem ba.none (hH:ba F G i H w.heap):ba F (Pw G i H) i af.empty w.heap:=by
 refine ⟨fun r row h=>?_,fun r row h=>?_,fun r r' a b h=>?_,fun b hb=>?_,fun b hf hg=>?_,rfl⟩
 ·rw [af.fM] at h;cases h
 ·rw [af.fM] at h;cases h
 ·rw [af.fM] at h;cases h
 ·rcases hb with hb | hb | ⟨r,row,hr,rfl⟩
  ·exact hH.cn b (.inl hb)
  ·exact hH.cn b (.inr hb)
  ·obtain ⟨o,ho,_⟩:=hH.row r row hr
   exact (Array.getElem?_eq_some_iff.1 ho).1
 ·rcases hg with hg | ⟨r,row,hr,rfl⟩
  ·exact hH.apart b hf hg
  ·exact (hH.out r row hr).1 hf
theorem ba.back (hH:ba F G i H w.heap) {w':World} {F':Nat->Prop} {i':Nat->Nat} {K:Nat} {H':af} (hN:ba F' (Pw G i H) i' H' w'.heap) (he:Ext K F (Pw G i H) i w F' i' w'):ba F' G i H w'.heap/\Ext H.n F G i w F' i w':=by
 have le:Env.le ⟨F,w.heap,i,H.n⟩ ⟨F',w'.heap,i,H.n⟩:=⟨he.grow,fun b hb=>he.aP b (.inl hb),Nat.le_refl _,fun _ _=>rfl,he.cells⟩
 refine ⟨⟨fun r row h=>?_,fun r row h=>⟨fun hF=>hN.apart _ hF (.inr ⟨r,row,h,rfl⟩),(hH.out r row h).2⟩,hH.inj,fun b hb=>hb.elim (fun hF=>hN.cn b (.inl hF)) (fun hG=>hN.cn b (.inr (.inl hG))),fun b hF hG=>hN.apart b hF (.inl hG),hH.ok⟩,⟨he.grow,fun b hb=>he.aP b (hb.imp id .inl),he.size,he.cells,fun _ _=>rfl,he.os,he.output,he.tape⟩⟩
 obtain ⟨o,ho,hr⟩:=hH.row r row h
 exact ⟨o,by rw [he.aP _ (.inr (.inr ⟨r,row,h,rfl⟩))];exact ho,hr.mono le⟩
theorem ay.pure {E:Env} {xs:List AV} {vs:List Value} (h:ay E xs vs) (hp:∀ x∈xs,Pure x) (i:Nat->Nat) (N:Nat):ay ⟨E.F,E.h,i,N⟩ xs vs:=
 ⟨h.1,fun j x v h1 h2=>(h.2 j x v h1 h2).pure (hp x (List.mem_of_getElem? h1)) i N⟩
def jM (Γ:bz):Prop:=∀ g cells,Γ g=some cells->∀ x∈cells,Pure x
theorem fq.pure {h:Array Obj} {N:Nat} (hg:fq Γ F h i N) (hp:jM Γ) (i':Nat->Nat) (N':Nat):fq Γ F h i' N':=
 ⟨fun g cells e=>(hg.at_ g cells e).pure (.dK _ _ (hp g cells e)) i' N'⟩
theorem CallOk.anywhere (hΓ:jM Γ) (h:CallOk P Γ g args af.empty y H') (cW:∀ x∈args,Pure x) (hy:Pure y) (H:af):CallOk P Γ g args H y H:=by
 refine ⟨fun bw=>dD.refl bw,h.fn,fun F G i w ai hH hg hA=>?_⟩
 refine CallsIn.mono (h.lu F (Pw G i H) i w ai hH.none (hg.pure hΓ _ _) (hA.pure cW _ _)) fun e w' he=>?_
 cases e with
 | panicked c=>exact he.elim
 | outgrown=>exact he.elim
 | returned v=>
  obtain ⟨F',i',dG⟩:=he
  obtain ⟨k1,k2⟩:=hH.back dG.heap dG.ext
  exact ⟨F',i,dG.val.pure hy i H.n,k1,k2,Nat.le_refl _⟩
theorem CallOk.fresh (hΓ:jM Γ) {r off len aA:Nat} {cs:List AV} (h:CallOk P Γ g args af.empty (.slice r off len aA) H') (cW:∀ x∈args,Pure x) (hr:H'.get r=some (.cells cs)) (te:∀ x∈cs,Pure x) (H:af):
  CallOk P Γ g args H (.slice H.n off len aA) (H.push (.cells cs)):=by
 refine ⟨fun bw=>(gg.push _).grow bw,h.fn,fun F G i w ai hH hg hA=>?_⟩
 refine CallsIn.mono (h.lu F (Pw G i H) i w ai hH.none (hg.pure hΓ _ _) (hA.pure cW _ _)) fun e w' he=>?_
 cases e with
 | panicked c=>exact he.elim
 | outgrown=>exact he.elim
 | returned v=>
  obtain ⟨F',i',dG⟩:=he
  obtain ⟨k1,k2⟩:=hH.back dG.heap dG.ext
  obtain ⟨o,ho,uJ⟩:=dG.heap.row r _ hr
  have Tw:=dG.heap.out r _ hr
  cases uJ with
  | cells _ c e z hc=>
   have le:Env.le ⟨F',w'.heap,i,H.n⟩ ⟨F',w'.heap,Abs.put i H.n (i' r),H.n+1⟩:=
    ⟨fun _ h=>h,fun _ _=>rfl,Nat.le_succ _,fun s hs=>bD hs,fun _ c e z h=>⟨c,e,z,h,Nat.le_refl _⟩⟩
   have nT:pU ⟨F',w'.heap,Abs.put i H.n (i' r),H.n+1⟩ cs c z:=⟨hc.len,fun j x v p q=>(hc.val j x v p q).pure (te x (List.mem_of_getElem? p)) _ _,hc.free⟩
   refine ⟨F',Abs.put i H.n (i' r),?_,⟨fun s row hs=>?_,fun s row hs=>?_,fun s s' ro wJ h1 h2 e=>?_,k1.cn,k1.apart,by simp [af.push,hH.ok]⟩,?_,by simp⟩
   ·have hv:=dG.val
    cases hv with
    | slice _ _ _ _ cap gL qY hb=>
     have:=ao.slice (E:=⟨F',w'.heap,Abs.put i H.n (i' r),H.n+1⟩) H.n off len aA cap (Nat.lt_succ_self _) qY (by
      obtain ⟨c2,e2,z2,h1,h2⟩:=hb
      exact ⟨c2,e2,z2,by simp only [aH];exact h1,h2⟩)
     simp only [aH] at this
     exact this
   ·rcases af.dS hs with ⟨hl,hs⟩ | ⟨rfl,rfl⟩
    ·obtain ⟨o',Ti,gL⟩:=k1.row s row hs
     exact ⟨o',by rw [bD hl];exact Ti,gL.mono le⟩
    ·exact ⟨_,by rw [aH];exact ho,.cells _ _ _ _ nT⟩
   ·rcases af.dS hs with ⟨hl,hs⟩ | ⟨rfl,rfl⟩
    ·rw [bD hl];exact k1.out s row hs
    ·rw [aH];exact ⟨Tw.1,fun hG=>Tw.2 (.inl hG)⟩
   ·rcases af.dS h1 with ⟨hl,a1⟩ | ⟨a1,a2⟩<;>rcases af.dS h2 with ⟨nJ,b1⟩ | ⟨b1,b2⟩
    ·rw [bD hl,bD nJ] at e;exact k1.inj s s' ro wJ a1 b1 e
    ·rw [bD hl,b1,aH] at e
     exact absurd (.inr ⟨s,ro,a1,e.symm⟩) Tw.2
    ·rw [bD nJ,a1,aH] at e
     exact absurd (.inr ⟨s',wJ,b1,e⟩) Tw.2
    ·omega
   ·exact { k2 with same:=fun s hs=>bD hs }
end
end Go.Abs
end
noncomputable section
namespace Go.Abs
structure aew where
  run:St->Option (Exit × St)
structure OpS where
  run:(Operand->AV)->af->Option (AV × af)
def abD (l:List AV):Nat->AV:=
  List.rec (motive:=fun _=>Nat->AV) (fun _=>.top) (fun x _ ih n=>Nat.rec (motive:=fun _=>AV) x (fun m _=>ih m) n) l
def W4 (l:List AV) (y:AV):Nat->List AV:=
  List.rec (motive:=fun _=>Nat->List AV) (fun _=>[]) (fun x xs ih n=>Nat.rec (motive:=fun _=>List AV) (y::xs) (fun m _=>x::ih m) n) l
theorem To (l:List AV) (n:Nat):abD l n=(l[n]?).getD .top:=by
  induction l generalizing n with
  | nil=>rfl
  | cons x xs ih=>cases n with
    | zero=>rfl
    | succ n=>rw [List.getElem?_cons_succ,←ih n];rfl
theorem Tp (l:List AV) (y:AV) (n:Nat):W4 l y n=l.set n y:=by
  induction l generalizing n with
  | nil=>rfl
  | cons x xs ih=>cases n with
    | zero=>rfl
    | succ n=>simp only [List.set_cons_succ,←ih n];rfl
def evF (Γ:bz) (tmps:List AV):Operand->AV
  | .tmp t=>abD tmps t
  | .const v=>cM v
  | .global g=>match Γ g with
    | some cells=>.dK cells 0
    | none=>.top
  | .func f=>.func f [] []
theorem Pg (Γ:bz) (tmps:List AV):evF Γ tmps=ev Γ tmps:=by
  funext x;cases x<;>first | exact To _ _ | rfl
def vH (x:Option AV) (H:af):Option (AV × af):=
  match x with
  | some y=>some (y,H)
  | none=>none
def IJ (P:Program) (fs:fb) (o:Oper):OpS:=
  match o.op with
  | .move x=>⟨fun ρ H=>some (ρ x,H)⟩
  | .assign x=>⟨fun ρ H=>some (ρ x,H)⟩
  | .load t a=>⟨fun ρ H=>vH (nN P H t (ρ a)) H⟩
  | .nilCheck x=>⟨fun ρ H=>vH (jL (ρ x)) H⟩
  | .binOp op t x y _=>⟨fun ρ H=>vH (fW P op t (isConst x) (isConst y) (ρ x) (ρ y)) H⟩
  | .unOp op _ x=>⟨fun ρ H=>vH (om op (ρ x)) H⟩
  | .fieldAddr s x f=>⟨fun ρ H=>vH (gq P s (ρ x) f) H⟩
  | .field t x f=>⟨fun ρ H=>vH (rj P t (ρ x) f) H⟩
  | .indexAddr t x ix=>⟨fun ρ H=>vH (gr P t (ρ x) (ρ ix)) H⟩
  | .index t x ix=>⟨fun ρ H=>vH (ze P t (ρ x) (ρ ix)) H⟩
  | .extract x k=>⟨fun ρ H=>vH (oo (ρ x) k) H⟩
  | _=>⟨fun ρ H=>bj P fs ρ H o⟩
theorem IK (P:Program) (fs:fb) (o:Oper) (ρ:Operand->AV) (H:af):(IJ P fs o).run ρ H=bj P fs ρ H o:=by
  unfold IJ
  split<;>rename_i ho<;>first
    | rfl
    | (simp only [bj,fi,ho,vH];done)
    | (simp only [bj,fi,ho,vH];rfl)
def DM (P:Program) (fs:fb) (ops:Array Oper) (o:Oper):OpS:=
  match o.guard with
  | none=>IJ P fs o
  | some _=>⟨fun ρ H=>aZ P fs ops ρ H o⟩
theorem IL (P:Program) (fs:fb) (ops:Array Oper) (o:Oper) (ρ:Operand->AV) (H:af):(DM P fs ops o).run ρ H=aZ P fs ops ρ H o:=by
  unfold DM
  split
  · rename_i hg
    rw [IK]
    simp only [aZ,dU,hg]
  · rfl
def F7 (P:Program) (Γ:bz) (fs:fb) (ops:Array Oper) (l:List Oper):St->Option St:=
  List.rec (motive:=fun _=>St->Option St) (fun σ=>some σ)
    (fun o _ ih σ=>match (DM P fs ops o).run (evF Γ σ.tmps) σ.H with
      | some (y,H')=>match o.dst with
        | some d=>ih { σ with tmps:=W4 σ.tmps y d,H:=H' }
        | none=>ih { σ with H:=H' }
      | none=>none) l
theorem MF (P:Program) (Γ:bz) (fs:fb) (ops:Array Oper) (l:List Oper):∀ σ,F7 P Γ fs ops l σ=fc P Γ fs ops l σ:=by
  induction l with
  | nil=>intro σ;rfl
  | cons o l ih=>
    intro σ
    have e:F7 P Γ fs ops (o::l) σ=(match (DM P fs ops o).run (evF Γ σ.tmps) σ.H with
      | some (y,H')=>match o.dst with
        | some d=>F7 P Γ fs ops l { σ with tmps:=W4 σ.tmps y d,H:=H' }
        | none=>F7 P Γ fs ops l { σ with H:=H' }
      | none=>none):=rfl
    rw [e,IL,Pg]
    simp only [fc]
    cases cA:aZ P fs ops (ev Γ σ.tmps) σ.H o with
    | none=>rfl
    | some r=>
      obtain ⟨y,H'⟩:=r
      cases hd:o.dst with
      | none=>simp only [ih,dt]
      | some d=>simp only [ih,dt,Tp]
def eU (P:Program) (Γ:bz) (fs:fb) (dr:Array Oper->St->Option St) (lf:Nat) (ro:Option Nat):Code->aew
  | .skip=>⟨fun σ=>some (.normal,σ)⟩
  | .label _=>⟨fun σ=>some (.normal,σ)⟩
  | .region _ ops d=>match d with
    | true=>⟨fun σ=>match dr ops σ with
      | some σ'=>some (.normal,σ')
      | none=>none⟩
    | false=>⟨fun σ=>match F7 P Γ fs ops ops.toList σ with
      | some σ'=>some (.normal,σ')
      | none=>none⟩
  | .seq x y=>⟨fun σ=>match (eU P Γ fs dr lf ro x).run σ with
    | some (.normal,σ')=>(eU P Γ fs dr lf ro y).run σ'
    | r=>r⟩
  | .cond c x y=>⟨fun σ=>match evF Γ σ.tmps c with
    | .bool true=>(eU P Γ fs dr lf ro x).run σ
    | .bool false=>(eU P Γ fs dr lf ro y).run σ
    | _=>none⟩
  | .block id x=>⟨fun σ=>match (eU P Γ fs dr lf ro x).run σ with
    | some (.exit k,σ')=>if k=id then some (.normal,σ') else some (.exit k,σ')
    | r=>r⟩
  | .loop x=>⟨fo (eU P Γ fs dr lf ro x).run lf⟩
  | .rangeFunc g ps as bd=>⟨lX Γ fs ro g ps as bd⟩
  | .exit id=>⟨fun σ=>some (.exit id,σ)⟩
  | .goto l=>⟨fun σ=>some (.goto l,σ)⟩
  | .ret=>⟨fun σ=>some (.ret,σ)⟩
  | .scope x=>⟨fun σ=>match (eU P Γ fs dr lf ro x).run σ with
    | some (.goto _,_)=>none
    | r=>r⟩
  | _=>⟨fun _=>none⟩
theorem rk (P:Program) (Γ:bz) (fs:fb) (dr:Array Oper->St->Option St) (lf:Nat) (ro:Option Nat):∀ (c:Code),(eU P Γ fs dr lf ro c).run=aV P Γ fs dr lf ro c:=by
  intro c
  induction c with
  | region id ops d=>
    funext σ
    cases d with
    | true=>rfl
    | false=>simp only [eU,aV,MF]<;>rfl
  | seq x y xz CF=>funext σ;simp only [eU,aV,xz,CF]<;>rfl
  | cond c x y xz CF=>funext σ;simp only [eU,aV,xz,CF,Pg]<;>rfl
  | block id x ih=>funext σ;simp only [eU,aV,ih]<;>rfl
  | loop x ih=>funext σ;simp only [eU,aV,ih]
  | scope x ih=>funext σ;simp only [eU,aV,ih]<;>rfl
  | _=>rfl
def ot:Nat->AV->Bool
  | 0,_=>false
  | k+1,x=>match x with
    | .ptr .. | .slice .. | .map _ | .yield _=>false
    | .dK c _ | .list _ c | .nl _ c | .agg c | .tuple c=>c.all (ot k)
    | .func _ a b=>a.all (ot k)&&b.all (ot k)
    | .iface _ v=>ot k v
    | _=>true
theorem nd:∀ (k:Nat) (x:AV),ot k x=true->Pure x:=by
  intro k
  induction k with
  | zero=>intro x h;simp [ot] at h
  | succ k ih=>
    intro x h
    cases x<;>simp only [ot,Bool.and_eq_true,List.all_eq_true,Bool.false_eq_true] at h<;>first
      | (constructor;done)
      | (rename_i k' o;cases o;exact .nan _;exact .float _ _)
      | exact .dK _ _ fun x hx=>ih x (h x hx)
      | exact .list _ _ fun x hx=>ih x (h x hx)
      | exact .nl _ _ fun x hx=>ih x (h x hx)
      | exact .agg _ fun x hx=>ih x (h x hx)
      | exact .tuple _ fun x hx=>ih x (h x hx)
      | exact .func _ _ _ (fun x hx=>ih x (h.1 x hx)) (fun x hx=>ih x (h.2 x hx))
      | exact .iface _ _ (ih _ h)
abbrev K_:=FuncId->List (List AV × AV)
def F8 (args:List AV):List (List AV × AV)->Option AV
  | []=>none
  | (xs,y)::rest=>if gM.all 16 xs args then some y else F8 args rest
def La (call:FuncId->List AV->af->Option (AV × af)) (ou:FuncId->Nat) (T:K_) (g:FuncId) (args:List AV) (H:af):Option (AV × af):=
  match ou g with
  | 0=>call g args H
  | k+1=>match args.all (ot 8) with
    | false=>call g args H
    | true=>match F8 args (T g) with
      | some y=>some (y,H)
      | none=>match call g args af.empty with
        | some (y,H')=>match ot 8 y with
          | true=>some (y,H)
          | false=>match y with
            | .slice r off len aA=>match H'.get r with
              | some (.cells cs)=>if cs.all (ot 8) then some (.slice H.n off len aA,H.push (.cells cs)) else none
              | _=>none
            | _=>none
        | none=>none
def zf (P:Program) (Γ:bz) (T:K_):Prop:=∀ g args y,(args,y)∈T g->Pure y/\∃ H',CallOk P Γ g args af.empty y H'
theorem MG {args:List AV} {y:AV}:∀ (l:List (List AV × AV)),F8 args l=some y->(args,y)∈l:=by
  intro l
  induction l with
  | nil=>intro h;simp [F8] at h
  | cons e l ih=>
    obtain ⟨xs,z⟩:=e
    intro h
    simp only [F8] at h
    split at h
    · rename_i hs
      simp only [Option.some.injEq] at h;subst h
      have:=(yU 16).2 _ _ hs
      subst this
      exact List.mem_cons_self
    · exact List.mem_cons_of_mem _ (ih h)
theorem F9 {P:Program} {Γ:bz} (hΓ:jM Γ) {call:FuncId->List AV->af->Option (AV × af)} (hc:∀ g args H y H',call g args H=some (y,H')->CallOk P Γ g args H y H') {ou:FuncId->Nat} {T:K_} (hT:zf P Γ T)
    {g:FuncId} {args:List AV} {H H':af} {y:AV} (h:La call ou T g args H=some (y,H')):CallOk P Γ g args H y H':=by
  unfold La at h
  split at h
  · exact hc _ _ _ _ _ h
  · split at h
    · exact hc _ _ _ _ _ h
    · rename_i hp
      have cW:∀ x∈args,Pure x:=fun x hx=>nd 8 x (List.all_eq_true.1 hp x hx)
      split at h
      · rename_i y' hy
        simp only [Option.some.injEq,Prod.mk.injEq] at h
        obtain ⟨rfl,rfl⟩:=h
        obtain ⟨h1,H2,h2⟩:=hT _ _ _ (MG _ hy)
        exact h2.anywhere hΓ cW h1 H
      · split at h
        · rename_i y' H2 Lb
          split at h
          · rename_i hy
            simp only [Option.some.injEq,Prod.mk.injEq] at h
            obtain ⟨rfl,rfl⟩:=h
            exact (hc _ _ _ _ _ Lb).anywhere hΓ cW (nd 8 _ hy) H
          · split at h
            · rename_i r off len aA _
              split at h
              · rename_i cs hr
                split at h
                · rename_i te
                  simp only [Option.some.injEq,Prod.mk.injEq] at h
                  obtain ⟨rfl,rfl⟩:=h
                  exact (hc _ _ _ _ _ Lb).fresh hΓ cW hr (fun x hx=>nd 8 x (List.all_eq_true.1 te x hx)) H
                · cases h
              · cases h
            · cases h
        · cases h
end Go.Abs
end
noncomputable section
namespace Go.Abs
inductive TT where
 | leaf
 | node (v:AV) (l r:TT)
def FC:Nat->Nat->List Bool
 | 0,_=>[]
 | k+1,n=>match n with
  | 0=>[]
  | m+1=>(m%2==0)::FC k (m / 2)
def Gm:List Bool->Nat
 | []=>0
 | true::p=>2*Gm p+1
 | false::p=>2*Gm p+2
theorem CN:∀ (k n:Nat),n<2 ^ k-1->Gm (FC k n)=n:=by
 intro k
 induction k with
 | zero=>intro n h;simp at h
 | succ k ih=>
  intro n h
  cases n with
  | zero=>rfl
  | succ m=>
   have hp:2 ^ (k+1)=2*2 ^ k:=by rw [Nat.pow_succ];omega
   have hi:=ih (m / 2) (by omega)
   simp only [FC]
   cases hm:(m%2==0) with
   | true=>
    have:=beq_iff_eq.1 hm
    simp only [Gm,hi];omega
   | false=>
    have:=beq_eq_false_iff_ne.1 hm
    simp only [Gm,hi];omega
theorem TB {k n m:Nat} (hn:n<2 ^ k-1) (hm:m<2 ^ k-1) (h:FC k n=FC k m):n=m:=by
 rw [←CN k n hn,←CN k m hm,h]
def zA (p:List Bool):TT->AV:=
 List.rec (motive:=fun _=>TT->AV) (fun t=>TT.casesOn (motive:=fun _=>AV) t .top (fun v _ _=>v))
  (fun b _ ih=>Bool.rec (motive:=fun _=>TT->AV) (fun t=>TT.casesOn (motive:=fun _=>AV) t .top (fun _ _ r=>ih r)) (fun t=>TT.casesOn (motive:=fun _=>AV) t .top (fun _ l _=>ih l)) b) p
def Lg (p:List Bool):AV->TT->TT:=
 List.rec (motive:=fun _=>AV->TT->TT) (fun y t=>TT.casesOn (motive:=fun _=>TT) t .leaf (fun _ l r=>.node y l r))
  (fun b _ ih=>Bool.rec (motive:=fun _=>AV->TT->TT) (fun y t=>TT.casesOn (motive:=fun _=>TT) t .leaf (fun v l r=>.node v l (ih y r))) (fun y t=>TT.casesOn (motive:=fun _=>TT) t .leaf (fun v l r=>.node v (ih y l) r)) b) p
def has:List Bool->TT->Bool
 | _,.leaf=>false
 | [],.node ..=>true
 | true::p,.node _ l _=>has p l
 | false::p,.node _ _ r=>has p r
theorem I4:∀ (p:List Bool) (t:TT),has p t=false->zA p t=.top:=by
 intro p
 induction p with
 | nil=>intro t h;cases t with
  | leaf=>rfl
  | node=>simp [has] at h
 | cons b p ih=>
  intro t h
  cases t with
  | leaf=>cases b<;>rfl
  | node v l r=>cases b with
   | true=>exact ih l (by simpa [has] using h)
   | false=>exact ih r (by simpa [has] using h)
theorem TC (y:AV):∀ (q p:List Bool) (t:TT),has p (Lg q y t)=has p t:=by
 intro q
 induction q with
 | nil=>intro p t;cases t with
  | leaf=>rfl
  | node v l r=>cases p with
   | nil=>rfl
   | cons b p=>cases b<;>rfl
 | cons c q ih=>
  intro p t
  cases t with
  | leaf=>cases c<;>rfl
  | node v l r=>
   cases p with
   | nil=>cases c<;>rfl
   | cons b p=>
    cases c<;>cases b
    ·exact ih p r
    ·rfl
    ·rfl
    ·exact ih p l
theorem PB (y:AV):∀ (q p:List Bool) (t:TT),zA p (Lg q y t)=if p=q/\has q t=true then y else zA p t:=by
 intro q
 induction q with
 | nil=>intro p t;cases t with
  | leaf=>simp [has];rfl
  | node v l r=>cases p with
   | nil=>simp [has];rfl
   | cons b p=>simp;cases b<;>rfl
 | cons c q ih=>
  intro p t
  cases t with
  | leaf=>simp [has];cases c<;>rfl
  | node v l r=>
   cases p with
   | nil=>simp;cases c<;>rfl
   | cons b p=>
    cases c<;>cases b
    ·have:=ih p r
     simp only [has,List.cons.injEq,true_and]
     exact this
    ·simp;rfl
    ·simp;rfl
    ·have:=ih p l
     simp only [has,List.cons.injEq,true_and]
     exact this
def jv (y:AV):Nat->Nat->TT
 | 0,_=>.leaf
 | k+1,n=>match n with
  | 0=>.leaf
  | m+1=>.node y (jv y k ((m+1) / 2)) (jv y k (m / 2))
theorem uX (y:AV):∀ (k n j:Nat),n<2 ^ k->j<2 ^ k-1->has (FC k j) (jv y k n)=decide (j<n):=by
 intro k
 induction k with
 | zero=>intro n j hn hj;simp at hj
 | succ k ih=>
  intro n j hn hj
  have hp:2 ^ (k+1)=2*2 ^ k:=by rw [Nat.pow_succ];omega
  cases n with
  | zero=>simp only [jv];cases FC (k+1) j<;>simp [has]
  | succ m=>
   cases j with
   | zero=>simp [FC,jv,has]
   | succ j=>
    simp only [FC,jv]
    cases hm:(j%2==0) with
    | true=>
     have:=beq_iff_eq.1 hm
     simp only [has,ih ((m+1) / 2) (j / 2) (by omega) (by omega)]
     exact decide_eq_decide.2 (by omega)
    | false=>
     have:=beq_eq_false_iff_ne.1 hm
     simp only [has,ih (m / 2) (j / 2) (by omega) (by omega)]
     exact decide_eq_decide.2 (by omega)
theorem MV (y:AV):∀ (k:Nat) (p:List Bool) (n:Nat),has p (jv y k n)=true->zA p (jv y k n)=y:=by
 intro k
 induction k with
 | zero=>intro p n h;cases p<;>simp [jv,has] at h
 | succ k ih=>
  intro p n h
  cases n with
  | zero=>cases p<;>simp [jv,has] at h
  | succ m=>
   cases p with
   | nil=>rfl
   | cons b p=>cases b with
    | true=>exact ih p _ (by simpa [jv,has] using h)
    | false=>exact ih p _ (by simpa [jv,has] using h)
structure im (t:TT) (l:List AV):Prop where
 n:l.length<2 ^ 16
 has:∀ k,k<65535->Go.Abs.has (FC 16 k) t=decide (k<l.length)
 get:∀ k,k<65535->zA (FC 16 k) t=(l[k]?).getD .top
theorem im.set {t:TT} {l:List AV} (h:im t l) (d:Nat) (hd:d<65535) (y:AV):im (Lg (FC 16 d) y t) (l.set d y):=by
 refine ⟨by simpa using h.n,fun k hk=>?_,fun k hk=>?_⟩
 ·rw [TC,h.has k hk,List.length_set]
 ·rw [PB,h.get k hk,h.has d hd,List.getElem?_set]
  by_cases e:k=d
  ·subst e
   simp only [true_and,if_true]
   by_cases hl:k<l.length
   ·simp [hl]
   ·simp [hl]
  ·have:¬ FC 16 k=FC 16 d:=fun hw=>e (TB (k:=16) (by omega) (by omega) hw)
   rw [if_neg (fun h=>this h.1),if_neg (fun h=>e h.symm)]
theorem I5 (y:AV) (n:Nat) (hn:n<2 ^ 16):im (jv y 16 n) (List.replicate n y):=by
 refine ⟨by simpa using hn,fun k hk=>?_,fun k hk=>?_⟩
 ·rw [uX y 16 n k hn (by omega)];simp
 ·rw [List.getElem?_replicate]
  cases hh:has (FC 16 k) (jv y 16 n) with
  | true=>
   rw [MV y 16 _ n hh]
   rw [uX y 16 n k hn (by omega)] at hh
   rw [if_pos (of_decide_eq_true hh)];rfl
  | false=>
   rw [I4 _ _ hh]
   rw [uX y 16 n k hn (by omega)] at hh
   rw [if_neg (of_decide_eq_false hh)];rfl
def toL (t:TT):Nat->Nat->List AV
 | 0,_=>[]
 | m+1,k=>zA (FC 16 k) t::toL t m (k+1)
theorem W_ {t:TT} {l:List AV} (h:im t l):∀ (m k:Nat),m+k=l.length->m+k<=65535->toL t m k=l.drop k:=by
 intro m
 induction m with
 | zero=>intro k hk _;simp [toL,List.drop_of_length_le (by omega:l.length<=k)]
 | succ m ih=>
  intro k hk hb
  have cC:k<l.length:=by omega
  rw [toL,ih (k+1) (by omega) (by omega),h.get k (by omega),List.getElem?_eq_getElem cC,List.drop_eq_getElem_cons cC]
  rfl
end Go.Abs
end
noncomputable section
namespace Go.Abs
structure xJ where
 t:TT
 n:Nat
 H:af
 d:List Nat
structure aeG where
 run:TT->AV
structure aeH where
 run:AV->TT->TT
structure RunT where
 run:fb->xJ->Option (Exit × xJ)
structure OpT where
 run:fb->TT->af->Option (AV × af)
def Cg (Γ:bz):Operand->aeG
 | .tmp t=>match Nat.blt t 65535 with
  | true=>⟨zA (FC 16 t)⟩
  | false=>⟨fun _=>.top⟩
 | .const v=>⟨fun _=>cM v⟩
 | .global g=>⟨fun _=>match Γ g with
  | some cells=>.dK cells 0
  | none=>.top⟩
 | .func f=>⟨fun _=>.func f [] []⟩
def Gn:Option Tmp->aeH
 | some d=>match Nat.blt d 65535 with
  | true=>⟨Lg (FC 16 d)⟩
  | false=>⟨fun _ t=>t⟩
 | none=>⟨fun _ t=>t⟩
def I6 (P:Program) (Γ:bz) (o:Oper):OpT:=
 match o.op with
 | .move x=>⟨fun fs t H=>some ((Cg Γ x).run t,H)⟩
 | .assign x=>⟨fun fs t H=>some ((Cg Γ x).run t,H)⟩
 | .load ty a=>⟨fun fs t H=>vH (nN P H ty ((Cg Γ a).run t)) H⟩
 | .nilCheck x=>⟨fun fs t H=>vH (jL ((Cg Γ x).run t)) H⟩
 | .binOp op ty x y _=>⟨fun fs t H=>vH (fW P op ty (isConst x) (isConst y) ((Cg Γ x).run t) ((Cg Γ y).run t)) H⟩
 | .unOp op _ x=>⟨fun fs t H=>vH (om op ((Cg Γ x).run t)) H⟩
 | .fieldAddr s x f=>⟨fun fs t H=>vH (gq P s ((Cg Γ x).run t) f) H⟩
 | .field ty x f=>⟨fun fs t H=>vH (rj P ty ((Cg Γ x).run t) f) H⟩
 | .indexAddr ty x ix=>⟨fun fs t H=>vH (gr P ty ((Cg Γ x).run t) ((Cg Γ ix).run t)) H⟩
 | .index ty x ix=>⟨fun fs t H=>vH (ze P ty ((Cg Γ x).run t) ((Cg Γ ix).run t)) H⟩
 | .extract x k=>⟨fun fs t H=>vH (oo ((Cg Γ x).run t) k) H⟩
 | _=>⟨fun fs t H=>bj P fs (fun x=>(Cg Γ x).run t) H o⟩
def D0 (P:Program) (Γ:bz) (ops:Array Oper) (o:Oper):OpT:=
 match o.guard with
 | none=>I6 P Γ o
 | some _=>⟨fun fs t H=>aZ P fs ops (fun x=>(Cg Γ x).run t) H o⟩
def CO (P:Program) (Γ:bz) (ops:Array Oper) (l:List Oper):fb->xJ->Option xJ:=
 List.rec (motive:=fun _=>fb->xJ->Option xJ) (fun _ σ=>some σ)
  (fun o _ ih fs σ=>match (D0 P Γ ops o).run fs σ.t σ.H with
   | some (y,H')=>ih fs { σ with t:=(Gn o.dst).run y σ.t,H:=H' }
   | none=>none) l
def wT (t:TT):List Rec->TT
 | []=>t
 | r::rs=>(Gn r.o.dst).run r.y (wT t rs)
def tz:List Rec->TT->af->TT × af
 | [],t,H=>(t,H)
 | r::rs,t,H=>match r.fl with
  | some z=>((Gn r.o.dst).run (FT z.1 (tz rs t H).2.n) (tz rs t H).1,(tz rs t H).2.push (.cells z.2))
  | none=>tz rs t H
structure abQ where
 run:Option (List Nat × Nat)
def VU (ops:Array Oper):abQ:=
 ⟨match lY ops.toList 0 [] with
 | some Ms=>match cV (Ms.take (bb Ms 0 0)) ((ops.toList.take (bb Ms 0 0)).map (·.dst)) ((ops.toList.take (bb Ms 0 0)).map (·.dst)) 0 with
  | true=>some (Ms.take (bb Ms 0 0),bb Ms 0 0)
  | false=>none
 | none=>none⟩
def xJ.down (σ:xJ):St:={ tmps:=toL σ.t σ.n 0,H:=σ.H,defers:=σ.d }
def I7 (P:Program) (Γ:bz) (fs:fb) (ops:Array Oper) (σ:xJ):Option xJ:=
 match (VU ops).run with
 | some (Ms,p)=>match dF (uL P fs ops) P Γ fs ops Ms ((ops.toList.take p).map (·.dst)) σ.down (ops.toList.take p) 0 [] with
  | some acc=>CO P Γ ops (ops.toList.drop p) fs { σ with t:=(tz acc (wT σ.t acc) (aS σ.H acc)).1,H:=(tz acc (wT σ.t acc) (aS σ.H acc)).2 }
  | none=>none
 | none=>none
def zB (step:xJ->Option (Exit × xJ)):Nat->xJ->Option (Exit × xJ)
 | 0,_=>none
 | n+1,σ=>match step σ with
  | some (.normal,σ')=>zB step n σ'
  | r=>r
def dO (P:Program) (Γ:bz) (lf:Nat) (ro:Option Nat):Code->RunT
 | .skip=>⟨fun fs σ=>some (.normal,σ)⟩
 | .label _=>⟨fun fs σ=>some (.normal,σ)⟩
 | .region _ ops d=>match d with
  | true=>⟨fun fs σ=>match I7 P Γ fs ops σ with
   | some σ'=>some (.normal,σ')
   | none=>none⟩
  | false=>⟨fun fs σ=>match CO P Γ ops ops.toList fs σ with
   | some σ'=>some (.normal,σ')
   | none=>none⟩
 | .seq x y=>⟨fun fs σ=>match (dO P Γ lf ro x).run fs σ with
  | some (.normal,σ')=>(dO P Γ lf ro y).run fs σ'
  | r=>r⟩
 | .cond c x y=>⟨fun fs σ=>match (Cg Γ c).run σ.t with
  | .bool true=>(dO P Γ lf ro x).run fs σ
  | .bool false=>(dO P Γ lf ro y).run fs σ
  | _=>none⟩
 | .block id x=>⟨fun fs σ=>match (dO P Γ lf ro x).run fs σ with
  | some (.exit k,σ')=>if k=id then some (.normal,σ') else some (.exit k,σ')
  | r=>r⟩
 | .loop x=>⟨fun fs=>zB ((dO P Γ lf ro x).run fs) lf⟩
 | .rangeFunc g ps as bd=>⟨fun fs σ=>match lX Γ fs ro g ps as bd σ.down with
  | some (e,τ)=>some (e,{ σ with H:=τ.H,d:=τ.defers })
  | none=>none⟩
 | .exit id=>⟨fun fs σ=>some (.exit id,σ)⟩
 | .goto l=>⟨fun fs σ=>some (.goto l,σ)⟩
 | .ret=>⟨fun fs σ=>some (.ret,σ)⟩
 | .scope x=>⟨fun fs σ=>match (dO P Γ lf ro x).run fs σ with
  | some (.goto _,_)=>none
  | r=>r⟩
 | _=>⟨fun _ _=>none⟩
structure uY (σ:xJ) (τ:St):Prop where
 n:σ.n=τ.tmps.length
 t:im σ.t τ.tmps
 H:σ.H=τ.H
 d:σ.d=τ.defers
variable {P : Program} {Γ : bz} {fs : fb} {ops : Array Oper} {σ σ' : xJ} {τ : St} {e : Exit}
theorem uY.down (h:uY σ τ):σ.down=τ:=by
 obtain ⟨hn,ht,hH,hd⟩:=h
 have:=W_ ht σ.n 0 (by omega) (by have:=ht.n;omega)
 unfold xJ.down
 rw [this,hH,hd]
 rfl
theorem I8 {a b:Nat} (h:Nat.blt a b=true):a<b:=by
 have:=Nat.le_of_ble_eq_true h
 omega
theorem PC {a b:Nat} (h:Nat.blt a b=false):b<=a:=by
 rcases Nat.lt_or_ge a b with hl | hl
 ·have:Nat.blt a b=true:=Nat.ble_eq_true_of_le hl
  rw [this] at h;cases h
 ·exact hl
theorem zC {t:TT} {l:List AV} (h:im t l) (x:Operand):(Cg Γ x).run t=ev Γ l x:=by
 cases x with
 | tmp k=>
  simp only [Cg,ev]
  cases hk:Nat.blt k 65535 with
  | true=>exact h.get k (I8 hk)
  | false=>
   have:l.length<=k:=Nat.le_trans (Nat.le_of_lt_succ h.n) (PC hk)
   simp [List.getElem?_eq_none this]
 | const v=>rfl
 | global g=>rfl
 | func f=>rfl
theorem ng {t:TT} {l:List AV} (h:im t l) (d:Option Tmp) (y:AV):im ((Gn d).run y t) (dt l d y):=by
 cases d with
 | none=>exact h
 | some d=>
  simp only [Gn,dt]
  cases hk:Nat.blt d 65535 with
  | true=>exact h.set d (I8 hk) y
  | false=>
   have:l.length<=d:=Nat.le_trans (Nat.le_of_lt_succ h.n) (PC hk)
   rw [List.set_eq_of_length_le this]
   exact h
theorem I9 {t:TT} {l:List AV} (h:im t l) (H:af) (o:Oper):(I6 P Γ o).run fs t H=bj P fs (ev Γ l) H o:=by
 have e:(fun x=>(Cg Γ x).run t)=ev Γ l:=funext fun x=>zC h x
 unfold I6
 split<;>rename_i ho<;>first
  | (simp only [bj,fi,ho,vH,zC h];done)
  | (simp only [bj,fi,ho,vH,zC h];rfl)
  | (simp only [e])
theorem I' {t:TT} {l:List AV} (h:im t l) (H:af) (o:Oper):(D0 P Γ ops o).run fs t H=aZ P fs ops (ev Γ l) H o:=by
 have e:(fun x=>(Cg Γ x).run t)=ev Γ l:=funext fun x=>zC h x
 unfold D0
 split
 ·rename_i hg
  rw [I9 h]
  simp only [aZ,dU,hg]
 ·simp only [e]
theorem Gp:∀ (l:List Oper) (σ σ':xJ) (τ:St),uY σ τ->CO P Γ ops l fs σ=some σ'->∃ τ',uY σ' τ'/\fc P Γ fs ops l τ=some τ':=by
 intro l
 induction l with
 | nil=>intro σ σ' τ h hr;simp only [CO,Option.some.injEq] at hr;subst hr;exact ⟨τ,h,rfl⟩
 | cons o l ih=>
  intro σ σ' τ h hr
  have e1:CO P Γ ops (o::l) fs σ=(match (D0 P Γ ops o).run fs σ.t σ.H with
   | some (y,H')=>CO P Γ ops l fs { σ with t:=(Gn o.dst).run y σ.t,H:=H' }
   | none=>none):=rfl
  rw [e1,I' h.t,h.H] at hr
  simp only [fc]
  cases cA:aZ P fs ops (ev Γ τ.tmps) τ.H o with
  | none=>rw [cA] at hr;cases hr
  | some r=>
   obtain ⟨y,H'⟩:=r
   rw [cA] at hr
   exact ih { σ with t:=(Gn o.dst).run y σ.t,H:=H' } σ' { τ with tmps:=dt τ.tmps o.dst y,H:=H' } ⟨by show σ.n=_;rw [h.n];exact (eM _ _ _).symm,ng h.t o.dst y,rfl,h.d⟩ hr
theorem Gq {t:TT} {l:List AV} (h:im t l):∀ (R:List Rec),im (wT t R) (bJ l R):=by
 intro R
 induction R with
 | nil=>exact h
 | cons r rs ih=>exact ng ih r.o.dst r.y
theorem I_ {t:TT} {l:List AV} {H:af} (h:im t l):∀ (R:List Rec),im (tz R t H).1 (cf R l H).1/\(tz R t H).2=(cf R l H).2/\(cf R l H).1.length=l.length:=by
 intro R
 induction R with
 | nil=>exact ⟨h,rfl,rfl⟩
 | cons r rs ih=>
  obtain ⟨i1,i2,i3⟩:=ih
  cases dg:r.fl with
  | none=>simp only [tz,cf,dg];exact ⟨i1,i2,i3⟩
  | some z=>
   simp only [tz,cf,dg,i2]
   exact ⟨ng i1 _ _,trivial,by rw [eM];exact i3⟩
theorem MW (h:uY σ τ) (hr:I7 P Γ fs ops σ=some σ'):∃ τ',uY σ' τ'/\n_ P Γ fs ops τ=some τ':=by
 unfold I7 VU at hr
 unfold n_ m9
 split at hr
 ·rename_i Ms p hp
  simp only at hp
  split at hp
  ·rename_i Mf Tk
   split at hp
   ·rename_i hw
    simp only [Option.some.injEq,Prod.mk.injEq] at hp
    obtain ⟨rfl,rfl⟩:=hp
    simp only [Tk,hw]
    rw [h.down] at hr
    cases xK:dF (uL P fs ops) P Γ fs ops (List.take (bb Mf 0 0) Mf) ((ops.toList.take (bb Mf 0 0)).map (·.dst)) τ (ops.toList.take (bb Mf 0 0)) 0 [] with
    | none=>rw [xK] at hr;cases hr
    | some acc=>
     rw [xK] at hr
     simp only at hr ⊢
     have hp:=Gq h.t acc
     obtain ⟨k1,k2,k3⟩:=I_ (H:=aS σ.H acc) hp acc
     rw [h.H] at k1 k2 k3
     refine Gp _ { σ with t:=(tz acc (wT σ.t acc) (aS σ.H acc)).1,H:=(tz acc (wT σ.t acc) (aS σ.H acc)).2 } σ' { τ with tmps:=(cf acc (bJ τ.tmps acc) (aS τ.H acc)).1,H:=(cf acc (bJ τ.tmps acc) (aS τ.H acc)).2 } ⟨?_,?_,?_,h.d⟩ hr
     ·show σ.n=_
      rw [h.n,k3,gP]
     ·show im (tz acc (wT σ.t acc) (aS σ.H acc)).1 _
      rw [h.H];exact k1
     ·show (tz acc (wT σ.t acc) (aS σ.H acc)).2=_
      rw [h.H];exact k2
   ·cases hp
  ·cases hp
 ·cases hr
theorem MX {f:xJ->Option (Exit × xJ)} {g:St->Option (Exit × St)} (hf:∀ σ τ e σ',uY σ τ->f σ=some (e,σ')->∃ τ',uY σ' τ'/\g τ=some (e,τ')):
  ∀ (n:Nat) (σ:xJ) (τ:St) (e:Exit) (σ':xJ),uY σ τ->zB f n σ=some (e,σ')->∃ τ',uY σ' τ'/\fo g n τ=some (e,τ'):=by
 intro n
 induction n with
 | zero=>intro σ τ e σ' _ h;simp [zB] at h
 | succ n ih=>
  intro σ τ e σ' hr h
  simp only [zB] at h
  split at h
  ·rename_i σ1 h1
   obtain ⟨τ1,r1,g1⟩:=hf _ _ _ _ hr h1
   obtain ⟨τ2,r2,g2⟩:=ih _ _ _ _ r1 h
   exact ⟨τ2,r2,by simp only [fo,g1,g2]⟩
  ·rename_i ek
   obtain ⟨τ1,r1,g1⟩:=hf _ _ _ _ hr h
   refine ⟨τ1,r1,?_⟩
   simp only [fo,g1]
   cases e<;>first | exact absurd h (ek _) | rfl
end Go.Abs
end
noncomputable section
namespace Go.Abs
variable {P : Program} {Γ : bz} {fs : fb} {ops : Array Oper} {σ σ' : xJ} {τ : St} {e : Exit} {lf : Nat} {ro : Option Nat}
theorem Ja {j:Option Code} {τ τ':St} (h:yL j τ=some (e,τ')):τ'=τ:=by
  unfold yL at h
  split at h<;>first
    | (cases h;done)
    | (simp only [Option.some.injEq,Prod.mk.injEq] at h;exact h.2.symm)
theorem Gr {g:Operand} {ps:Array Tmp} {as bd:Code} {τ':St} (h:lX Γ fs ro g ps as bd τ=some (e,τ')):τ'.tmps=τ.tmps:=by
  unfold lX at h
  split at h
  · split at h
    · split at h
      · split at h
        · split at h
          · cases h
          · split at h
            · have:=Ja h;rw [this]
            · cases h
        · cases h
      · cases h
    · cases h
  · cases h
theorem CP:∀ (c:Code) (σ:xJ) (τ:St) (e:Exit) (σ':xJ),uY σ τ->(dO P Γ lf ro c).run fs σ=some (e,σ')->∃ τ',uY σ' τ'/\aV P Γ fs (fun ops=>n_ P Γ fs ops) lf ro c τ=some (e,τ'):=by
  intro c
  induction c with
  | skip=>intro σ τ e σ' h hr;simp only [dO,Option.some.injEq,Prod.mk.injEq] at hr;obtain ⟨rfl,rfl⟩:=hr;exact ⟨τ,h,rfl⟩
  | label l=>intro σ τ e σ' h hr;simp only [dO,Option.some.injEq,Prod.mk.injEq] at hr;obtain ⟨rfl,rfl⟩:=hr;exact ⟨τ,h,rfl⟩
  | exit id=>intro σ τ e σ' h hr;simp only [dO,Option.some.injEq,Prod.mk.injEq] at hr;obtain ⟨rfl,rfl⟩:=hr;exact ⟨τ,h,rfl⟩
  | goto l=>intro σ τ e σ' h hr;simp only [dO,Option.some.injEq,Prod.mk.injEq] at hr;obtain ⟨rfl,rfl⟩:=hr;exact ⟨τ,h,rfl⟩
  | ret=>intro σ τ e σ' h hr;simp only [dO,Option.some.injEq,Prod.mk.injEq] at hr;obtain ⟨rfl,rfl⟩:=hr;exact ⟨τ,h,rfl⟩
  | refuse s=>intro σ τ e σ' h hr;simp [dO] at hr
  | scope b ih=>
    intro σ τ e σ' h hr
    simp only [dO] at hr
    split at hr
    · cases hr
    · rename_i ek
      obtain ⟨τ1,r1,g1⟩:=ih _ _ _ _ h hr
      refine ⟨τ1,r1,?_⟩
      simp only [aV,g1]
      cases e<;>first | rfl | exact absurd hr (ek _ _)
  | region id ops d=>
    intro σ τ e σ' h hr
    cases d with
    | true=>
      simp only [dO] at hr
      split at hr
      · rename_i σ1 h1
        simp only [Option.some.injEq,Prod.mk.injEq] at hr;obtain ⟨rfl,rfl⟩:=hr
        obtain ⟨τ1,r1,g1⟩:=MW h h1
        exact ⟨τ1,r1,by simp only [aV,g1]⟩
      · cases hr
    | false=>
      simp only [dO] at hr
      split at hr
      · rename_i σ1 h1
        simp only [Option.some.injEq,Prod.mk.injEq] at hr;obtain ⟨rfl,rfl⟩:=hr
        obtain ⟨τ1,r1,g1⟩:=Gp _ _ _ _ h h1
        exact ⟨τ1,r1,by simp only [aV,g1]⟩
      · cases hr
  | seq x y xz CF=>
    intro σ τ e σ' h hr
    simp only [dO] at hr
    split at hr
    · rename_i σ1 h1
      obtain ⟨τ1,r1,g1⟩:=xz _ _ _ _ h h1
      obtain ⟨τ2,r2,g2⟩:=CF _ _ _ _ r1 hr
      exact ⟨τ2,r2,by simp only [aV,g1,g2]⟩
    · rename_i ek
      obtain ⟨τ1,r1,g1⟩:=xz _ _ _ _ h hr
      refine ⟨τ1,r1,?_⟩
      simp only [aV,g1]
      cases e<;>first | exact absurd hr (ek _) | rfl
  | cond c x y xz CF=>
    intro σ τ e σ' h hr
    simp only [dO,zC h.t] at hr
    split at hr
    · rename_i hc
      obtain ⟨τ1,r1,g1⟩:=xz _ _ _ _ h hr
      exact ⟨τ1,r1,by simp only [aV,hc,g1]⟩
    · rename_i hc
      obtain ⟨τ1,r1,g1⟩:=CF _ _ _ _ h hr
      exact ⟨τ1,r1,by simp only [aV,hc,g1]⟩
    · cases hr
  | block id x ih=>
    intro σ τ e σ' h hr
    simp only [dO] at hr
    split at hr
    · rename_i k σ1 h1
      obtain ⟨τ1,r1,g1⟩:=ih _ _ _ _ h h1
      split at hr
      · rename_i hk
        simp only [Option.some.injEq,Prod.mk.injEq] at hr;obtain ⟨rfl,rfl⟩:=hr
        exact ⟨τ1,r1,by simp only [aV,g1];rw [if_pos hk]⟩
      · rename_i hk
        simp only [Option.some.injEq,Prod.mk.injEq] at hr;obtain ⟨rfl,rfl⟩:=hr
        exact ⟨τ1,r1,by simp only [aV,g1];rw [if_neg hk]⟩
    · rename_i ek
      obtain ⟨τ1,r1,g1⟩:=ih _ _ _ _ h hr
      refine ⟨τ1,r1,?_⟩
      simp only [aV,g1]
      cases e<;>first | exact absurd hr (ek _ _) | rfl
  | loop x ih=>
    intro σ τ e σ' h hr
    exact MX (fun σ τ e σ' h hr=>ih σ τ e σ' h hr) lf σ τ e σ' h hr
  | rangeFunc g ps as bd _ _=>
    intro σ τ e σ' h hr
    simp only [dO] at hr
    rw [h.down] at hr
    split at hr
    · rename_i e1 τ1 h1
      simp only [Option.some.injEq,Prod.mk.injEq] at hr;obtain ⟨rfl,rfl⟩:=hr
      have ht:=Gr h1
      exact ⟨τ1,⟨by rw [ht];exact h.n,by rw [ht];exact h.t,rfl,rfl⟩,h1⟩
    · cases hr
def targs:List AV->Nat->TT->TT
  | [],_,t=>t
  | x::xs,k,t=>targs xs (k+1) ((Gn (some k)).run x t)
def Gs:List AV->Nat->List AV->List AV
  | [],_,l=>l
  | x::xs,k,l=>Gs xs (k+1) (dt l (some k) x)
theorem Gt:∀ (xs:List AV) (k:Nat) (t:TT) (l:List AV),im t l->im (targs xs k t) (Gs xs k l):=by
  intro xs
  induction xs with
  | nil=>intro k t l h;exact h
  | cons x xs ih=>intro k t l h;exact ih (k+1) _ _ (ng h (some k) x)
theorem PD (u:AV) (m:Nat):∀ (xs pre:List AV),Gs xs pre.length (pre++List.replicate (xs.length+m) u)=pre++xs++List.replicate m u:=by
  intro xs
  induction xs with
  | nil=>intro pre;simp [Gs]
  | cons x xs ih=>
    intro pre
    have e:dt (pre++List.replicate ((x::xs).length+m) u) (some pre.length) x=(pre++[x])++List.replicate (xs.length+m) u:=by
      have:(x::xs).length+m=(xs.length+m)+1:=by simp;omega
      rw [this,List.replicate_succ]
      simp only [dt,List.set_append_right _ _ (Nat.le_refl _),Nat.sub_self,List.set_cons_zero,List.append_assoc,List.singleton_append]
    have h:=ih (pre++[x])
    simp only [Gs,e]
    simpa using h
def zD (P:Program) (Γ:bz) (fs:fb) (lf:Nat) (g:FuncId) (args:List AV) (H:af):Option (AV × af):=
  match P.funcs[g]? with
  | some fn=>match fn.body with
    | some c=>match Nat.blt (args.length+(fn.ntmps-args.length)) 65536 with
      | true=>match (dO P Γ lf none c).run fs { t:=targs args 0 (jv (cM undef) 16 (args.length+(fn.ntmps-args.length))),n:=args.length+(fn.ntmps-args.length),H:=H,d:=[] } with
        | some (.normal,σ)=>iE P fn σ.down
        | some (.ret,σ)=>iE P fn σ.down
        | _=>none
      | false=>none
    | none=>none
  | none=>none
theorem MY {g:FuncId} {args:List AV} {H:af} {r:AV × af} (h:zD P Γ fs lf g args H=some r):mA P (aV P Γ fs (fun ops=>n_ P Γ fs ops) lf none) g args H=some r:=by
  unfold zD at h
  unfold mA
  split at h
  · rename_i fn K5
    split at h
    · rename_i c hc
      split at h
      · rename_i hb
        have cC:=I8 hb
        try simp only [K5,hc]
        have hh:=Gt args 0 _ _ (I5 (cM undef) (args.length+(fn.ntmps-args.length)) cC)
        have hl:=PD (cM undef) (fn.ntmps-args.length) args []
        simp only [List.nil_append,List.length_nil] at hl
        rw [hl] at hh
        have h0:uY { t:=targs args 0 (jv (cM undef) 16 (args.length+(fn.ntmps-args.length))),n:=args.length+(fn.ntmps-args.length),H:=H,d:=[] }
            { tmps:=args++List.replicate (fn.ntmps-args.length) (cM undef),H:=H,defers:=[] }:=⟨by simp,hh,rfl,rfl⟩
        split at h
        · rename_i σ hr
          obtain ⟨τ1,r1,g1⟩:=CP c _ _ _ _ h0 hr
          simp only [g1]
          rw [r1.down] at h
          exact h
        · rename_i σ hr
          obtain ⟨τ1,r1,g1⟩:=CP c _ _ _ _ h0 hr
          simp only [g1]
          rw [r1.down] at h
          exact h
        · cases h
      · cases h
    · cases h
  · cases h
def D1 (P:Program) (Γ:bz) (ext:FuncId->List AV->Option AV) (ou:FuncId->Nat) (T:K_) (lf:Nat):Nat->fb
  | 0=>{ call:=fun _ _ _=>none,yield:=fun _ _ _=>none,ext:=ext }
  | k+1=>
    { call:=La (zD P Γ (D1 P Γ ext ou T lf k) lf) ou T,
      yield:=iD fun r c=>(eU P Γ (D1 P Γ ext ou T lf k) (n_ P Γ (D1 P Γ ext ou T lf k)) lf (some r) c).run,ext:=ext }
theorem CQ (hm:P.follows .mixedOrders=true) (fK:ja P) (cI:eC P Γ fs) {g:FuncId} {args:List AV} {H H':af} {y:AV} (h:zD P Γ fs lf g args H=some (y,H')):CallOk P Γ g args H y H':=
  ov fK (fun c σ e σ' h=>j7 hm cI (fun ops σ σ' h=>oh cI h) c σ e σ' h) (MY h)
theorem fnsT_ok (hm:P.follows .mixedOrders=true) (fK:ja P) {ext:FuncId->List AV->Option AV} (eT:ta P ext) (hΓ:jM Γ) {ou:FuncId->Nat} {T:K_} (hT:zf P Γ T) {lf:Nat}:
    ∀ k,eC P Γ (D1 P Γ ext ou T lf k):=by
  intro k
  induction k with
  | zero=>exact ⟨fun _ _ _ _ _ h=>by simp [D1] at h,fun _ _ _ _ _ h=>by simp [D1] at h,eT⟩
  | succ k ih=>
    refine ⟨fun g args H y H' h=>F9 hΓ (fun g args H y H' h=>CQ hm fK ih h) hT h,fun r args H y H' h=>?_,eT⟩
    have h':iD (fun r c=>(eU P Γ (D1 P Γ ext ou T lf k) (n_ P Γ (D1 P Γ ext ou T lf k)) lf (some r) c).run) r args H=some (y,H'):=h
    refine pQ (fun r c σ e σ' h=>?_) h'
    rw [rk] at h
    exact j7 hm ih (fun ops σ σ' h=>oh ih h) c σ e σ' h
end Go.Abs
end
noncomputable section
namespace Go.Abs
section
variable {fp : B7} {P : Program} {Γ : bz} {fs : fb} {ops : Array Oper} {Ms : List Nat} {aC : List (Option Tmp)} {σ : St} {F G : Nat → Prop} {i : Nat → Nat} {a : Act} {w : World} {H : af} {ro : Option Nat} {Q : Exit → Act → World → Prop} {R : List Rec}
def y9 (P:Program) (m:Nat) (aC:List (Option Tmp)):List Oper->Nat->Bool
 | [],_=>true
 | o::os,k=>(m.testBit k||(eA o.op&&quietAt P o&&fV o.dst k aC 0))&&y9 P m aC os (k+1)
theorem wK {m:Nat}:∀ (os:List Oper) (k:Nat),y9 P m aC os k=true->∀ t o,os[t]?=some o->m.testBit (k+t)=true\/(eA o.op=true/\quietAt P o=true/\fV o.dst (k+t) aC 0=true)
 | [],k,h,t,o,ht=>by simp at ht
 | o'::os,k,h,t,o,ht=>by
  simp only [y9,Bool.and_eq_true,Bool.or_eq_true] at h
  cases t with
  | zero=>
   simp only [List.getElem?_cons_zero,Option.some.injEq] at ht;subst ht
   rcases h.1 with h1 | h1
   ·exact .inl h1
   ·exact .inr ⟨h1.1.1,h1.1.2,h1.2⟩
  | succ t=>
   have:=wK os (k+1) h.2 t o (by simpa using ht)
   rwa [show k+1+t=k+(t+1) by omega] at this
theorem jK:∀ (os:List Oper) (j:Nat) (acc R:List Rec),dF fp P Γ fs ops Ms aC σ os j acc=some R->(∀ r∈acc,r.add=true->quietAt P r.o=false)->∀ r∈R,r.add=true->quietAt P r.o=false
 | [],j,acc,R,h,ha=>by simp only [dF,Option.some.injEq] at h;subst h;exact ha
 | o::os,j,acc,R,h,ha=>by
  simp only [dF] at h
  split at h
  ·split at h
   ·refine jK os _ _ R h fun r hr hd=>?_
    rcases List.mem_cons.1 hr with rfl | hr
    ·cases hd
    ·exact ha r hr hd
   ·cases h
  ·split at h
   ·split at h
    ·split at h
     ·refine jK os _ _ R h fun r hr hd=>?_
      rcases List.mem_cons.1 hr with rfl | hr
      ·cases hd
      ·exact ha r hr hd
     ·cases h
    ·rename_i hq
     split at h
     ·refine jK os _ _ R h fun r hr hd=>?_
      rcases List.mem_cons.1 hr with rfl | hr
      ·cases hd
      ·exact ha r hr hd
     split at h
     ·refine jK os _ _ R h fun r hr hd=>?_
      rcases List.mem_cons.1 hr with rfl | hr
      ·exact hq
      ·exact ha r hr hd
     ·split at h
      ·split at h
       ·refine jK os _ _ R h fun r hr hd=>?_
        rcases List.mem_cons.1 hr with rfl | hr
        ·cases hd
        ·exact ha r hr hd
       ·cases h
      ·cases h
   ·cases h
theorem abx (hk:s9 P fs ops fp) (cI:eC P Γ fs) {Mf:List Nat} (hm:∀ j o,ops[j]?=some o->oa Mf j o) {p:Nat} (hpn:p<=ops.size)
  (K8:∀ j,j<p->Ms.getD j 0=Mf.getD j 0) (hg:Good fp P Γ fs ops Ms aC σ R) (hlen:R.length=p) (hd:jm aC R) (hw:cV Ms aC aC 0=true) {F0:Nat->Prop} {i0:Nat->Nat} {w0:World}
  (MC:∀ (fuel:Nat) (listed:Array Bool) (F:Nat->Prop) (bx i:Nat->Nat) (a:Act) (w:World),listed.size=ops.size->xA listed.toList<=fuel->ri Γ Ms σ R F0 F G i0 w0 (fun k=>listed.getD k false) bx i a w->
   (∀ k,k<p->listed.getD k false=true)->wpAnyIn (W ro) 0 P .any ops Q fuel listed a w)
  (K6:∀ (fuel:Nat) (listed:Array Bool) (F:Nat->Prop) (bx i:Nat->Nat) (a:Act) (w:World),listed.size=ops.size->xA listed.toList<=fuel+1->ri Γ Ms σ R F0 F G i0 w0 (fun k=>listed.getD k false) bx i a w->
   ∀ j,j∈Region.ready .any ops listed->p<=j->(∀ k,(Mf.getD j 0).testBit k=true->listed.getD k false=true)->wpOpIn (W ro) 0 P ops Q j (wpAnyIn (W ro) 0 P .any ops Q fuel (listed.setIfInBounds j true)) a w):
  ∀ (fuel:Nat) (listed:Array Bool) (F:Nat->Prop) (bx i:Nat->Nat) (a:Act) (w:World),listed.size=ops.size->xA listed.toList<=fuel->ri Γ Ms σ R F0 F G i0 w0 (fun k=>listed.getD k false) bx i a w->
   wpAnyIn (W ro) 0 P .any ops Q fuel listed a w:=by
 have yZ:oe ops:=fun j o ho=>(hm j o ho).1
 have Fy:∀ cd r' bk,R=cd++r'::bk->r'.fl.isSome=true->fV r'.o.dst bk.length aC 0=true:=by
  intro cd r' bk he hf
  obtain ⟨_,h⟩:=iV cd hg he
  cases dg:r'.fl with
  | none=>rw [dg] at hf;cases hf
  | some z=>simp only [dg] at h;exact h.2.2.2.2
 intro fuel
 induction fuel with
 | zero=>
  intro listed F bx i a w fI Fz hI
  refine MC 0 listed F bx i a w fI Fz hI fun k hk=>?_
  cases hc:listed.getD k false with
  | true=>rfl
  | false=>
   exfalso
   have iC:k<listed.size:=by omega
   rw [Array.getD_eq_getD_getElem?,Array.getElem?_eq_getElem iC] at hc
   have:=xY listed.toList k (by rw [Array.getElem?_toList,Array.getElem?_eq_getElem iC];simpa using hc)
   omega
 | succ fuel ih=>
  intro listed F bx i a w fI Fz hI
  by_cases cR:∀ k,k<p->listed.getD k false=true
  ·exact MC (fuel+1) listed F bx i a w fI Fz hI cR
  simp only [Classical.not_forall,not_imp,Bool.not_eq_true] at cR
  obtain ⟨k0,hk0,MB⟩:=cR
  have Mu:listed.getD k0 true=false:=by
   have iC:k0<listed.size:=by omega
   rw [Array.getD_eq_getD_getElem?,Array.getElem?_eq_getElem iC] at MB ⊢
   exact MB
  obtain ⟨j0,IH⟩:=jB yZ fI k0 (by omega) Mu
  refine ⟨fun h0=>(by rw [h0] at IH;cases IH),fun j hj=>?_⟩
  obtain ⟨WW,oj,FA,lA⟩:=mem_ready.1 hj
  obtain ⟨xB,hj3,hj4⟩:=dh WW
  have lr:j<ops.size:=by omega
  have F3:∀ k,(Mf.getD j 0).testBit k=true->listed.getD k false=true:=by
   intro k hb
   obtain ⟨e,he,FZ,h⟩:=((hm j oj FA).2 k).1 hb
   have uP:=lA e he FZ
   rcases h with rfl | h
   ·exact uP
   ·refine hI.closed.down e.on k uP ?_
    rw [K8 e.on (by rw [←hlen];exact hI.VA _ uP)]
    exact h
  rcases Nat.lt_or_ge j p with VF | VF
  case inr=>exact K6 fuel listed F bx i a w fI Fz hI j hj VF F3
  have dZ:∀ k,(Ms.getD j 0).testBit k=true->listed.getD k false=true:=fun k hb=>F3 k (by rw [←K8 j VF];exact hb)
  obtain ⟨pre,r,rest,he,DH⟩:=IF R j (by omega)
  subst DH
  obtain ⟨uJ,xC⟩:=iV pre hg he
  rw [uJ] at FA
  simp only [Option.some.injEq] at FA;subst FA
  have WX:(fun k=>(listed.setIfInBounds rest.length true).getD k false)=(fun k=>k==rest.length||listed.getD k false):=funext fun k=>og hj3
  have II:xA (listed.setIfInBounds rest.length true).toList<=fuel:=by
   have:=s_ listed.toList rest.length hj4
   rw [Array.toList_setIfInBounds]
   omega
  have next:∀ F' y7 i' a' w',ri Γ Ms σ R F0 F' G i0 w0 (fun k=>k==rest.length||listed.getD k false) y7 i' a' w'->wpAnyIn (W ro) 0 P .any ops Q fuel (listed.setIfInBounds rest.length true) a' w':=
   fun F' y7 i' a' w' hI'=>ih _ F' y7 i' a' w' (by simpa using fI) II (by rw [WX];exact hI')
  unfold wpOpIn
  simp only [uJ]
  cases dg:r.fl with
  | some z=>
   simp only [dg] at xC
   obtain ⟨hρ,hy,bZ,WY,_⟩:=xC
   have xX:∀ x,ao ⟨F,w.heap,i,(eu σ.H (fun k=>listed.getD k false) R).n⟩ (r.ρ x) (a.eval x):=by
    intro x
    rw [hρ]
    exact hI.val.eval hI.closed hd he xB dZ (iZ hI.dx σ.tmps) x
   obtain ⟨o,VG,BZ,qz,cc,aG⟩:=K7 WY xX w
   have O_:Region.wanted r.o (yielded ops a.tmps)=true:=by simp [Region.wanted,VG]
   rw [if_pos O_]
   refine ⟨fun _ _=>trivial,?_⟩
   rw [Oper.semAt_eq _ _ _ BZ]
   rw [cc]
   exact next _ _ _ _ _ (hI.float hd hw he xB dZ qz dg hy bZ Fy aG)
  | none=>
   simp only [dg] at xC
   obtain ⟨hρ,H',cA,Pa⟩:=xC
   have xX:∀ x,ao ⟨F,w.heap,i,(eu σ.H (fun k=>listed.getD k false) R).n⟩ (r.ρ x) (a.eval x):=by
    intro x
    rw [hρ]
    exact hI.val.eval hI.closed hd he xB dZ (iZ hI.dx σ.tmps) x
   rcases Pa with ⟨bZ,_⟩ | ⟨bZ,SD,Th,WM⟩
   ·have h2:=yW hk hI.closed hg pre he dg bZ xB dZ
    exact i_ cI hI.heap hI.dx xX h2 fun v w' F' i' dG=>next _ _ _ _ _ (hI.step hd hw he xB dZ dg Fy (uO pre he bZ) dG)
   ·obtain ⟨c1,c2⟩:=FW hI.closed hg pre he bZ xB dZ
    rw [←c1,SD] at cA
    exact i_ cI hI.heap hI.dx xX cA fun v w' F' i' dG=>next _ _ _ _ _ (hI.step hd hw he xB dZ dg Fy c2 dG)
def qM (R:List Rec) (S:Nat->Bool) (t:Nat):Prop:=∃ pre r rest,R=pre++r::rest/\S rest.length=false/\r.o.dst=some t
open Classical in
def qC (p:Nat->Prop) (T:List AV):List AV:=T.mapIdx fun t x=>if p t then .top else x
theorem y_ {p:Nat->Prop} {T:List AV} {t:Nat} {x:AV} (h:(qC p T)[t]?=some x):(p t/\x=.top)\/(¬ p t/\T[t]?=some x):=by
 unfold qC at h
 rw [List.getElem?_mapIdx] at h
 cases hT:T[t]? with
 | none=>rw [hT] at h;simp at h
 | some y=>
  rw [hT] at h
  simp only [Option.map_some,Option.some.injEq] at h
  by_cases hp:p t
  ·rw [if_pos hp] at h;exact .inl ⟨hp,h.symm⟩
  ·rw [if_neg hp] at h;exact .inr ⟨hp,by rw [h]⟩
theorem eN {p:Nat->Prop} {T:List AV}:(qC p T).length=T.length:=by simp [qC]
theorem F5 {t:Nat}:∀ (R:List Rec) (T:List AV) (H:af),(∀ r∈R,r.fl.isSome=true->r.o.dst≠some t)->(cf R T H).1[t]?=T[t]?
 | [],T,H,h=>rfl
 | r::R,T,H,h=>by
  have ih:=F5 R T H fun r' hr=>h r' (List.mem_cons_of_mem _ hr)
  simp only [cf]
  split
  ·rename_i z hz
   have ek:=h r List.mem_cons_self (by rw [hz];rfl)
   cases hd:r.o.dst with
   | none=>simp only [dt];exact ih
   | some d=>
    simp only [dt]
    rw [List.getElem?_set]
    have:d≠t:=by rintro rfl;exact ek hd
    rw [if_neg this];exact ih
  ·exact ih
theorem oi:∀ (R:List Rec) (T:List AV) (H:af),(cf R T H).1.length=T.length
 | [],T,H=>rfl
 | r::R,T,H=>by
  simp only [cf]
  split
  ·rw [eM,oi R T H]
  ·exact oi R T H
theorem CC {t:Nat} {T T':List AV} {H:af} (hl:T.length=T'.length):∀ (R:List Rec),(cf R T H).2=(cf R T' H).2/\(T[t]?=T'[t]?->(cf R T H).1[t]?=(cf R T' H).1[t]?)
 | []=>⟨rfl,fun h=>h⟩
 | r::R=>by
  obtain ⟨h1,h2⟩:=CC (t:=t) hl R
  simp only [cf]
  split
  ·refine ⟨by rw [h1],fun h=>?_⟩
   rw [h1]
   cases hd:r.o.dst with
   | none=>exact h2 h
   | some d=>
    simp only [dt,List.getElem?_set,oi,hl,h2 h]
  ·exact ⟨h1,h2⟩
theorem wL {t:Nat} {r:Rec} {rest:List Rec} (hr:r.o.dst=some t):∀ (pre:List Rec),(∀ q∈pre,q.o.dst≠some t)->gN t (pre++r::rest)=some r.y
 | [],_=>by simp [gN,hr]
 | q::pre,h=>by
  have ih:=wL (rest:=rest) hr pre fun q' hq=>h q' (List.mem_cons_of_mem _ hq)
  have hq:=h q List.mem_cons_self
  simp only [List.cons_append,gN]
  split
  ·rename_i u hu
   have:(u==t)=false:=beq_eq_false_iff_ne.2 (by rintro rfl;exact hq hu)
   rw [this];exact ih
  ·exact ih
structure VH (Γ:bz) (Ms:List Nat) (σ:St) (R:List Rec) (F0 F G:Nat->Prop) (i0:Nat->Nat) (w0:World) (S:Nat->Bool) (T:List AV) (H1:af) (i:Nat->Nat) (a:Act) (w:World):Prop where
 closed:jX Ms S
 Pc:iz Γ F G i { σ with tmps:=qC (qM R S) T,H:=H1 } a w
 val:qL ⟨F,w.heap,i,H1.n⟩ S R σ.tmps a
 ext:Ext σ.H.n F0 G i0 w0 F i w
 le:σ.H.n<=H1.n
structure VI (Mf:List Nat) (R:List Rec) (q:Nat):Prop where
 pure:∀ pre r rest,R=pre++r::rest->(Mf.getD q 0).testBit rest.length=false->eA r.o.op=true/\r.add=false/\r.fl=none
 alone:∀ pre r rest,R=pre++r::rest->(Mf.getD q 0).testBit rest.length=false->∀ t,r.o.dst=some t->∀ cd r' bk,R=cd++r'::bk->r'.o.dst=some t->bk.length=rest.length
theorem aby (cI:eC P Γ fs) {Mf:List Nat} (hm:∀ j o,ops[j]?=some o->oa Mf j o) {q:Nat} (hq:q<ops.size) (CD:∀ j,q<j->j<ops.size->Mf.getD j 0=2 ^ j-1)
  (K8:∀ j,j<q->Ms.getD j 0=Mf.getD j 0) (hg:Good fp P Γ fs ops Ms aC σ R) (hlen:R.length=q) (hd:jm aC R) (hw:cV Ms aC aC 0=true) (abz:VI Mf R q)
  {F0:Nat->Prop} {i0:Nat->Nat} {w0:World} {σ':St} {T:List AV} {H1:af}
  (hT:∀ pre r rest t x,R=pre++r::rest->(Mf.getD q 0).testBit rest.length=false->r.o.dst=some t->T[t]?=some x->x=r.y)
  (WV:∀ r∈σ.defers,r<σ.H.n)
  (hB:fc P Γ fs ops (ops.toList.drop (q+1)) { σ with tmps:=T,H:=H1 }=some σ')
  (hQ:∀ F' i' a' w',iz Γ F' G i' σ' a' w'->Ext σ.H.n F0 G i0 w0 F' i' w'->σ.H.n<=σ'.H.n->Q .normal a' w'):
  ∀ (fuel:Nat) (listed:Array Bool) (S:Nat->Bool) (F:Nat->Prop) (i:Nat->Nat) (a:Act) (w:World),listed.size=ops.size->xA listed.toList<=fuel->(∀ k,listed.getD k false=(k==q||S k))->(∀ k,S k=true->k<q)->
   (∀ k,(Mf.getD q 0).testBit k=true->S k=true)->VH Γ Ms σ R F0 F G i0 w0 S T H1 i a w->wpAnyIn (W ro) 0 P .any ops Q fuel listed a w:=by
 have yZ:oe ops:=fun j o ho=>(hm j o ho).1
 have finish:∀ (fuel:Nat) (listed:Array Bool) (S:Nat->Bool) (F:Nat->Prop) (i:Nat->Nat) (a:Act) (w:World),listed.size=ops.size->xA listed.toList<=fuel->(∀ k,listed.getD k false=(k==q||S k))->(∀ k,S k=true->k<q)->
   VH Γ Ms σ R F0 F G i0 w0 S T H1 i a w->(∀ k,k<q->S k=true)->wpAnyIn (W ro) 0 P .any ops Q fuel listed a w:=by
  intro fuel listed S F i a w fI Fz hl hS hI cR
  have hl2:∀ k,listed.getD k false=decide (k<q+1):=by
   intro k
   rw [hl]
   by_cases hk:k<q
   ·rw [cR k hk];simp;omega
   ·by_cases iC:k=q
    ·subst iC;simp
    ·have:S k=false:=by
      cases hc:S k with
      | false=>rfl
      | true=>exact absurd (hS k hc) hk
     rw [this,Bool.or_false,beq_eq_false_iff_ne.2 iC]
     exact (decide_eq_false (by omega)).symm
  have hTT:qC (qM R S) T=T:=by
   refine List.ext_getElem? fun t=>?_
   unfold qC
   rw [List.getElem?_mapIdx]
   have WZ:¬ qM R S t:=by
    rintro ⟨pre,r,rest,he,hs,_⟩
    rw [cR rest.length (by rw [←hlen,he];simp;omega)] at hs
    cases hs
   cases T[t]? with
   | none=>rfl
   | some x=>simp [WZ]
  have hs:=hI.Pc
  rw [hTT] at hs
  refine VD cI hm (p:=q+1) (fun j hj lr=>CD j (by omega) lr) (ops.toList.drop (q+1)) (q+1) _ σ' F i a w listed fuel rfl (Nat.le_refl _) fI hl2 (by omega) ?_ hB hs fun FP K0 OY K2 et he q9=>hQ FP K0 OY K2 et (hI.ext.trans he hI.le) (Nat.le_trans hI.le q9)
  have IE:=O9 listed.toList (q+1) fun k hk hkl=>by
   have iC:k<listed.size:=by simpa using hkl
   have:=hl2 k
   rw [Array.getD_eq_getD_getElem?,Array.getElem?_eq_getElem iC] at this
   rw [Array.getElem?_toList,Array.getElem?_eq_getElem iC]
   have h3:¬ k<q+1:=by omega
   simp only [Option.getD_some,h3,decide_false] at this
   rw [this]
  have:listed.toList.length=ops.size:=by simpa using fI
  omega
 intro fuel
 induction fuel with
 | zero=>
  intro listed S F i a w fI Fz hl hS wM hI
  refine finish 0 listed S F i a w fI Fz hl hS hI fun k hk=>?_
  cases hc:S k with
  | true=>rfl
  | false=>
   exfalso
   have hlk:listed.getD k false=false:=by rw [hl,hc,beq_eq_false_iff_ne.2 (by omega)];rfl
   have iC:k<listed.size:=by omega
   rw [Array.getD_eq_getD_getElem?,Array.getElem?_eq_getElem iC] at hlk
   have:=xY listed.toList k (by rw [Array.getElem?_toList,Array.getElem?_eq_getElem iC];simpa using hlk)
   omega
 | succ fuel ih=>
  intro listed S F i a w fI Fz hl hS wM hI
  by_cases cR:∀ k,k<q->S k=true
  ·exact finish (fuel+1) listed S F i a w fI Fz hl hS hI cR
  simp only [Classical.not_forall,not_imp,Bool.not_eq_true] at cR
  obtain ⟨k0,hk0,MB⟩:=cR
  have F6:listed.getD k0 false=false:=by rw [hl,MB,beq_eq_false_iff_ne.2 (by omega)];rfl
  have Mu:listed.getD k0 true=false:=by
   have iC:k0<listed.size:=by omega
   rw [Array.getD_eq_getD_getElem?,Array.getElem?_eq_getElem iC] at F6 ⊢
   exact F6
  obtain ⟨j0,IH⟩:=jB yZ fI k0 (by omega) Mu
  refine ⟨fun h0=>(by rw [h0] at IH;cases IH),fun j hj=>?_⟩
  obtain ⟨WW,oj,FA,lA⟩:=mem_ready.1 hj
  obtain ⟨xB,hj3,hj4⟩:=dh WW
  have lr:j<ops.size:=by omega
  have hjq:j≠q:=by rintro rfl;rw [hl] at xB;simp at xB
  have VF:j<q:=by
   rcases Nat.lt_or_ge j q with h | h
   ·exact h
   ·exfalso
    have hb:(Mf.getD j 0).testBit k0=true:=by
     rw [CD j (by omega) lr,Nat.testBit_two_pow_sub_one];simp;omega
    obtain ⟨e,he,FZ,h⟩:=((hm j oj FA).2 k0).1 hb
    have uP:=lA e he FZ
    rcases h with rfl | h
    ·rw [F6] at uP;cases uP
    ·rw [hl] at uP
     rcases Bool.or_eq_true_iff.1 uP with h2 | h2
     ·have h2:=beq_iff_eq.1 h2
      rw [h2] at h
      rw [wM k0 h] at MB;cases MB
     ·have:=hI.closed.down e.on k0 h2 (by rw [K8 _ (hS _ h2)];exact h)
      rw [this] at MB;cases MB
  have hSj:S j=false:=by
   cases hc:S j with
   | false=>rfl
   | true=>rw [hl,hc] at xB;simp at xB
  have dZ:∀ k,(Ms.getD j 0).testBit k=true->S k=true:=by
   intro k hb
   rw [K8 j VF] at hb
   obtain ⟨e,he,FZ,h⟩:=((hm j oj FA).2 k).1 hb
   have uP:=lA e he FZ
   have cC:=(hm j oj FA).1 e he FZ
   have hSe:S e.on=true:=by
    rw [hl,beq_eq_false_iff_ne.2 (by omega)] at uP;simpa using uP
   rcases h with rfl | h
   ·exact hSe
   ·exact hI.closed.down e.on k hSe (by rw [K8 e.on (by omega)];exact h)
  obtain ⟨pre,r,rest,he,DH⟩:=IF R j (by omega)
  subst DH
  obtain ⟨uJ,xC⟩:=iV pre hg he
  rw [uJ] at FA
  simp only [Option.some.injEq] at FA;subst FA
  have W0:(Mf.getD q 0).testBit rest.length=false:=by
   cases hc:(Mf.getD q 0).testBit rest.length with
   | false=>rfl
   | true=>rw [wM _ hc] at hSj;cases hSj
  obtain ⟨nL,bZ,dg⟩:=abz.pure pre r rest he W0
  simp only [dg] at xC
  obtain ⟨hρ,H',cA,_⟩:=xC
  have cA:=rh nL cA H1
  have xX:∀ x,ao ⟨F,w.heap,i,H1.n⟩ (r.ρ x) (a.eval x):=by
   intro x
   rw [hρ]
   exact hI.val.eval hI.closed hd he hSj dZ (iZ hI.Pc.dx σ.tmps) x
  have II:xA (listed.setIfInBounds rest.length true).toList<=fuel:=by
   have:=s_ listed.toList rest.length hj4
   rw [Array.toList_setIfInBounds]
   omega
  unfold wpOpIn
  simp only [uJ]
  refine i_ cI hI.Pc.heap hI.Pc.dx xX cA fun v w' F' i' dG=>?_
  refine ih _ (fun k=>k==rest.length||S k) F' i' _ w' (by simpa using fI) II (fun k=>?_) (fun k hk=>?_) (fun k hk=>?_) ?_
  ·rw [og hj3,hl]
   cases (k==rest.length)<;>cases (k==q)<;>simp
  ·simp only [Bool.or_eq_true,beq_iff_eq] at hk
   rcases hk with rfl | hk
   ·exact VF
   ·exact hS k hk
  ·simp only [wM k hk,Bool.or_true]
  ·have le:Env.le ⟨F,w.heap,i,H1.n⟩ ⟨F',w'.heap,i',H1.n⟩:=dG.ext.le (Nat.le_refl _) dG.le
   refine ⟨hI.closed.more dZ,?_,(hI.val.mono le).put hI.closed hw hd he hSj dG.val,hI.ext.trans dG.ext hI.le,hI.le⟩
   have CE:=hI.Pc.step dG r.o.dst
   refine { CE with tmps:=⟨?_,fun t x u hx hu=>?_⟩ }
   ·have:=CE.tmps.1
    rw [eM,eN] at this
    rw [eN];exact this
   ·rcases y_ hx with ⟨_,rfl⟩ | ⟨hn,hTx⟩
    ·exact .top _
    ·have htl:t<T.length:=(List.getElem?_eq_some_iff.1 hTx).1
     by_cases hdt:r.o.dst=some t
     ·have hxy:=hT pre r rest t x he W0 hdt hTx
      subst hxy
      refine CE.tmps.2 t r.y u ?_ hu
      rw [hdt]
      simp only [dt]
      rw [List.getElem?_set,if_pos rfl,if_pos (by rw [eN];exact htl)]
     ·refine CE.tmps.2 t x u ?_ hu
      have WZ:¬ qM R S t:=by
       rintro ⟨cd,r',bk,gn,et,B_⟩
       refine hn ⟨cd,r',bk,gn,?_,B_⟩
       have ek:bk.length≠rest.length:=fun hc=>by
        have:=(jY gn he hc).1
        subst this;exact hdt B_
       show (bk.length==rest.length||S bk.length)=false
       rw [et,beq_eq_false_iff_ne.2 ek];rfl
      have hh:(qC (qM R S) T)[t]?=some x:=by
       unfold qC
       rw [List.getElem?_mapIdx,hTx]
       simp [WZ]
      cases WN:r.o.dst with
      | none=>exact hh
      | some d=>
       simp only [dt]
       rw [List.getElem?_set,if_neg (by rintro rfl;exact hdt WN)]
       exact hh
def tb (P:Program) (Mf:List Nat) (os:List Oper) (q:Nat) (o:Oper):Bool:=
 (match o.dst with | none=>y9 P (Mf.getD q 0) ((os.take q).map (·.dst)) (os.take q) 0 | some _=>false)&&cV (Mf.take q) ((os.take q).map (·.dst)) ((os.take q).map (·.dst)) 0&&Nat.blt q (bb Mf 0 0)
def za (fp:B7) (P:Program) (Γ:bz) (fs:fb) (ops:Array Oper) (σ:St):Option St:=
 match lY ops.toList 0 [] with
 | some Mf=>
  let q:=bb Mf 0 0-1
  let aC:=(ops.toList.take q).map (·.dst)
  match ops.toList[q]? with
  | some o=>match tb P Mf ops.toList q o with
   | true=>match dF fp P Γ fs ops (Mf.take q) aC σ (ops.toList.take q) 0 [] with
    | some acc=>match aZ P fs ops (cK Γ (Mf.take (q+1)) aC (cf acc (bJ σ.tmps acc) (aS σ.H acc)).1 [] q) (cf acc (bJ σ.tmps acc) (aS σ.H acc)).2 o with
     | some (_,H')=>fc P Γ fs ops (ops.toList.drop (q+1)) { σ with tmps:=(cf acc (bJ σ.tmps acc) (aS σ.H acc)).1,H:=H' }
     | none=>none
    | none=>none
   | false=>none
  | none=>none
 | none=>none
theorem zb {o:Oper} (h:eA o.op=true):quietAt P o=true/\(∀ t,o.op≠.alloc t):=by
 unfold eA at h
 unfold quietAt
 split at h
 all_goals first
  | (rename_i heq;rw [heq];exact ⟨rfl,fun t ht=>by cases ht⟩)
  | (rename_i heq;rw [heq];split at h<;>first | exact ⟨rfl,fun t ht=>by cases ht⟩ | cases h)
  | cases h
theorem MD (hk:s9 P fs ops fp) (cI:eC P Γ fs) {σ':St} (h:za fp P Γ fs ops σ=some σ'):qZ P Γ ops σ σ':=by
 unfold za at h
 split at h
 case h_2=>cases h
 rename_i Mf Tk
 simp only at h
 split at h
 case h_2=>cases h
 rename_i oq hoq
 split at h
 case h_2=>cases h
 rename_i VJ
 split at h
 case h_2=>cases h
 rename_i R hR
 split at h
 case h_2=>cases h
 rename_i yq Hq abA
 obtain ⟨m1,_,m3⟩:=wF _ _ _ _ Tk rfl
 have hm:∀ j o,ops[j]?=some o->oa Mf j o:=fun j o ho=>by
  have:=m3 j o (by simpa using ho)
  rwa [Nat.zero_add] at this
 obtain ⟨p1,p2,p3⟩:=wG Mf 0 0 (Nat.le_refl _)
 have abw:Mf.length=ops.size:=by simpa using m1
 simp only [tb,Bool.and_eq_true] at VJ
 obtain ⟨⟨SE,hw⟩,hc3⟩:=VJ
 rw [Nat.blt_eq] at hc3
 generalize hqq:bb Mf 0 0-1=q at *
 have hps:bb Mf 0 0=q+1:=by omega
 have hqn:q<ops.size:=by omega
 have IA:oq.dst=none:=by
  cases hd:oq.dst with
  | none=>rfl
  | some d=>rw [hd] at SE;cases SE
 rw [IA] at SE
 simp only at SE
 have aet:ops[q]?=some oq:=by simpa using hoq
 have CD:∀ j,q<j->j<ops.size->Mf.getD j 0=2 ^ j-1:=by
  intro j hj lr
  have:=p3 j Mf[j] (List.getElem?_eq_getElem (by omega)) (by omega)
  rw [List.getD_eq_getElem?_getD,List.getElem?_eq_getElem (by omega:j<Mf.length)]
  simpa using this
 have K8:∀ j,j<q->(Mf.take q).getD j 0=Mf.getD j 0:=by
  intro j hj
  rw [List.getD_eq_getElem?_getD,List.getD_eq_getElem?_getD,List.getElem?_take,if_pos hj]
 obtain ⟨g1,g2⟩:=Cw (ops.toList.take q) [] R hR trivial (fun t o ht=>by
  rw [List.getElem?_take] at ht
  split at ht
  ·simpa using ht
  ·cases ht)
 have hlen:R.length=q:=by
  rw [g2]
  have:ops.toList.length=ops.size:=by simp
  simp only [List.length_nil,List.length_take];omega
 have hd:jm ((ops.toList.take q).map (·.dst)) R:=by
  intro pre r rest he
  have ho:=(iV pre g1 he).1
  have cC:rest.length<q:=by rw [←hlen,he];simp;omega
  rw [List.getElem?_map,List.getElem?_take,if_pos cC,Array.getElem?_toList,ho]
  rfl
 have abB:=jK _ _ _ _ hR (fun r hr=>by cases hr)
 have Fy:∀ cd r' bk,R=cd++r'::bk->r'.fl.isSome=true->fV r'.o.dst bk.length ((ops.toList.take q).map (·.dst)) 0=true:=by
  intro cd r' bk he hf
  obtain ⟨_,h⟩:=iV cd g1 he
  cases dg:r'.fl with
  | none=>rw [dg] at hf;cases hf
  | some z=>simp only [dg] at h;exact h.2.2.2.2
 have cC:∀ {pre:List Rec} {r:Rec} {rest:List Rec},R=pre++r::rest->rest.length<q:=fun he=>by rw [←hlen,he];simp;omega
 have lq:∀ pre r rest,R=pre++r::rest->(Mf.getD q 0).testBit rest.length=false->eA r.o.op=true/\fV r.o.dst rest.length ((ops.toList.take q).map (·.dst)) 0=true:=by
  intro pre r rest he hb
  have ho:=(iV pre g1 he).1
  have:=wK _ _ SE rest.length r.o (by rw [List.getElem?_take,if_pos (cC he),Array.getElem?_toList,ho])
  rw [Nat.zero_add,hb] at this
  rcases this with h | ⟨h1,_,h3⟩
  ·cases h
  ·exact ⟨h1,h3⟩
 have zd:VI Mf R q:=by
  refine ⟨fun pre r rest he hb=>?_,fun pre r rest he hb t ht cd r' bk gn VK=>?_⟩
  ·obtain ⟨h1,h2⟩:=lq pre r rest he hb
   refine ⟨h1,?_,?_⟩
   ·cases ha:r.add with
    | false=>rfl
    | true=>have h5:=(zb (P:=P) h1).1;rw [abB r (by rw [he];simp) ha] at h5;cases h5
   ·cases hf:r.fl with
    | none=>rfl
    | some z=>
     have OF:=(iV pre g1 he).2
     simp only [hf] at OF
     obtain ⟨_,⟨t,_,ht,_⟩ | ⟨t,n,ps,_,ht,_⟩⟩:=yY OF.2.2.2.1
     ·exact absurd ht ((zb (P:=P) h1).2 t)
     ·rw [ht] at h1;cases h1
  ·obtain ⟨h1,h2⟩:=lq pre r rest he hb
   rw [ht] at h2
   have h3:=hd _ _ _ gn
   rw [VK] at h3
   have:=oc _ _ h2 _ h3
   omega
 have Tl:∀ {S:Nat->Bool},(∀ k,(Mf.getD q 0).testBit k=true->S k=true)->∀ pre r rest,R=pre++r::rest->r.fl.isSome=true\/r.add=true->S rest.length=true:=by
  intro S hS pre r rest he hf
  cases hb:(Mf.getD q 0).testBit rest.length with
  | true=>exact hS _ hb
  | false=>
   obtain ⟨h1,h2,h3⟩:=zd.pure pre r rest he hb
   rw [h2,h3] at hf
   rcases hf with hf | hf<;>cases hf
 have aeu:∀ pre r rest t,R=pre++r::rest->(Mf.getD q 0).testBit rest.length=false->r.o.dst=some t->∀ r'∈R,r'.fl.isSome=true->r'.o.dst≠some t:=by
  intro pre r rest t he hb ht r' gL hf VK
  obtain ⟨p',s',e'⟩:=List.append_of_mem gL
  have:=zd.alone pre r rest he hb t ht p' r' s' e' VK
  have:=(jY e' he this).1
  subst this
  rw [(zd.pure pre r' rest he hb).2.2] at hf;cases hf
 have hT:∀ pre r rest t x,R=pre++r::rest->(Mf.getD q 0).testBit rest.length=false->r.o.dst=some t->(cf R (bJ σ.tmps R) (aS σ.H R)).1[t]?=some x->x=r.y:=by
  intro pre r rest t x he hb ht hx
  rw [F5 R _ _ (aeu pre r rest t he hb ht)] at hx
  have hl:gN t R=some r.y:=by
   rw [he]
   refine wL ht pre fun r' gL VK=>?_
   obtain ⟨p',s',e'⟩:=List.append_of_mem gL
   have:=zd.alone pre r rest he hb t ht p' r' (s'++r::rest) (by rw [he,e'];simp) VK
   simp at this;omega
  rcases pO σ.tmps R hx with h1 | ⟨h1,_⟩
  ·rw [hl] at h1;simpa using h1.symm
  ·rw [hl] at h1;cases h1
 refine ⟨fun bw=>?_,fun ro F G i a w Q hs hQ=>?_⟩
 ·have t1:=Cy cI bw R g1
  have t2:=Cz (T:=bJ σ.tmps R) t1.ok R
  have t3:=nc cI (t1.trans t2).ok abA
  exact ((t1.trans t2).trans t3).trans (uQ cI _ _ _ t3.ok h).1
 ·have hS:∀ k,(Array.replicate ops.size false).getD k false=false:=by
   intro k
   rw [Array.getD_eq_getD_getElem?,Array.getElem?_replicate]
   split<;>rfl
  have hN:∀ {C:Prop} k,(fun k=>(Array.replicate ops.size false).getD k false) k=true->C:=fun k h=>by
   have h2:(Array.replicate ops.size false).getD k false=true:=h
   rw [hS] at h2;cases h2
  have Fz:xA (Array.replicate ops.size false).toList<=ops.size:=by
   have:=List.countP_le_length (p:=(·==false)) (l:=(Array.replicate ops.size false).toList)
   simp only [Array.length_toList,Array.size_replicate] at this
   exact this
  have hc:eu σ.H (fun k=>(Array.replicate ops.size false).getD k false) R=σ.H:=CA hS R
  have xW:∀ (listed:Array Bool) (F1:Nat->Prop) (bx i1:Nat->Nat) (a1:Act) (w1:World),ri Γ (Mf.take q) σ R F F1 G i w (fun k=>listed.getD k false) bx i1 a1 w1->listed.getD q false=false:=by
   intro listed F1 bx i1 a1 w1 hI
   cases hc:listed.getD q false with
   | false=>rfl
   | true=>have:=hI.VA q hc;omega
  have VL:∀ (fuel:Nat) (listed:Array Bool) (F1:Nat->Prop) (bx i1:Nat->Nat) (a1:Act) (w1:World),listed.size=ops.size->xA listed.toList<=fuel+1->ri Γ (Mf.take q) σ R F F1 G i w (fun k=>listed.getD k false) bx i1 a1 w1->
    (∀ k,(Mf.getD q 0).testBit k=true->listed.getD k false=true)->wpOpIn (W ro) 0 P ops Q q (wpAnyIn (W ro) 0 P .any ops Q fuel (listed.setIfInBounds q true)) a1 w1:=by
   intro fuel listed F1 bx i1 a1 w1 fI Tm hI wM
   have VM:=xW _ _ _ _ _ _ hI
   have Pd:q<listed.size:=by omega
   have Tn:listed.toList[q]?=some false:=by
    rw [Array.getD_eq_getD_getElem?,Array.getElem?_eq_getElem Pd] at VM
    rw [Array.getElem?_toList,Array.getElem?_eq_getElem Pd];simpa using VM
   have W1:=Tl (S:=fun k=>listed.getD k false) wM
   have lx:eu σ.H (fun k=>listed.getD k false) R=aS σ.H R:=yV R fun pre r rest he ha=>W1 pre r rest he (.inr ha)
   have WR:(fun b=>G b\/yX R (fun k=>listed.getD k false) bx b)=(fun b=>G b\/iB R bx 0 b):=by
    funext b
    refine propext (or_congr Iff.rfl ⟨?_,?_⟩)
    ·rintro ⟨p1,r1,s1,h1,h2,h3,h4⟩;exact ⟨p1,r1,s1,h1,h2,Nat.zero_le _,h4⟩
    ·rintro ⟨p1,r1,s1,h1,h2,h3,h4⟩;exact ⟨p1,r1,s1,h1,h2,W1 _ _ _ h1 (.inl h2),h4⟩
   have hH:=hI.heap
   rw [WR,lx] at hH
   have Ix:IC G R (fun _=>true) bx a1 w1:=
    ⟨fun pre r rest z he hf _=>hI.bx.obj pre r rest z he hf (W1 _ _ _ he (.inl (by rw [hf];rfl))),
     fun pre r rest z he hf _=>hI.bx.tmp pre r rest z he hf (W1 _ _ _ he (.inl (by rw [hf];rfl))),
     fun pre r rest cd r' bk he gn hf nI _ _=>hI.bx.inj pre r rest cd r' bk he gn hf nI (W1 _ _ _ he (.inl hf)) (W1 _ _ _ gn (.inl nI)),
     fun pre r rest he hf _=>hI.bx.out pre r rest he hf (W1 _ _ _ he (.inl hf))⟩
   have hVT:ay ⟨F1,w1.heap,i1,(aS σ.H R).n⟩ (qC (qM R (fun k=>listed.getD k false)) (bJ σ.tmps R)) a1.tmps.toList:=by
    refine ⟨by rw [eN,gP];simpa using hI.val.1.symm,fun t x v hx hv=>?_⟩
    rcases y_ hx with ⟨_,rfl⟩ | ⟨hn,hx⟩
    ·exact .top _
    have ey:=hI.val.2 t v (by simpa using hv)
    rw [uN R fun pre r rest he hrd=>Classical.byContradiction fun hc=>hn ⟨pre,r,rest,he,Bool.eq_false_iff.2 hc,hrd⟩,lx] at ey
    rcases pO σ.tmps R hx with h | ⟨h,h2⟩
    ·rw [h] at ey;exact ey
    ·rw [h] at ey;exact ey x h2
   obtain ⟨i2,k1,k2,k3,k4⟩:=O8 Ix (fun _ _=>rfl) hH hVT R [] rfl
   have hG:(fun b=>G b\/iB R bx R.length b)=G:=by
    funext b
    refine propext ⟨?_,.inl⟩
    rintro (h | ⟨p1,r1,s1,h1,h2,h3,h4⟩)
    ·exact h
    ·have:s1.length<R.length:=by rw [h1];simp;omega
     omega
   rw [hG] at k1
   have hle:=hI.le
   rw [lx] at hle
   have hsw:=fun t=>CC (t:=t) (T:=qC (qM R (fun k=>listed.getD k false)) (bJ σ.tmps R)) (T':=bJ σ.tmps R) (H:=aS σ.H R) eN R
   rw [(hsw 0).1] at k1 k2 k4
   generalize hHL:(cf R (bJ σ.tmps R) (aS σ.H R)).2=HL at *
   have eT:Ext σ.H.n F G i w F1 i2 w1:={ hI.ext with same:=fun r hr=>(k3 r (by omega)).trans (hI.ext.same r hr) }
   have y5:=hI.dx
   rw [lx] at y5
   have le:Env.le ⟨F1,w1.heap,i1,(aS σ.H R).n⟩ ⟨F1,w1.heap,i2,HL.n⟩:=
    ⟨fun _ h=>h,fun _ _=>rfl,k4,k3,fun _ c e z h=>⟨c,e,z,h,Nat.le_refl _⟩⟩
   have uR:=hI.val
   rw [lx] at uR
   have uR:=uR.mono le
   have B0:iz Γ F1 G i2 { σ with tmps:=qC (qM R (fun k=>listed.getD k false)) (cf R (bJ σ.tmps R) (aS σ.H R)).1,H:=HL } a1 w1:=by
    refine ⟨⟨?_,fun t x v hx hv=>?_⟩,?_,fun r hr=>Nat.lt_of_lt_of_le (hs.mZ r hr) (Nat.le_trans hle k4),k1,y5.mono le⟩
    ·rw [eN,oi]
     have:=k2.1
     rw [oi,eN] at this
     exact this
    ·rcases y_ hx with ⟨_,rfl⟩ | ⟨hn,hx⟩
     ·exact .top _
     refine k2.2 t x v ?_ hv
     rw [(hsw t).2 ?_]
     ·exact hx
     ·unfold qC
      rw [List.getElem?_mapIdx]
      cases (bJ σ.tmps R)[t]? with
      | none=>rfl
      | some x=>exact congrArg some (if_neg hn)
    ·rw [hI.defers]
     refine List.map_congr_left fun r hr=>?_
     unfold mark
     rw [eT.same r (hs.mZ r hr)]
   have xX:∀ x,ao ⟨F1,w1.heap,i2,HL.n⟩ (cK Γ (Mf.take (q+1)) ((ops.toList.take q).map (·.dst)) (cf R (bJ σ.tmps R) (aS σ.H R)).1 [] q x) (a1.eval x):=by
    intro x
    cases x with
    | tmp t=>
     simp only [cK,Act.eval,gN]
     cases hr:dN (Mf.take (q+1)) t q ((ops.toList.take q).map (·.dst)) 0 with
     | false=>simp only [Bool.false_eq_true,if_false];exact .top _
     | true=>
      simp only [if_true]
      cases ht:(cf R (bJ σ.tmps R) (aS σ.H R)).1[t]? with
      | none=>exact .top _
      | some x0=>
       have hn:¬ qM R (fun k=>listed.getD k false) t:=by
        rintro ⟨pre,r,rest,he,hS2,hrd⟩
        have h1:=hd _ _ _ he
        rw [hrd] at h1
        have h2:=lz _ _ hr _ h1
        rw [Nat.zero_add] at h2
        have h3:=FX h2 (cC he)
        rw [List.getD_eq_getElem?_getD,List.getElem?_take,if_pos (by omega),←List.getD_eq_getElem?_getD] at h3
        have h4:=wM _ h3
        have hS3:listed.getD rest.length false=false:=hS2
        rw [hS3] at h4;cases h4
       have htl:(qC (qM R (fun k=>listed.getD k false)) (cf R (bJ σ.tmps R) (aS σ.H R)).1).length=a1.tmps.toList.length:=B0.tmps.1
       rw [eN] at htl
       have Pe:t<a1.tmps.size:=by
        have:=(List.getElem?_eq_some_iff.1 ht).1
        rw [htl,Array.length_toList] at this
        exact this
       have hv:a1.tmps[t]?=some a1.tmps[t]:=Array.getElem?_eq_getElem Pe
       have WN:a1.tmps.getD t undef=a1.tmps[t]:=by rw [Array.getD_eq_getD_getElem?,hv];rfl
       rw [WN]
       refine B0.tmps.2 t x0 _ ?_ (by rw [Array.getElem?_toList];exact hv)
       show (qC _ _)[t]?=some x0
       unfold qC
       rw [List.getElem?_mapIdx,ht]
       exact congrArg some (if_neg hn)
    | const v=>exact iZ B0.dx σ.tmps (.const v) (fun t h=>by cases h)
    | global g=>exact iZ B0.dx σ.tmps (.global g) (fun t h=>by cases h)
    | func f=>exact iZ B0.dx σ.tmps (.func f) (fun t h=>by cases h)
   have II:xA (listed.setIfInBounds q true).toList<=fuel:=by
    have:=s_ listed.toList q Tn
    rw [Array.toList_setIfInBounds]
    omega
   unfold wpOpIn
   simp only [aet]
   refine i_ cI B0.heap B0.dx xX abA fun v w' F' i' dG=>?_
   have wN:Env.le ⟨F1,w1.heap,i2,HL.n⟩ ⟨F',w'.heap,i',Hq.n⟩:=dG.ext.le (Nat.le_refl _) dG.le
   have CE:=B0.step dG oq.dst
   rw [IA] at CE ⊢
   refine aby cI hm hqn CD K8 g1 hlen hd hw zd hT hs.mZ h hQ fuel (listed.setIfInBounds q true) (fun k=>listed.getD k false) F' i' _ w' (by simpa using fI) II (fun k=>og Pd) (fun k hk=>by rw [←hlen];exact hI.VA k hk) wM ?_
   exact ⟨hI.closed,CE,uR.mono wN,eT.trans dG.ext (Nat.le_trans hle k4),Nat.le_trans (Nat.le_trans hle k4) dG.le⟩
  have yZ:oe ops:=fun j o ho=>(hm j o ho).1
  refine abx (G:=G) (F0:=F) (i0:=i) (w0:=w) hk cI hm (p:=q) (by omega) K8 g1 hlen hd hw ?_ ?_ ops.size _ F (fun _=>0) i a w (by simp) Fz ?_
  ·intro fuel listed F1 bx i1 a1 w1 fI Tm hI cR
   have VM:=xW _ _ _ _ _ _ hI
   have Pd:q<listed.size:=by omega
   have Tn:listed.toList[q]?=some false/\listed.getD q true=false:=by
    rw [Array.getD_eq_getD_getElem?,Array.getElem?_eq_getElem Pd] at VM
    rw [Array.getElem?_toList,Array.getD_eq_getD_getElem?,Array.getElem?_eq_getElem Pd]
    have:listed[q]=false:=by simpa using VM
    rw [this];exact ⟨rfl,rfl⟩
   have OX:=xY listed.toList q Tn.1
   obtain ⟨fuel,rfl⟩:∃ f,fuel=f+1:=⟨fuel-1,by omega⟩
   obtain ⟨j0,IH⟩:=jB yZ fI q hqn Tn.2
   refine ⟨fun h0=>(by rw [h0] at IH;cases IH),fun j hj=>?_⟩
   obtain ⟨WW,oj,FA,lA⟩:=mem_ready.1 hj
   obtain ⟨xB,hj3,hj4⟩:=dh WW
   have ahm:q<=j:=by
    rcases Nat.lt_or_ge j q with h | h
    ·rw [cR j h] at xB;cases xB
    ·exact h
   have hjq:j=q:=by
    rcases Nat.lt_or_ge q j with h | h
    ·exfalso
     have hb:(Mf.getD j 0).testBit q=true:=by
      rw [CD j h (by omega),Nat.testBit_two_pow_sub_one];simpa using h
     obtain ⟨e,he,FZ,hx⟩:=((hm j oj FA).2 q).1 hb
     have uP:=lA e he FZ
     have ahn:=hI.VA _ uP
     rcases hx with hx | hx
     ·rw [←hx] at uP;rw [VM] at uP;cases uP
     ·have:=ID hm e.on q (by omega) hx
      omega
    ·omega
   subst hjq
   exact VL fuel listed F1 bx i1 a1 w1 fI Tm hI (fun k hk=>cR k (ID hm j k hqn hk))
  ·intro fuel listed F1 bx i1 a1 w1 fI Tm hI j hj hqj dZ
   have VM:=xW _ _ _ _ _ _ hI
   have lr:j<ops.size:=by
    have:=(dh (mem_ready.1 hj).1).2.1
    omega
   have hjq:j=q:=by
    rcases Nat.lt_or_ge q j with h | h
    ·exfalso
     have:=dZ q (by rw [CD j h lr,Nat.testBit_two_pow_sub_one];simpa using h)
     rw [VM] at this;cases this
    ·omega
   subst hjq
   exact VL fuel listed F1 bx i1 a1 w1 fI Tm hI dZ
  refine ⟨⟨fun j k hj _=>?_⟩,fun k hk=>?_,?_,?_,hs.defers,?_,Ext.refl _ _ _ _ _,?_,⟨?_,?_,?_,?_⟩⟩
  ·exact hN _ hj
  ·exact hN _ hk
  ·rw [hc]
   have hG:(fun b=>G b\/yX R (fun k=>(Array.replicate ops.size false).getD k false) (fun _=>0) b)=G:=by
    funext b
    refine propext ⟨?_,.inl⟩
    rintro (h | ⟨_,_,_,_,_,h,_⟩)
    ·exact h
    ·exact hN _ h
   rw [hG];exact hs.heap
  ·rw [hc]
   refine ⟨by have:=hs.tmps.1;simpa using this.symm,fun t v hv=>?_⟩
   rw [y8 hS]
   exact fun x hx=>hs.tmps.2 t x v hx (by simpa using hv)
  ·rw [hc];exact hs.dx
  ·rw [hc];exact Nat.le_refl _
  ·intro _ _ _ _ _ _ h;exact hN _ h
  ·intro _ _ _ _ _ _ h;exact hN _ h
  ·intro _ _ _ _ _ _ _ _ _ _ h;exact hN _ h
  ·intro _ _ _ _ _ h;exact hN _ h
def DL:Op->Bool
 | .store ..=>true
 | _=>false
def Pf (P:Program) (ops:Array Oper):Bool:=
 match lY ops.toList 0 [] with
 | some Mf=>match ops.toList[bb Mf 0 0-1]?,ops.toList[bb Mf 0 0-2]? with
  | some o,some o'=>Nat.blt 1 (bb Mf 0 0)&&DL o.op&&(match o.dst with | none=>true | some _=>false)&&
   (match rf P (Mf.take (bb Mf 0 0-1)) (bb Mf 0 0-2) o' with | some _=>true | none=>false)&&(Mf.getD (bb Mf 0 0-1) 0).testBit (bb Mf 0 0-2)&&
   y9 P (Mf.getD (bb Mf 0 0-1) 0) ((ops.toList.take (bb Mf 0 0-1)).map (·.dst)) (ops.toList.take (bb Mf 0 0-1)) 0
  | _,_=>false
 | none=>false
def uS (fp:B7) (P:Program) (Γ:bz) (fs:fb) (ops:Array Oper) (σ:St):Option St:=
 match Pf P ops with
 | true=>za fp P Γ fs ops σ
 | false=>m9 fp P Γ fs ops σ
theorem ME (hk:s9 P fs ops fp) (cI:eC P Γ fs) {σ':St} (h:uS fp P Γ fs ops σ=some σ'):qZ P Γ ops σ σ':=by
 unfold uS at h
 split at h
 ·exact MD hk cI h
 ·exact CB hk cI h
end
end Go.Abs
end
noncomputable section
namespace Go.Abs
open Go.RowKit
variable {P : Program} {Γ : bz} {g : FuncId} {args : List AV} {y : AV} {H' : af}
def Old (w:World) (b:Nat):Prop:=b<w.heap.size
theorem IY (w:World):ba (Old w) (fun _=>False) id af.empty w.heap:=by
 refine ⟨fun r row h=>?_,fun r row h=>?_,fun r r' a b h=>?_,fun b hb=>?_,fun b _ hg=>hg,rfl⟩
 ·rw [af.fM] at h;cases h
 ·rw [af.fM] at h;cases h
 ·rw [af.fM] at h;cases h
 ·rcases hb with hb | hb
  ·exact hb
  ·exact hb.elim
theorem CallOk.calls (h:CallOk P (fun _=>none) g args af.empty y H') {w:World} {ai:Array Value} (hA:ay ⟨Old w,w.heap,id,0⟩ args ai.toList):
  Calls P g ai w fun e w'=>∃ v F' i',e=.returned v/\ao ⟨F',w'.heap,i',H'.n⟩ y v/\Ext 0 (Old w) (fun _=>False) id w F' i' w':=by
 have:=(h.lu (Old w) (fun _=>False) id w ai (IY w) ⟨fun g cells e=>by cases e⟩ hA).calls (fun k d hd=>by cases hd)
 refine this.mono fun e w' he=>?_
 cases e with
 | returned v=>obtain ⟨F',i',dG⟩:=he;exact ⟨v,F',i',rfl,dG.val,dG.ext⟩
 | panicked c=>exact he.elim
 | outgrown=>exact he.elim
theorem CallOk.law (h:CallOk P (fun _=>none) g args af.empty (.bool true) H') {w:World} {ai:Array Value} (hA:ay ⟨Old w,w.heap,id,0⟩ args ai.toList):
  Calls P g ai w fun e w'=>e=.returned (.bool true)/\Below w.heap.size w w':=by
 refine (h.calls hA).mono fun e w' ⟨v,F',i',he,hv,hx⟩=>?_
 cases hv
 exact ⟨he,hx.os,hx.tape,hx.output,hx.size,fun k hk=>hx.aP k (.inl hk)⟩
end Go.Abs
end
noncomputable section
namespace Go.Abs
open Go.Deep Go.RowKit
inductive Sh where
 | bool
 | int (k:IntKind)
 | aL (k:FloatKind)
 | str
 | sl (es:List Sh)
def uH (P:Program) (sh:TypeId->Option (List Sh)):Nat->List (Nat × TypeId)->Option (List Sh)
 | _,[]=>some []
 | off,(o,t)::fs=>match sh t with
  | some es=>if o=off/\P.cellsOf t=es.length then match uH P sh (off+es.length) fs with
    | some r=>some (es++r)
    | none=>none
   else none
  | none=>none
def B4 (P:Program):Nat->TypeId->Option (List Sh)
 | 0,_=>none
 | d+1,t=>match P.underlying t with
  | some .bool=>some [.bool]
  | some (.int k)=>some [.int k]
  | some (.float k)=>some [.aL k]
  | some .string=>some [.str]
  | some (.slice e)=>match B4 P d e with
   | some es=>if P.cellsOf e=es.length then some [.sl es] else none
   | none=>none
  | some (.struct fs)=>match uH P (B4 P d) 0 (fs.toList.map fun f=>(f.offset,f.type)) with
   | some ss=>if P.cellsOf t=ss.length then some ss else none
   | none=>none
  | some (.array n e)=>match uH P (B4 P d) 0 ((List.range n).map fun i=>(i*P.cellsOf e,e)) with
   | some ss=>if P.cellsOf t=ss.length then some ss else none
   | none=>none
  | _=>none
inductive B5:Sh->AV->Prop
 | bool (b:Bool):B5 .bool (.bool b)
 | int (k:IntKind) (z:Int) (h:(Lit.int k z).wf=true):B5 (.int k) (.int k z)
 | aL (k:FloatKind) (o:Option Nat) (h:∀ n,o=some n->(Lit.float k n).wf=true/\(k.format.read n).isNaN=false):B5 (.aL k) (.aL k o)
 | str (s:ByteArray) (h:s.size<=maxLen):B5 .str (.string s)
 | sl (es:List Sh) (n:Nat) (OU:List (List AV)) (hn:n<=maxLen) (hl:OU.length=n) (he:∀ e∈OU,e.length=es.length)
   (hv:∀ e∈OU,∀ (j:Nat) (s:Sh) (x:AV),es[j]?=some s->e[j]?=some x->B5 s x):B5 (.sl es) (.list n OU.flatten)
def m6 (ss:List Sh) (xs:List AV):Prop:=xs.length=ss.length/\∀ (j:Nat) (s:Sh) (x:AV),ss[j]?=some s->xs[j]?=some x->B5 s x
theorem m6.nil:m6 [] []:=⟨rfl,fun j s x h=>by simp at h⟩
theorem m6.one {s:Sh} {x:AV} (h:B5 s x):m6 [s] [x]:=by
 refine ⟨rfl,fun j s' x' h1 h2=>?_⟩
 cases j with
 | zero=>simp at h1 h2;subst h1;subst h2;exact h
 | succ j=>simp at h1
theorem m6.append {ss ss':List Sh} {xs mY:List AV} (h:m6 ss xs) (k:m6 ss' mY):m6 (ss++ss') (xs++mY):=by
 refine ⟨by simp [h.1,k.1],fun j s x h1 h2=>?_⟩
 by_cases hj:j<ss.length
 ·rw [List.getElem?_append_left hj] at h1
  rw [List.getElem?_append_left (by rw [h.1];exact hj)] at h2
  exact h.2 j s x h1 h2
 ·rw [List.getElem?_append_right (by omega)] at h1
  rw [List.getElem?_append_right (by rw [h.1];omega),h.1] at h2
  exact k.2 _ s x h1 h2
theorem ay.app {E:Env} {xs mY:List AV} {vs FO:List Value} (h:ay E xs vs) (k:ay E mY FO):ay E (xs++mY) (vs++FO):=by
 refine ⟨by simp [h.1,k.1],fun j s x h1 h2=>?_⟩
 by_cases hj:j<xs.length
 ·rw [List.getElem?_append_left hj] at h1
  rw [List.getElem?_append_left (by rw [←h.1];exact hj)] at h2
  exact h.2 j s x h1 h2
 ·rw [List.getElem?_append_right (by omega)] at h1
  rw [List.getElem?_append_right (by rw [←h.1];omega),←h.1] at h2
  exact k.2 _ s x h1 h2
theorem ay.m7 {E:Env} {x:AV} {v:Value} (h:ao E x v):ay E [x] [v]:=by
 refine ⟨rfl,fun j s' x' h1 h2=>?_⟩
 cases j with
 | zero=>simp at h1 h2;subst h1;subst h2;exact h
 | succ j=>simp at h1
theorem sY {α:Type} {C:Nat}:∀ {ls:List (List α)},(∀ l∈ls,l.length=C)->∀ {i r:Nat},r<C->ls.flatten[i*C+r]?=(ls[i]?).bind (·[r]?)
 | [],_,i,r,hr=>by simp
 | l::ls,h,0,r,hr=>by
  have hl:=h l List.mem_cons_self
  rw [List.flatten_cons,Nat.zero_mul,Nat.zero_add,List.getElem?_append_left (by omega)]
  simp
 | l::ls,h,i+1,r,hr=>by
  have hl:=h l List.mem_cons_self
  have e:(i+1)*C+r=C+(i*C+r):=by rw [Nat.add_mul];omega
  rw [List.flatten_cons,e,List.getElem?_append_right (by omega),hl,Nat.add_sub_cancel_left,sY (fun l hl=>h l (List.mem_cons_of_mem _ hl)) hr]
  simp
theorem gb {α:Type} {C:Nat}:∀ {ls:List (List α)},(∀ l∈ls,l.length=C)->ls.flatten.length=ls.length*C
 | [],_=>by simp
 | l::ls,h=>by
  rw [List.flatten_cons,List.length_append,h l List.mem_cons_self,gb (fun l hl=>h l (List.mem_cons_of_mem _ hl)),List.length_cons,Nat.add_mul];omega
theorem KY {w:World} {a:Addr} {v:Value} (h:w.cell? a=some v):∃ c e z,w.heap[a.block]?=some (.cells c e z)/\c[a.off]?=some v:=by
 unfold World.cell? at h
 split at h
 ·rename_i c e z hc
  split at h
  ·cases h
  ·exact ⟨c,e,z,hc,h⟩
 ·cases h
section
variable {H : Type} {enc : TypeId × Value → H} {P : Program} {w : World} {base : Nat} {spare : Nat → Bool} {held : Bool}
def Ip (enc:TypeId × Value->H) (P:Program) (w:World) (base:Nat) (spare:Nat->Bool) (held:Bool) (d:Nat):Prop:=
 ∀ (fuel:Nat) (t:TypeId) (ss:List Sh) (cs:List Value) (x:DataW H × List MemPlace),B4 P d t=some ss->DataW.trod enc P w base spare held fuel t cs=some x->
  ∃ xs:List AV,m6 ss xs/\ay ⟨Old w,w.heap,id,0⟩ xs cs
theorem uI {d:Nat} (ih:Ip enc P w base spare held d) {cs:List Value}:∀ {fs:List (Nat × TypeId)} {off:Nat} {ss:List Sh},uH P (B4 P d) off fs=some ss->
  (∀ f∈fs,∃ fuel y,DataW.trod enc P w base spare held fuel f.2 ((cs.drop f.1).take (P.cellsOf f.2))=some y)->
  ∃ xs:List AV,m6 ss xs/\ay ⟨Old w,w.heap,id,0⟩ xs ((cs.drop off).take ss.length)
 | [],off,ss,h,_=>by
  simp only [uH,Option.some.injEq] at h
  subst h
  exact ⟨[],m6.nil,by simpa using ay.nil⟩
 | (o,t)::fs,off,ss,h,hf=>by
  simp only [uH] at h
  split at h
  ·rename_i es Mp
   split at h
   ·rename_i hc
    obtain ⟨rfl,hc⟩:=hc
    split at h
    ·rename_i r hr
     simp only [Option.some.injEq] at h
     subst h
     obtain ⟨fuel,y,hy⟩:=hf _ List.mem_cons_self
     obtain ⟨xs,h1,h2⟩:=ih fuel t es _ y Mp hy
     obtain ⟨mY,h3,h4⟩:=uI ih hr fun f nI=>hf f (List.mem_cons_of_mem _ nI)
     refine ⟨xs++mY,h1.append h3,?_⟩
     rw [List.length_append,List.take_add,List.drop_drop]
     simp only [hc] at h2
     exact h2.app h4
    ·cases h
   ·cases h
  ·cases h
theorem open_cells:∀ d,Ip enc P w base spare held d
 | 0=>fun fuel t ss cs x h=>by simp [B4] at h
 | d+1=>fun fuel t ss cs x h hx=>by
  have ih:Ip enc P w base spare held d:=open_cells d
  simp only [B4] at h
  split at h
  ·rename_i ht
   simp only [Option.some.injEq] at h;subst h
   obtain ⟨b,rfl,_⟩:=DataW.trod_bool ht hx
   exact ⟨[.bool b],.one (.bool b),.m7 (.bool b)⟩
  ·rename_i k ht
   simp only [Option.some.injEq] at h;subst h
   obtain ⟨z,rfl,_,hw⟩:=DataW.trod_int ht hx
   exact ⟨[.int k z],.one (.int k z hw),.m7 (.int k z)⟩
  ·rename_i k ht
   simp only [Option.some.injEq] at h;subst h
   obtain ⟨b,rfl,hw⟩:∃ b,cs=[.float k b]/\(Lit.float k b).wf=true:=by
    cases fuel with
    | zero=>simp [DataW.trod] at hx
    | succ n=>
     unfold DataW.trod at hx
     rw [ht] at hx
     split at hx<;>simp_all
   by_cases hn:(k.format.read b).isNaN=true
   ·exact ⟨[.aL k none],.one (.aL k none fun n h=>by cases h),.m7 (.nan k b hn)⟩
   ·exact ⟨[.aL k (some b)],.one (.aL k (some b) fun n h=>by cases h;exact ⟨hw,by simpa using hn⟩),.m7 (.float k b)⟩
  ·rename_i ht
   simp only [Option.some.injEq] at h;subst h
   obtain ⟨s,rfl,_,hw⟩:=DataW.trod_string ht hx
   exact ⟨[.string s],.one (.str s hw),.m7 (.string s)⟩
  ·rename_i e ht
   split at h
   ·rename_i es Mp
    split at h
    ·rename_i hc
     simp only [Option.some.injEq] at h;subst h
     rcases open_slice ht hx with ⟨rfl,_⟩ | ⟨a,len,cap,m,n,D,Pl,rfl,hb,hl,hm,hmm,_,hi⟩
     ·refine ⟨[.list 0 []],.one ?_,.m7 (.bY 0 0 none (Nat.le_refl _))⟩
      exact .sl es 0 [] (Nat.zero_le _) rfl (fun e h=>by simp at h) (fun e h=>by simp at h)
     ·have hle:len<=m:=by rw [hmm];split<;>omega
      rw [hc] at hi
      obtain ⟨V,hV⟩:=choose_lt (α:=List Value) (p:=fun i v=>w.cells? base (a.add (i*es.length)) es.length=some v/\DataW.trod enc P w base spare held n e v=some (D i,Pl i)) (n:=len) (fun i h=>hi i (by omega))
      obtain ⟨X,hX⟩:=choose_lt (α:=List AV) (p:=fun i xs=>m6 es xs/\ay ⟨Old w,w.heap,id,0⟩ xs (V i)) (n:=len) (fun i h=>ih n e es _ _ Mp (hV i h).2)
      have hXl:∀ l∈(List.range len).map X,l.length=es.length:=by
       intro l nJ
       obtain ⟨i,fR,rfl⟩:=List.mem_map.1 nJ
       exact (hX i (List.mem_range.1 fR)).1.1
      have WE:∀ l∈(List.range len).map V,l.length=es.length:=by
       intro l nJ
       obtain ⟨i,fR,rfl⟩:=List.mem_map.1 nJ
       rw [←(hX i (List.mem_range.1 fR)).2.1];exact (hX i (List.mem_range.1 fR)).1.1
      have wy:B5 (.sl es) (.list len ((List.range len).map X).flatten):=by
       refine .sl es len _ (Nat.le_trans hl hm) (by simp) hXl fun l nJ j s x=>?_
       obtain ⟨i,fR,rfl⟩:=List.mem_map.1 nJ
       exact (hX i (List.mem_range.1 fR)).1.2 j s x
      refine ⟨[.list len ((List.range len).map X).flatten],.one wy,.m7 ?_⟩
      by_cases h0:len*es.length=0
      ·have:((List.range len).map X).flatten=[]:=List.eq_nil_of_length_eq_zero (by rw [gb hXl];simpa using h0)
       rw [this]
       exact .bY len cap (some a) hl
      ·have OV:0<len:=Nat.pos_of_ne_zero fun h=>h0 (by rw [h,Nat.zero_mul])
       have Tf:0<es.length:=Nat.pos_of_ne_zero fun h=>h0 (by rw [h,Nat.mul_zero])
       have cP:∀ i r,i<len->r<es.length->w.cell? (a.add (i*es.length+r))=(V i)[r]?:=by
        intro i r fR hr
        obtain ⟨_,_,xW⟩:=World.cells?_some (hV i fR).1
        have:=xW r hr
        rw [add_add] at this
        exact this
       have abe:∀ i,i<len->(V i).length=es.length:=fun i h=>WE _ (List.mem_map.2 ⟨i,List.mem_range.2 h,rfl⟩)
       obtain ⟨b,off,spot⟩:=a
       have Iq:=cP 0 0 OV Tf
       rw [List.getElem?_eq_getElem (by rw [abe 0 OV];exact Tf)] at Iq
       have abf:spot=none:=by simpa [Addr.add] using World.cell?_spot Iq
       subst abf
       obtain ⟨c,el,z,DI,_⟩:=KY Iq
       have OW:w.heap[b]?=some (.cells c el z):=by simpa [Addr.add] using DI
       have WG:∀ j v,((List.range len).map V).flatten[j]?=some v->c[off+j]?=some v:=by
        intro j v hj
        have Vy:=(List.getElem?_eq_some_iff.1 hj).1
        rw [gb WE,List.length_map,List.length_range] at Vy
        have e1:j=(j / es.length)*es.length+j%es.length:=by rw [Nat.mul_comm];exact (Nat.div_add_mod j es.length).symm
        have fR:j / es.length<len:=Nat.div_lt_of_lt_mul (by rw [Nat.mul_comm];exact Vy)
        have hr:=Nat.mod_lt j Tf
        rw [e1,sY WE hr] at hj
        simp only [List.getElem?_map,List.getElem?_range fR,Option.map_some,Option.bind_some] at hj
        have h1:=cP _ _ fR hr
        rw [hj,←e1] at h1
        obtain ⟨c',el',z',DJ,KZ⟩:=KY h1
        have ea:(Addr.add ⟨b,off,none⟩ j).block=b/\(Addr.add ⟨b,off,none⟩ j).off=off+j:=by
         by_cases h:j=0<;>simp [Addr.add,h]
        rw [ea.1,OW] at DJ
        cases DJ
        rw [ea.2] at KZ
        exact KZ
       have abg:((List.range len).map X).flatten.length=((List.range len).map V).flatten.length:=by rw [gb hXl,gb WE];simp
       refine .list len cap _ b off ((List.range len).map V).flatten hl ?_ ⟨c,el,z,OW,?_,WG⟩ abg fun j x v h1 h2=>?_
       ·exact (Array.getElem?_eq_some_iff.1 OW).1
       ·have abh:∃ v,((List.range len).map V).flatten[((List.range len).map V).flatten.length-1]?=some v:=by
         refine ⟨_,List.getElem?_eq_getElem ?_⟩
         rw [gb WE,List.length_map,List.length_range];omega
        obtain ⟨v,hv⟩:=abh
        have:=(Array.getElem?_eq_some_iff.1 (WG _ _ hv)).1
        have OX:0<((List.range len).map V).flatten.length:=by rw [gb WE,List.length_map,List.length_range];omega
        omega
       ·have Vy:=(List.getElem?_eq_some_iff.1 h1).1
        rw [gb hXl,List.length_map,List.length_range] at Vy
        have e1:j=(j / es.length)*es.length+j%es.length:=by rw [Nat.mul_comm];exact (Nat.div_add_mod j es.length).symm
        have fR:j / es.length<len:=Nat.div_lt_of_lt_mul (by rw [Nat.mul_comm];exact Vy)
        have hr:=Nat.mod_lt j Tf
        rw [e1,sY hXl hr] at h1
        rw [e1,sY WE hr] at h2
        simp only [List.getElem?_map,List.getElem?_range fR,Option.map_some,Option.bind_some] at h1 h2
        exact (hX _ fR).2.2 _ x v h1 h2
    ·cases h
   ·cases h
  ·rename_i fs ht
   split at h
   ·rename_i ss' WH
    split at h
    ·rename_i hc
     simp only [Option.some.injEq] at h;subst h
     obtain ⟨ys,n,_,_,hl,KX,hf⟩:=DataW.trod_struct ht hx
     obtain ⟨xs,h1,h2⟩:=uI ih WH (cs:=cs) fun f nI=>by
      obtain ⟨g,hg,rfl⟩:=List.mem_map.1 nI
      obtain ⟨i,hi⟩:=List.getElem?_of_mem hg
      have WI:fs[i]?=some g:=by simpa using hi
      have cC:i<fs.size:=(Array.getElem?_eq_some_iff.1 WI).1
      exact ⟨n,ys[i]'(by omega),by rw [hf i g WI];exact List.getElem?_eq_getElem _⟩
     refine ⟨xs,h1,?_⟩
     rw [List.drop_zero,←hc,←hl,List.take_length] at h2
     exact h2
    ·cases h
   ·cases h
  ·rename_i n e ht
   split at h
   ·rename_i ss' WH
    split at h
    ·rename_i hc
     simp only [Option.some.injEq] at h;subst h
     obtain ⟨ys,m,_,_,hl,KX,hf⟩:=DataW.trod_array ht hx
     obtain ⟨xs,h1,h2⟩:=uI ih WH (cs:=cs) fun f nI=>by
      obtain ⟨i,hg,rfl⟩:=List.mem_map.1 nI
      have hi:=List.mem_range.1 hg
      exact ⟨m,ys[i]'(by omega),by rw [hf i hi];exact List.getElem?_eq_getElem _⟩
     refine ⟨xs,h1,?_⟩
     rw [List.drop_zero,←hc,←hl,List.take_length] at h2
     exact h2
    ·cases h
   ·cases h
  ·cases h
end
end Go.Abs
end
