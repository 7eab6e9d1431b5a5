/- Part 2 of the library of the proof: an abstract run of the program. -/
import Derived.Test.YtkloadomnblkeaaGreatDoorAp1
import Derived.RangeFuncRecord
import Derived.LoopNIn
import Derived.TacticsIn
import Derived.Laws.IdiomStrings
import Derived.Laws.AppendOwn
import Derived.Laws.Externs
import Derived.Below
set_option linter.unusedVariables false
set_option linter.unusedSimpArgs false

noncomputable section
namespace Go.Abs
abbrev W (ro:Option Nat):Fence:={ fn:=fun _=>True,depth:=none,alive:=false,round:=ro }
theorem W_calls {ro ro':Option Nat} {n:Nat} {P:Program} {f:FuncId} {args:Array Value} {w:World} {R:Ending->World->Prop} (h:CallsIn (W ro) n P f args w R):CallsIn (W ro') n P f args w R:=h
theorem W_round {ro ro':Option Nat} {n:Nat} {P:Program} {l:Nat} {f:FuncId} {tmps:Array Value} {x y:Code} {w:World} {R:Ending->World->Prop} (h:RoundIn (W ro) n P l f tmps x y w R):RoundIn (W ro') n P l f tmps x y w R:=h
structure Fns where
 call:FuncId->List AV->Heap->Option (AV × Heap)
 yield:Nat->List AV->Heap->Option (AV × Heap)
 ext:FuncId->List AV->Option AV
 /-- The types of slices whose elements are frozen when a slice is built. -/
 fz:TypeId->Bool:=fun _=>false
structure Gives (F G:Nat->Prop) (i:Nat->Nat) (H:Heap) (w:World) (y:AV) (H':Heap) (v:Value) (w':World) (F':Nat->Prop) (i':Nat->Nat):Prop where
 val:VRel ⟨F',w'.heap,i',H'.n⟩ y v
 heap:HRel F' G i' H' w'.heap
 ext:Ext H.n F G i w F' i' w'
 le:H.n<=H'.n
def Ret (F G:Nat->Prop) (i:Nat->Nat) (H:Heap) (w:World) (y:AV) (H':Heap):Ending->World->Prop
 | .returned v,w'=>∃ F' i',Gives F G i H w y H' v w' F' i'
 | _,_=>False
structure CallOk (P:Program) (Γ:Globs) (g:FuncId) (args:List AV) (H:Heap) (y:AV) (H':Heap):Prop where
 grow:H.rev.length=H.n->Grow H H'
 fn : ∃ fn, P.funcs[g]? = some fn ∧ fn.body.isSome = true ∧ fn.name ≠ "runtime.NumGoroutine"
 does:∀ (F G:Nat->Prop) (i:Nat->Nat) (w:World) (args':Array Value),HRel F G i H w.heap->GlobsOk Γ F w.heap i H.n->VRels ⟨F,w.heap,i,H.n⟩ args args'.toList->
  CallsIn (W none) 0 P g args' w (Ret F G i H w y H')
structure YieldOk (P:Program) (Γ:Globs) (r:Nat) (args:List AV) (H:Heap) (y:AV) (H':Heap):Prop where
 grow:H.rev.length=H.n->Grow H H'
 does:∀ (F G:Nat->Prop) (i:Nat->Nat) (w:World) (args':Array Value),HRel F G i H w.heap->GlobsOk Γ F w.heap i H.n->VRels ⟨F,w.heap,i,H.n⟩ args args'.toList->
  ∃ f tmps assign body,(Instr.yield (i r) args').run P w=.ok (.round (i r) f tmps assign body) w/\RoundIn (W none) 0 P (i r) f tmps assign body w (Ret F G i H w y H')
def ExtOk (P:Program) (ext:FuncId->List AV->Option AV):Prop:=
 ∀ g args y,ext g args=some y->∀ (E:Env) (w:World) (args':Array Value),VRels E args args'.toList->∃ v,(callFunc g args').run P w=.ok (.value v) w/\VRel E y v
structure FnsOk (P:Program) (Γ:Globs) (fs:Fns):Prop where
 call:∀ g args H y H',fs.call g args H=some (y,H')->CallOk P Γ g args H y H'
 yield:∀ r args H y H',fs.yield r args H=some (y,H')->YieldOk P Γ r args H y H'
 ext:ExtOk P fs.ext
def ainvoke (fs:Fns) (g:FuncId) (args:List AV) (H:Heap):Option (AV × Heap):=
 match fs.ext g args with
 | some y=>some (y,H)
 | none=>fs.call g args H
def astrBytes (P:Program) (s d:TypeId):Bool:=
 match P.underlying s,P.underlying d with
 | some .string,some (.slice e)=>match P.underlying e with
  | some (.int .u8)=>true
  | _=>false
 | _,_=>false
def aoper (P:Program) (fs:Fns) (ρ:Operand->AV) (H:Heap) (o:Oper):Option (AV × Heap):=
 match o.op with
 | .call { callee:=.value f,args,argTypes }=>match ρ f with
  | .func g first cap=>ainvoke fs g (first++args.toList.map ρ++cap) H
  | .yield r=>fs.yield r (args.toList.map ρ) H
  | _=>none
 | .defer _=>none
 | .convert s d x=>match ρ x with
  | .string b=>if astrBytes P s d then some (.slice H.n 0 b.size 1,H.push (.cells (b.data.toList.map fun c=>.int .u8 c.toNat))) else aop P ρ H o
  | _=>aop P ρ H o
 | .buildSlice t n parts=>if fs.fz t then abuildSlice P (fzPs H (parts.toList.map fun p=>(p.1,ρ p.2))).2 t n (fzPs H (parts.toList.map fun p=>(p.1,ρ p.2))).1 else aop P ρ H o
 | _=>aop P ρ H o
section
variable {P : Program} {Γ : Globs} {fs : Fns} {F G : Nat → Prop} {i : Nat → Nat} {H H' : Heap} {w : World} {a : Act} {ro : Option Nat} {ρ : Operand → AV} {o : Oper} {y : AV}
theorem aoper_grow (hfs:FnsOk P Γ fs) (hok:H.rev.length=H.n) (h:aoper P fs ρ H o=some (y,H')):Grow H H':=by
 unfold aoper at h
 split at h
 ·split at h
  ·unfold ainvoke at h
   split at h
   ·simp only [Option.some.injEq,Prod.mk.injEq] at h
    obtain ⟨_,rfl⟩:=h
    exact Grow.refl hok
   ·exact (hfs.call _ _ _ _ _ h).grow hok
  ·exact (hfs.yield _ _ _ _ _ h).grow hok
  ·cases h
 ·cases h
 ·split at h
  ·split at h
   ·simp only [Option.some.injEq,Prod.mk.injEq] at h
    obtain ⟨_,rfl⟩:=h
    exact (Turn.push _).grow hok
   ·exact (aop_turn h).grow hok
  ·exact (aop_turn h).grow hok
 ·split at h
  ·rename_i ps _ _
   have g:=fzPs_grow hok (ps.toList.map fun p=>(p.1,ρ p.2))
   exact g.trans ((abuildSlice_turn h).grow g.ok)
  ·exact (aop_turn h).grow hok
 ·exact (aop_turn h).grow hok
theorem callFunc_run {g : FuncId} {fn : Func} (hf : P.funcs[g]? = some fn) (hb : fn.body.isSome = true) (hn : fn.name ≠ "runtime.NumGoroutine") (args : Array Value) (w : World) :
  (callFunc g args).run P w=.ok (.enter g args) w:=by
 have hb':fn.body.isNone=false:=by cases hc:fn.body<;>simp_all
 have hn' : (fn.name == "runtime.NumGoroutine") = false := by simpa using hn
 simp only [callFunc,Sem.run_bind,run_program,Result.andThen_ok,hf,hn',hb']
 rfl
theorem strBytes_does (hH:HRel F G i H w.heap) {s d:TypeId} (hsd:astrBytes P s d=true) (b:ByteArray):
  ∃ v w' i',(convert s d (.string b)).run P w=.ok v w'/\Gives F G i H w (.slice H.n 0 b.size 1) (H.push (.cells (b.data.toList.map fun c=>.int .u8 c.toNat))) v w' F i':=by
 unfold astrBytes at hsd
 split at hsd
 ·rename_i e hs hd
  split at hsd
  ·rename_i he
   have hrun:=run_bytes_of_string (P:=P) w s d e b hs hd he
   let cap:=grownCap w b.size 0 e
   have hcap:b.size<=cap:=grownCap_ge w b.size 0 e
   let o:Obj:=.cells (bytesRow b cap) e ((bytesRow b cap).size,(bytesRow b cap).size+1)
   have hsz:(bytesRow b cap).size=cap:=by
    have:b.data.size=b.size:=rfl
    simp only [bytesRow,Array.size_append,Array.size_map,Array.size_replicate];omega
   have hH':HRel F G i H w.drew.heap:=hH
   have e1:Ext H.n F G i w F i w.drew:=ext_drew (w.drawn+1)
   have e2:=ext_alloc (K:=H.n) (F:=F) (G:=G) (i:=i) (w:=w.drew) o hH'.old H.n w.drew.heap.size (Nat.le_refl _)
   have hrow:RowRel ⟨F,(w.drew.alloc o).heap,Abs.put i H.n w.drew.heap.size,H.n+1⟩ (.cells (b.data.toList.map fun c=>.int .u8 c.toNat)) o:=by
    refine .cells _ _ _ _ ⟨?_,?_,?_⟩
    ·rw [hsz];simpa using hcap
    ·intro j x v h1 h2
     rw [List.getElem?_map] at h1
     have hj:j<b.data.size:=by
      rcases Nat.lt_or_ge j b.data.size with h | h
      ·exact h
      ·rw [List.getElem?_eq_none (by simpa using h)] at h1;simp at h1
     rw [bytesRow_at b cap j hj] at h2
     simp only [Array.getElem?_toList,Array.getElem?_eq_getElem hj,Option.map_some,Option.some.injEq] at h1 h2
     subst h1;subst h2
     exact .int _ _
    ·intro j hj hz
     omega
   have h2:=hH'.alloc o _ hrow
   refine ⟨_,_,_,hrun,?_,h2,e1.trans e2 (Nat.le_refl _),by simp⟩
   have:=VRel.slice (E:=⟨F,(w.drew.alloc o).heap,Abs.put i H.n w.drew.heap.size,H.n+1⟩) H.n 0 b.size 1 cap (Nat.lt_succ_self _) hcap
    ⟨bytesRow b cap,e,_,by
     show (w.drew.alloc o).heap[Abs.put i H.n w.drew.heap.size H.n]?=_
     rw [put_self];exact World.alloc_heap_new _ _,by rw [hsz];omega⟩
   simp only [put_self] at this
   exact this
  ·cases hsd
 ·cases hsd
theorem aoper_wp (hfs:FnsOk P Γ fs) (hH:HRel F G i H w.heap) (hg:GlobsOk Γ F w.heap i H.n) (hρ:∀ x,VRel ⟨F,w.heap,i,H.n⟩ (ρ x) (a.eval x)) (h:aoper P fs ρ H o=some (y,H'))
  {next:Act->World->Prop} {Q:Exit->Act->World->Prop} (hn:∀ v w' F' i',Gives F G i H w y H' v w' F' i'->next (a.put o.dst v) w'):o.wpIn (W ro) 0 P a w next Q:=by
 refine ⟨fun _ _=>trivial,?_⟩
 have plain:(∀ c,o.op≠.defer c)->aop P ρ H o=some (y,H')->o.uponIn (W ro) 0 P a next Q ((o.semAt (W ro).round a.eval).run P w):=by
  intro hnd h
  rw [Oper.semAt_eq _ _ _ hnd]
  obtain ⟨v,w',i',hrun,hv,hH',he,hle⟩:=aop_does hH hρ h
  have:=hn v w' F i' ⟨hv,hH',he,hle⟩
  rcases hrun with hrun | ⟨hrun,rfl⟩
  ·rw [hrun];exact this
  ·rw [hrun];exact this
 unfold aoper at h
 split at h
 ·rename_i f args argTypes ho
  rw [Oper.semAt_eq _ _ _ (by rw [ho];intro c hc;cases hc)]
  simp only [execOp,ho,resolve]
  have hf:=hρ f
  split at h
  ·rename_i g first cap hfv
   rw [hfv] at hf
   generalize a.eval f=fv at hf
   cases hf with
   | func _ _ _ first' cap' h1 h2 hf1 hc1=>
    have hargs:VRels ⟨F,w.heap,i,H.n⟩ (first++args.toList.map ρ++cap) (first'++args.map a.eval++cap').toList:=by
     have e:(first'++args.map a.eval++cap').toList=first'.toList++(args.map a.eval).toList++cap'.toList:=by simp
     rw [e]
     refine VRels.append (VRels.append ⟨by simpa using h1,fun j x v p q=>hf1 j x v p (by simpa using q)⟩ (map_rel hρ args)) ⟨by simpa using h2,fun j x v p q=>hc1 j x v p (by simpa using q)⟩
    simp only [Deferred.ofValue,Sem.run_bind,Sem.run_pure,Result.andThen_ok,invoke]
    unfold ainvoke at h
    split at h
    ·rename_i y' hy
     simp only [Option.some.injEq,Prod.mk.injEq] at h
     obtain ⟨rfl,rfl⟩:=h
     obtain ⟨v,hr,hv⟩:=hfs.ext _ _ _ hy _ w _ hargs
     rw [hr]
     exact hn v w F i ⟨hv,hH,Ext.refl _ _ _ _ _,Nat.le_refl _⟩
    ·have hc:=hfs.call _ _ _ _ _ h
     obtain ⟨fn,hf1,hf2,hf3⟩:=hc.fn
     rw [callFunc_run hf1 hf2 hf3]
     refine ⟨fun hd=>by simp at hd,W_calls (CallsIn.mono (hc.does F G i w _ hH hg hargs) ?_)⟩
     intro e w' he
     cases e with
     | returned v=>obtain ⟨F',i',hgv⟩:=he;exact hn v w' F' i' hgv
     | panicked c=>exact he.elim
     | outgrown=>exact he.elim
  ·rename_i r hfv
   rw [hfv] at hf
   generalize a.eval f=fv at hf
   cases hf with
   | yield _ hr=>
    have hargs:VRels ⟨F,w.heap,i,H.n⟩ (args.toList.map ρ) (#[]++args.map a.eval).toList:=by
     have:=map_rel hρ args
     simpa using this
    obtain ⟨f,tmps,as,bd,h1,h2⟩:=(hfs.yield _ _ _ _ _ h).does F G i w _ hH hg hargs
    simp only [Deferred.ofValue,Sem.run_bind,Sem.run_pure,Result.andThen_ok,invoke,h1]
    refine ⟨fun hd=>by simp at hd,W_round (RoundIn.mono h2 ?_)⟩
    intro e w' he
    cases e with
    | returned v=>obtain ⟨F',i',hgv⟩:=he;exact hn v w' F' i' hgv
    | panicked c=>exact he.elim
    | outgrown=>exact he.elim
  ·cases h
 ·cases h
 ·rename_i s d x ho
  have hnd:∀ c,o.op≠.defer c:=fun c hc=>by rw [ho] at hc;cases hc
  split at h
  ·rename_i b hb
   split at h
   ·rename_i hsd
    simp only [Option.some.injEq,Prod.mk.injEq] at h
    obtain ⟨rfl,rfl⟩:=h
    rw [Oper.semAt_eq _ _ _ hnd]
    have hx:=hρ x
    rw [hb] at hx
    generalize hv:a.eval x=vx at hx
    cases hx
    obtain ⟨v,w',i',hrun,hgv⟩:=strBytes_does (P:=P) hH hsd b
    simp only [execOp,ho,hv,Sem.run_bind,hrun,Result.andThen_ok,Sem.run_pure]
    exact hn v w' F i' hgv
   ·exact plain hnd h
  ·exact plain hnd h
 ·rename_i t n ps ho
  have hnd:∀ c,o.op≠.defer c:=fun c hc=>by rw [ho] at hc;cases hc
  split at h
  ·rw [Oper.semAt_eq _ _ _ hnd]
   obtain ⟨hl,hp⟩:=parts_rel hρ ps
   obtain ⟨F1,k1,k2,k3⟩:=fzPs_ok (qs:=(ps.map fun p=>(p.1,a.eval p.2)).toList) hH (by simp) fun j p q x y=>hp j p q x (by simpa using y)
   obtain ⟨v,w',i',hrun,hv,hH',he,hle⟩:=buildSlice_does (ps':=ps.map fun p=>(p.1,a.eval p.2)) k1.rel h (by simpa using k2) fun j p q x y=>k3 j p q x (by simpa using y)
   have he':Ext H.n F G i w F1 i' w':=⟨fun b hb=>he.grow b (k1.sub b hb),fun b hb=>he.keep b (hb.elim (fun x=>.inl (k1.sub b x)) .inr),he.size,he.cells,fun r hr=>he.same r (by rw [k1.n];exact hr),he.os,he.output,he.tape⟩
   have:=hn v w' F1 i' ⟨hv,hH',he',by rw [←k1.n];exact hle⟩
   simp only [execOp,ho]
   rcases hrun with hrun | ⟨hrun,rfl⟩
   ·rw [hrun];exact this
   ·rw [hrun];exact this
  ·exact plain hnd h
 ·rename_i hnc hnd _ _
  exact plain (fun c hc=>hnd c hc) h
def awanted (ops:Array Oper) (ρ:Operand->AV) (o:Oper):Option Bool:=
 match o.guard with
 | none=>some true
 | some (j,want)=>match ops[j]? with
  | none=>some false
  | some oj=>match oj.dst with
   | none=>some false
   | some d=>match ρ (.tmp d) with
    | .bool b=>some (b==want)
    | .tuple _=>some false
    | _=>none
theorem awanted_eq {E:Env} {ops:Array Oper} (hρ:∀ x,VRel E (ρ x) (a.eval x)) {b:Bool} (h:awanted ops ρ o=some b):Region.wanted o (yielded ops a.tmps)=b:=by
 unfold awanted at h
 unfold Region.wanted
 split at h
 ·rename_i hg;simp at h;simp [hg,h]
 ·rename_i j want hg
  simp only [hg]
  unfold yielded
  split at h
  ·rename_i hj;simp at h;simp [hj,h]
  ·rename_i oj hj
   split at h
   ·rename_i hd;simp at h;simp [hj,hd,h]
   ·rename_i d hd
    simp only [hj,hd,Option.bind_some]
    have hv:=hρ (.tmp d)
    simp only [Act.eval] at hv
    cases ht:a.tmps[d]? with
    | none=>
     have hu:a.tmps.getD d undef=undef:=by
      rw [Array.getD_eq_getD_getElem?,ht];rfl
     rw [hu] at hv
     split at h
     ·rename_i b' hb;rw [hb] at hv;cases hv
     ·simpa using h
     ·cases h
    | some x=>
     have hu:a.tmps.getD d undef=x:=by
      rw [Array.getD_eq_getD_getElem?,ht];rfl
     rw [hu] at hv
     split at h
     ·rename_i b' hb
      rw [hb] at hv
      cases hv
      simp at h;simpa using h
     ·rename_i l hb
      rw [hb] at hv
      cases hv
      simpa using h
     ·cases h
def astep (P:Program) (fs:Fns) (ops:Array Oper) (ρ:Operand->AV) (H:Heap) (o:Oper):Option (AV × Heap):=
 match awanted ops ρ o with
 | some true=>aoper P fs ρ H o
 | some false=>some (ofV undef,H)
 | none=>none
theorem astep_grow (hfs:FnsOk P Γ fs) (hok:H.rev.length=H.n) {ops:Array Oper} (h:astep P fs ops ρ H o=some (y,H')):Grow H H':=by
 unfold astep at h
 split at h
 ·exact aoper_grow hfs hok h
 ·simp only [Option.some.injEq,Prod.mk.injEq] at h;obtain ⟨_,rfl⟩:=h;exact Grow.refl hok
 ·cases h
theorem astep_wp (hfs:FnsOk P Γ fs) (hH:HRel F G i H w.heap) (hg:GlobsOk Γ F w.heap i H.n) (hρ:∀ x,VRel ⟨F,w.heap,i,H.n⟩ (ρ x) (a.eval x)) {ops:Array Oper}
  (h:astep P fs ops ρ H o=some (y,H')) {next:Act->World->Prop} {Q:Exit->Act->World->Prop} (hn:∀ v w' F' i',Gives F G i H w y H' v w' F' i'->next (a.put o.dst v) w'):
  if Region.wanted o (yielded ops a.tmps) then o.wpIn (W ro) 0 P a w next Q else (∀ f,o.about P w a.eval=some f->(W ro).fn f)/\next (a.put o.dst undef) w:=by
 unfold astep at h
 split at h
 ·rename_i hw
  rw [awanted_eq hρ hw,if_pos rfl]
  exact aoper_wp hfs hH hg hρ h hn
 ·rename_i hw
  rw [awanted_eq hρ hw]
  simp only [Option.some.injEq,Prod.mk.injEq] at h;obtain ⟨rfl,rfl⟩:=h
  exact ⟨fun _ _=>trivial,hn undef w F i ⟨ofV_rel _ _,hH,Ext.refl _ _ _ _ _,Nat.le_refl _⟩⟩
 ·cases h
def aput (tmps:List AV) (dst:Option Tmp) (y:AV):List AV:=
 match dst with
 | some d=>tmps.set d y
 | none=>tmps
def aops (P:Program) (Γ:Globs) (fs:Fns) (ops:Array Oper):List Oper->St->Option St
 | [],σ=>some σ
 | o::os,σ=>match astep P fs ops (ev Γ σ.tmps) σ.H o with
  | some (y,H')=>aops P Γ fs ops os { σ with tmps:=aput σ.tmps o.dst y,H:=H' }
  | none=>none
theorem aput_rel {E:Env} {tmps:List AV} (ht:VRels E tmps a.tmps.toList) (dst:Option Tmp) {v:Value} (hv:VRel E y v):VRels E (aput tmps dst y) (a.put dst v).tmps.toList:=by
 cases dst with
 | none=>exact ht
 | some d=>
  have:=ht.set d hv
  simpa [aput,Act.put] using this
theorem put_defers {dst:Option Tmp} {v:Value}:(a.put dst v).defers=a.defers:=by cases dst<;>rfl
theorem SRel.step {σ:St} {v:Value} {w':World} {F':Nat->Prop} {i':Nat->Nat} (hs:SRel Γ F G i σ a w) (h:Gives F G i σ.H w y H' v w' F' i') (dst:Option Tmp):
  SRel Γ F' G i' { σ with tmps:=aput σ.tmps dst y,H:=H' } (a.put dst v) w':=by
 have le:Env.le ⟨F,w.heap,i,σ.H.n⟩ ⟨F',w'.heap,i',H'.n⟩:=h.ext.le (Nat.le_refl _) h.le
 refine ⟨aput_rel (hs.tmps.mono le) dst h.val,?_,?_,h.heap,hs.globs.mono le⟩
 ·rw [put_defers,hs.defers]
  refine List.map_congr_left fun r hr=>?_
  unfold mark
  rw [h.ext.same r (hs.dlt r hr)]
 ·intro r hr;exact Nat.lt_of_lt_of_le (hs.dlt r hr) h.le
theorem aops_wp (hfs:FnsOk P Γ fs) {ops:Array Oper} {Q:Exit->Act->World->Prop}:∀ (os:List Oper) (σ σ':St) (F:Nat->Prop) (i:Nat->Nat) (a:Act) (w:World),SRel Γ F G i σ a w->aops P Γ fs ops os σ=some σ'->
  (∀ F' i' a' w',SRel Γ F' G i' σ' a' w'->Ext σ.H.n F G i w F' i' w'->σ.H.n<=σ'.H.n->Q .normal a' w')->wpListIn (W ro) 0 P ops Q os a w:=by
 intro os
 induction os with
 | nil=>
  intro σ σ' F i a w hs h hq
  simp only [aops,Option.some.injEq] at h;subst h
  exact hq F i a w hs (Ext.refl _ _ _ _ _) (Nat.le_refl _)
 | cons o os ih=>
  intro σ σ' F i a w hs h hq
  simp only [aops] at h
  split at h
  ·rename_i y H' hst
   exact astep_wp hfs hs.heap hs.globs (ev_rel hs.tmps hs.globs) hst fun v w' F' i' hgv=>
    ih _ _ F' i' _ w' (hs.step hgv o.dst) h fun F'' i'' a'' w'' hs' he hle=>hq F'' i'' a'' w'' hs' (hgv.ext.trans he hgv.le) (Nat.le_trans hgv.le hle)
  ·cases h
theorem aops_grow (hfs:FnsOk P Γ fs) {ops:Array Oper}:∀ (os:List Oper) (σ σ':St),σ.H.rev.length=σ.H.n->aops P Γ fs ops os σ=some σ'->Grow σ.H σ'.H/\σ'.defers=σ.defers:=by
 intro os
 induction os with
 | nil=>
  intro σ σ' hok h
  simp only [aops,Option.some.injEq] at h;subst h
  exact ⟨Grow.refl hok,rfl⟩
 | cons o os ih=>
  intro σ σ' hok h
  simp only [aops] at h
  split at h
  ·rename_i y H' hst
   have g1:=astep_grow hfs hok hst
   obtain ⟨g2,hd⟩:=ih _ _ g1.ok h
   exact ⟨g1.trans g2,hd⟩
  ·cases h
end
end Go.Abs
end
noncomputable section
namespace Go.Abs
theorem ext_two {E:Env} (k:IntKind) (a b:Int):VRel E (.tuple [.int k a,.int k b]) (.tuple #[.int k a,.int k b]):=by
 refine .tuple _ _ rfl fun j x v h1 h2=>?_
 match j with
 | 0=>simp at h1 h2;subst h1;subst h2;exact .int _ _
 | 1=>simp at h1 h2;subst h1;subst h2;exact .int _ _
 | j+2=>simp at h1
theorem ext_ints3 {E:Env} {q r s:IntKind} {x y z:Int} {args':Array Value} (h:VRels E [.int q x,.int r y,.int s z] args'.toList):args'=#[.int q x,.int r y,.int s z]:=by
 obtain ⟨l⟩:=args'
 match l,h with
 | [a,b,c],h=>
  have h0:=h.2 0 _ _ rfl rfl
  have h1:=h.2 1 _ _ rfl rfl
  have h2:=h.2 2 _ _ rfl rfl
  cases h0;cases h1;cases h2;rfl
 | [],h=>have:=h.1;simp at this
 | [_],h=>have:=h.1;simp at this
 | [_,_],h=>have:=h.1;simp at this
 | _::_::_::_::_,h=>have:=h.1;simp at this
def subE:Array Value->Sem Value:=fun args=>do
 let (x, y, b) ← Extern.MathBitsCarry.three "Sub64" args
 pure (Extern.MathBitsCarry.pair ((x+Extern.MathBitsCarry.m64-y-b)%Extern.MathBitsCarry.m64) (if x<y+b then 1 else 0))
theorem run_subE {P:Program} (x y b:Nat) (hb:b<=1) (w:World):(subE #[.int .u64 x,.int .u64 y,.int .u64 b]).run P w=
  .ok (.tuple #[.int .u64 (((x+18446744073709551616-y-b)%18446744073709551616:Nat):Int),.int .u64 ((if x<y+b then 1 else 0:Nat):Int)]) w:=by
 have:b=0\/b=1:=by omega
 rcases this with rfl | rfl<;>rfl
def extCode (fn:Func):Nat:=
 match fn.name == "math/bits.Add64" with
 | true=>1
 | false => match fn.name == "math/bits.Sub64" with
  | true=>2
  | false => match fn.name == "internal/bytealg.IndexByteString" with
   | true=>3
   | false=>0
def extNo (P:Program) (g:FuncId):Nat:=
 match P.funcs[g]? with
 | some fn=>match fn.body with
  | some _=>0
  | none=>match Extern.findNext fn with
   | some _=>0
   | none=>extCode fn
 | none=>0
def extAV:Nat->List AV->Option AV
 | 1,[.int .u64 x,.int .u64 y,.int .u64 c]=>if 0<=x/\0<=y/\0<=c/\c<=1 then some (.tuple [.int .u64 ((x+y+c)%18446744073709551616),.int .u64 ((x+y+c) / 18446744073709551616)]) else none
 | 2,[.int .u64 x,.int .u64 y,.int .u64 c]=>if 0<=x/\0<=y/\y<=18446744073709551615/\0<=c/\c<=1 then some (.tuple [.int .u64 ((x+18446744073709551616-y-c)%18446744073709551616),.int .u64 (if x<y+c then 1 else 0)]) else none
 | 3,[.string s,.int .u8 c]=>some (.int .i64 (firstIdx s c.toNat.toUInt8))
 | _,_=>none
def extB (P:Program) (g:FuncId) (args:List AV):Option AV:=extAV (extNo P g) args
theorem extNo_pos {P:Program} {g:FuncId} {n:Nat} (h:extNo P g=n+1):∃ fn,P.funcs[g]?=some fn/\fn.body=none/\Extern.findNext fn=none/\extCode fn=n+1:=by
 unfold extNo at h
 split at h
 ·rename_i fn hf
  split at h
  ·cases h
  ·rename_i hb
   split at h
   ·cases h
   ·rename_i hn;exact ⟨fn,hf,hb,hn,h⟩
 ·cases h
theorem ext_name {fn : Func} : (extCode fn = 1 → fn.name = "math/bits.Add64") ∧ (extCode fn = 2 → fn.name = "math/bits.Sub64") ∧ (extCode fn = 3 → fn.name = "internal/bytealg.IndexByteString") := by
 unfold extCode
 split
 ·rename_i h;exact ⟨fun _=>eq_of_beq h,fun e=>(by cases e),fun e=>(by cases e)⟩
 ·split
  ·rename_i h;exact ⟨fun e=>(by cases e),fun _=>eq_of_beq h,fun e=>(by cases e)⟩
  ·split
   ·rename_i h;exact ⟨fun e=>(by cases e),fun e=>(by cases e),fun _=>eq_of_beq h⟩
   ·exact ⟨fun e=>(by cases e),fun e=>(by cases e),fun e=>(by cases e)⟩
theorem extB_ok (P:Program):ExtOk P (extB P):=by
 intro g args y h E w args' hA
 unfold extB extAV at h
 split at h
 ·rename_i x y' c hn
  obtain ⟨fn,hf,hb,hnx,hc⟩:=extNo_pos hn
  have hname:=ext_name.1 hc
  split at h
  ·rename_i hd
   simp only [Option.some.injEq] at h;subst h
   have:=ext_ints3 hA;subst this
   refine ⟨_,?_,ext_two _ _ _⟩
   rw [run_callFunc_extern (fn:=fn) (e:=add64Entry) hf (by rw [hname];decide) (by rw [hb];rfl) hnx (by unfold Extern.find;rw [hname];rfl),run_add64 x y' c hd.1 hd.2.1 hd.2.2.1 hd.2.2.2]
   rfl
  ·cases h
 ·rename_i x y' c hn
  obtain ⟨fn,hf,hb,hnx,hc⟩:=extNo_pos hn
  have hname:=ext_name.2.1 hc
  split at h
  ·rename_i hd
   obtain ⟨d1,d2,d3,d4,d5⟩:=hd
   obtain ⟨x,rfl⟩:=Int.eq_ofNat_of_zero_le d1
   obtain ⟨y',rfl⟩:=Int.eq_ofNat_of_zero_le d2
   obtain ⟨c,rfl⟩:=Int.eq_ofNat_of_zero_le d4
   simp only [Option.some.injEq] at h
   have:=ext_ints3 hA;subst this
   have hr:=run_subE (P:=P) x y' c (by omega) w
   have e1:(((x+18446744073709551616-y' - c)%18446744073709551616:Nat):Int)=((x:Int)+18446744073709551616-y' - c)%18446744073709551616:=by
    rw [Int.natCast_emod];congr 1;omega
   have e2:((if x<y' + c then 1 else 0:Nat):Int)=if (x:Int)<y' + c then 1 else 0:=by
    split<;>split<;>first | rfl | omega
   rw [e1,e2] at hr
   refine ⟨_,?_,by rw [←h];exact ext_two _ _ _⟩
   rw [run_callFunc_extern (fn:=fn) (e:=subE) hf (by rw [hname];decide) (by rw [hb];rfl) hnx (by unfold Extern.find;rw [hname];rfl),hr]
   rfl
  ·cases h
 ·rename_i s c hn
  obtain ⟨fn,hf,hb,hnx,hc⟩:=extNo_pos hn
  have hname:=ext_name.2.2 hc
  simp only [Option.some.injEq] at h;subst h
  have hargs:args'=#[.string s,.int .u8 c]:=by
   obtain ⟨l⟩:=args'
   match l,hA with
   | [a,b],hA=>
    have h0:=hA.2 0 _ _ rfl rfl
    have h1:=hA.2 1 _ _ rfl rfl
    cases h0;cases h1;rfl
   | [],hA=>exact absurd hA.1 (by simp)
   | [_],hA=>exact absurd hA.1 (by simp)
   | _::_::_::_,hA=>exact absurd hA.1 (by simp)
  subst hargs
  refine ⟨_,?_,.int _ _⟩
  rw [run_callFunc_extern (fn:=fn) (e:=Extern.BytealgIndexByte.indexByte) hf (by rw [hname];decide) (by rw [hb];rfl) hnx (by unfold Extern.find;rw [hname];rfl),run_indexByte_string]
  rfl
 ·cases h
theorem ainvoke_some {fs:Fns} {g:FuncId} {args:List AV} {H H':Heap} {y:AV} (h:ainvoke fs g args H=some (y,H')):(fs.ext g args=some y/\H'=H)\/(fs.ext g args=none/\fs.call g args H=some (y,H')):=by
 unfold ainvoke at h
 split at h
 ·rename_i z hz
  simp only [Option.some.injEq,Prod.mk.injEq] at h
  obtain ⟨rfl,rfl⟩:=h
  exact .inl ⟨hz,rfl⟩
 ·rename_i hz;exact .inr ⟨hz,h⟩
end Go.Abs
end
noncomputable section
namespace Go.Abs
def aloop (step:St->Option (Exit × St)):Nat->St->Option (Exit × St)
  | 0,_=>none
  | n+1,σ=>match step σ with
    | some (.normal,σ')=>aloop step n σ'
    | r=>r
def ajump:Option Code->St->Option (Exit × St)
  | none,σ=>some (.normal,σ)
  | some .ret,σ=>some (.ret,σ)
  | some (.exit id),σ=>some (.exit id,σ)
  | some (.goto l),σ=>some (.goto l,σ)
  | _,_=>none
def arangeStart (ro:Option Nat) (ps:Array Tmp) (as bd:Code) (σ:St):Option (Heap × Nat × List Nat):=
  match ro with
  | none=>some ((σ.H.push .deferred).push (.loop { state:=.ready,pending:=none,tmps:=σ.tmps,params:=ps,assign:=as,body:=bd,defers:=σ.H.n }),σ.H.n+1,σ.H.n::σ.defers)
  | some l=>match σ.H.get l with
    | some (.loop L)=>some (σ.H.push (.loop { state:=.ready,pending:=none,tmps:=σ.tmps,params:=ps,assign:=as,body:=bd,defers:=L.defers }),σ.H.n,σ.defers)
    | _=>none
def arange (Γ:Globs) (fs:Fns) (ro:Option Nat) (g:Operand) (ps:Array Tmp) (as bd:Code) (σ:St):Option (Exit × St):=
  match ev Γ σ.tmps g with
  | .func f first cap=>match arangeStart ro ps as bd σ with
    | some (H1,l,ds)=>match fs.call f (first++[.yield l]++cap) H1 with
      | some (_,H2)=>match H2.get l with
        | some (.loop L)=>match L.state with
          | .busy=>none
          | _=>if H2.lim<=l then ajump L.pending { σ with H:=H2.upd l (.loop { L with state:=.exhausted }),defers:=ds } else none
        | _=>none
      | none=>none
    | none=>none
  | _=>none
def acode (P:Program) (Γ:Globs) (fs:Fns) (dr:Array Oper->St->Option St) (lf:Nat) (ro:Option Nat):Code->St->Option (Exit × St)
  | .skip,σ=>some (.normal,σ)
  | .label _,σ=>some (.normal,σ)
  | .region _ ops d,σ=>match (match d with | true=>dr ops σ | false=>aops P Γ fs ops ops.toList σ) with
    | some σ'=>some (.normal,σ')
    | none=>none
  | .seq x y,σ=>match acode P Γ fs dr lf ro x σ with
    | some (.normal,σ')=>acode P Γ fs dr lf ro y σ'
    | r=>r
  | .cond c x y,σ=>match ev Γ σ.tmps c with
    | .bool true=>acode P Γ fs dr lf ro x σ
    | .bool false=>acode P Γ fs dr lf ro y σ
    | _=>none
  | .block id x,σ=>match acode P Γ fs dr lf ro x σ with
    | some (.exit k,σ')=>if k=id then some (.normal,σ') else some (.exit k,σ')
    | r=>r
  | .loop x,σ=>aloop (acode P Γ fs dr lf ro x) lf σ
  | .rangeFunc g ps as bd,σ=>arange Γ fs ro g ps as bd σ
  | .exit id,σ=>some (.exit id,σ)
  | .goto l,σ=>some (.goto l,σ)
  | .ret,σ=>some (.ret,σ)
  | .scope x,σ=>match acode P Γ fs dr lf ro x σ with
    | some (.goto _,_)=>none
    | r=>r
  | _,_=>none
structure CodeOk (P:Program) (Γ:Globs) (ro:Option Nat) (c:Code) (σ:St) (e:Exit) (σ':St):Prop where
  grow:σ.H.rev.length=σ.H.n->Grow σ.H σ'.H
  does:∀ (F G:Nat->Prop) (i:Nat->Nat) (a:Act) (w:World) (Q:Exit->Act->World->Prop),SRel Γ F G i σ a w->(∀ l,ro=some l->l<σ.H.n)->
    (∀ F' i' a' w',SRel Γ F' G i' σ' a' w'->Ext σ.H.n F G i w F' i' w'->σ.H.n<=σ'.H.n->Q e a' w')->c.wpIn (W (ro.map i)) 0 P Q a w
structure DrawOk (P:Program) (Γ:Globs) (ops:Array Oper) (σ σ':St):Prop where
  grow:σ.H.rev.length=σ.H.n->Grow σ.H σ'.H
  does:∀ (ro:Option Nat) (F G:Nat->Prop) (i:Nat->Nat) (a:Act) (w:World) (Q:Exit->Act->World->Prop),SRel Γ F G i σ a w->
    (∀ F' i' a' w',SRel Γ F' G i' σ' a' w'->Ext σ.H.n F G i w F' i' w'->σ.H.n<=σ'.H.n->Q .normal a' w')->
    wpAnyIn (W ro) 0 P .any ops Q ops.size (Array.replicate ops.size false) a w
section
variable {P : Program} {b : Frame} {a : Act} {k : List Item} {cs : List Frame} {w : World}
theorem stepR_scope {c:Code}:step P (lone (b.atR a (.code (.scope c)::k)) cs w)=.next (lone (b.atR a (.code c::.inScope c::k)) cs w):=
  step_lone_go (by simp [stepG,stepG.exec,Frame.atR])
theorem stepR_inScope {c:Code}:step P (lone (b.atR a (.inScope c::k)) cs w)=.next (lone (b.atR a k) cs w):=
  step_lone_go (by simp [stepG,stepG.exec,Frame.atR])
end
def noGoto (Q:Exit->Act->World->Prop):Exit->Act->World->Prop
  | .goto _,_,_=>False
  | e,a,w=>Q e a w
theorem wpIn_scope_straight {F:Fence} {n:Nat} {P:Program} {Q:Exit->Act->World->Prop} {a:Act} {w:World} {c:Code} (h:c.wpIn F n P (noGoto Q) a w):(Code.scope c).wpIn F n P Q a w:=by
  intro b k cs hro hb hr
  have h0:(lone (b.atR a (.code (.scope c)::k)) cs w).fenced P F:=fenced_calm hb hr rfl
  obtain ⟨e,a₁,w₁,hq,harr⟩:=h b (.inScope c::k) cs hro hb hr
  cases e with
  | normal=>exact ⟨.normal,a₁,w₁,hq,.head h0 stepR_scope (StepsIn.trans harr (.one (fenced_calm hb hr rfl) stepR_inScope))⟩
  | exit id'=>
    have hx:exitTo id' (.inScope c::k)=exitTo id' k:=by simp [exitTo]
    exact ⟨.exit id',a₁,w₁,hq,fun k' hk=>.head h0 stepR_scope (harr.1 k' (by rw [hx];exact hk)),
      fun hr' hk=>let ⟨k₁,h1,h2⟩:=harr.2 hr' (by rw [hx];exact hk);⟨k₁,h1,.head h0 stepR_scope h2⟩⟩
  | goto l=>exact hq.elim
  | ret=>exact ⟨_,a₁,w₁,hq,.of_steps (.one h0 stepR_scope) harr⟩
  | panic ch=>exact ⟨_,a₁,w₁,hq,.of_steps (.one h0 stepR_scope) harr⟩
  | outgrown=>exact ⟨_,a₁,w₁,hq,.of_steps (.one h0 stepR_scope) harr⟩
section
variable {P : Program} {Γ : Globs} {fs : Fns} {ro : Option Nat} {c x y : Code} {σ σ' σ'' : St} {e : Exit}
theorem SRel.drew {F G:Nat->Prop} {i:Nat->Nat} {a:Act} {w:World} (h:SRel Γ F G i σ a w) (n:Nat):SRel Γ F G i σ a { w with drawn:=n }:=
  ⟨h.tmps,h.defers,h.dlt,h.heap,h.globs⟩
theorem CodeOk.pure (h:∀ {F:Fence} {Q:Exit->Act->World->Prop} {a:Act} {w:World},Q e a w->c.wpIn F 0 P Q a w):CodeOk P Γ ro c σ e σ:=
  ⟨Grow.refl,fun F G i a w Q hs _ hq=>h (hq F i a w hs (Ext.refl _ _ _ _ _) (Nat.le_refl _))⟩
theorem round_same {F F' G:Nat->Prop} {i i':Nat->Nat} {w w':World} {K:Nat} (he:Ext K F G i w F' i' w') (hl:∀ l,ro=some l->l<K):ro.map i'=ro.map i:=by
  cases ro with
  | none=>rfl
  | some l=>simp [he.same l (hl l rfl)]
theorem CodeOk.seq (h:CodeOk P Γ ro x σ .normal σ') (k:CodeOk P Γ ro y σ' e σ''):CodeOk P Γ ro (.seq x y) σ e σ'':=by
  refine ⟨fun hok=>(h.grow hok).trans (k.grow (h.grow hok).ok),fun F G i a w Q hs hl hq=>?_⟩
  refine wpIn_seq (h.does F G i a w _ hs hl fun F' i' a' w' hs' he hle=>?_)
  show y.wpIn _ _ _ _ _ _
  rw [←round_same he hl]
  refine k.does F' G i' a' w' _ hs' (fun l h=>Nat.lt_of_lt_of_le (hl l h) hle) fun F'' i'' a'' w'' hs'' he' hle'=>hq F'' i'' a'' w'' hs'' (he.trans he' hle) (Nat.le_trans hle hle')
theorem CodeOk.seq_out (h:CodeOk P Γ ro x σ e σ') (he:e≠.normal):CodeOk P Γ ro (.seq x y) σ e σ':=by
  refine ⟨h.grow,fun F G i a w Q hs hl hq=>wpIn_seq (h.does F G i a w _ hs hl fun F' i' a' w' hs' hx hle=>?_)⟩
  have:=hq F' i' a' w' hs' hx hle
  cases e<;>first | exact absurd rfl he | exact this
theorem CodeOk.block {id:Nat} (h:CodeOk P Γ ro x σ e σ'):CodeOk P Γ ro (.block id x) σ (match e with | .exit k=>if k=id then .normal else .exit k | e=>e) σ':=by
  refine ⟨h.grow,fun F G i a w Q hs hl hq=>wpIn_block (h.does F G i a w _ hs hl fun F' i' a' w' hs' hx hle=>?_)⟩
  have:=hq F' i' a' w' hs' hx hle
  cases e<;>try exact this
  rename_i k
  simp only [Exit.inBlock]
  split<;>rename_i hk<;>simp only [hk,if_true,if_false] at this<;>exact this
theorem CodeOk.scope (h:CodeOk P Γ ro x σ e σ') (hg:∀ l,e≠.goto l):CodeOk P Γ ro (.scope x) σ e σ':=by
  refine ⟨h.grow,fun F G i a w Q hs hl hq=>wpIn_scope_straight (h.does F G i a w _ hs hl fun F' i' a' w' hs' hx hle=>?_)⟩
  have:=hq F' i' a' w' hs' hx hle
  cases e<;>first | exact this | exact absurd rfl (hg _)
theorem CodeOk.cond {cnd:Operand} {b:Bool} (hc:ev Γ σ.tmps cnd=.bool b) (h:CodeOk P Γ ro (if b then x else y) σ e σ'):CodeOk P Γ ro (.cond cnd x y) σ e σ':=by
  refine ⟨h.grow,fun F G i a w Q hs hl hq=>?_⟩
  have hv:=ev_rel hs.tmps hs.globs cnd
  rw [hc] at hv
  generalize hx:a.eval cnd=v at hv
  cases hv
  exact wpIn_cond hx (h.does F G i a w Q hs hl hq)
theorem aloop_ok {step:St->Option (Exit × St)} (hstep:∀ σ e σ',step σ=some (e,σ')->CodeOk P Γ ro x σ e σ'):
    ∀ (n:Nat) (σ:St) (e:Exit) (σ':St),aloop step n σ=some (e,σ')->CodeOk P Γ ro (.loop x) σ e σ':=by
  have grow:∀ (n:Nat) (σ:St) (e:Exit) (σ':St),aloop step n σ=some (e,σ')->σ.H.rev.length=σ.H.n->Grow σ.H σ'.H:=by
    intro n
    induction n with
    | zero=>intro σ e σ' h;simp [aloop] at h
    | succ n ih=>
      intro σ e σ' h hok
      simp only [aloop] at h
      split at h
      · rename_i σ1 h1
        have g1:=(hstep _ _ _ h1).grow hok
        exact g1.trans (ih _ _ _ h g1.ok)
      · exact (hstep _ _ _ h).grow hok
  have rounds:∀ (n:Nat) (σ:St) (e:Exit) (σ':St),aloop step n σ=some (e,σ')->
      ∀ (F G:Nat->Prop) (i:Nat->Nat) (a:Act) (w:World) (Q:Exit->Act->World->Prop),SRel Γ F G i σ a w->(∀ l,ro=some l->l<σ.H.n)->
      (∀ F' i' a' w',SRel Γ F' G i' σ' a' w'->Ext σ.H.n F G i w F' i' w'->σ.H.n<=σ'.H.n->Q e a' w')->x.roundsIn (W (ro.map i)) 0 P Q n a w:=by
    intro n
    induction n with
    | zero=>intro σ e σ' h;simp [aloop] at h
    | succ n ih=>
      intro σ e σ' h F G i a w Q hs hl hq
      simp only [aloop] at h
      rw [roundsIn_succ]
      split at h
      · rename_i σ1 h1
        refine (hstep _ _ _ h1).does F G i a w _ hs hl fun F' i' a' w' hs' he hle=>?_
        show Code.roundsIn _ _ _ _ _ _ _ _
        rw [←round_same he hl]
        exact ih _ _ _ h F' G i' a' w' Q hs' (fun l h=>Nat.lt_of_lt_of_le (hl l h) hle) fun F'' i'' a'' w'' hs'' he' hle'=>hq F'' i'' a'' w'' hs'' (he.trans he' hle) (Nat.le_trans hle hle')
      · rename_i hne
        refine (hstep _ _ _ h).does F G i a w _ hs hl fun F' i' a' w' hs' he hle=>?_
        have:=hq F' i' a' w' hs' he hle
        cases e<;>first | exact absurd h (hne _) | exact this
  intro n σ e σ' h
  exact ⟨grow n σ e σ' h,fun F G i a w Q hs hl hq=>wpIn_loop_rounds n (rounds n σ e σ' h F G i a w Q hs hl hq)⟩
def afterJump (P:Program) (F:Fence) (Q:Exit->Act->World->Prop) (a:Act) (w:World):Option Code->Prop
  | none=>Q .normal a w
  | some c=>c.wpIn F 0 P Q a w
theorem ajump_ok {j:Option Code} (h:ajump j σ=some (e,σ')):σ'=σ/\∀ (F:Fence) (Q:Exit->Act->World->Prop) (a:Act) (w:World),Q e a w->afterJump P F Q a w j:=by
  unfold ajump at h
  split at h<;>first
    | (cases h;done)
    | (simp only [Option.some.injEq,Prod.mk.injEq] at h
       obtain ⟨rfl,rfl⟩:=h
       refine ⟨rfl,?_⟩
       intro F Q a w hq
       first
        | exact hq
        | exact wpIn_ret hq
        | exact wpIn_exit hq
        | exact wpIn_goto hq)
end
end Go.Abs
end
noncomputable section
namespace Go.Abs
section
variable {P : Program} {Γ : Globs} {fs : Fns} {ro : Option Nat} {σ σ' σ'' : St} {e : Exit} {F G : Nat → Prop} {i : Nat → Nat} {a : Act} {w : World} {H H' : Heap}
theorem HRel.loopAt (hH:HRel F G i H w.heap) {l:Nat} {L:ALoop} (h:H.get l=some (.loop L)):
  ∃ (fn:FuncId) (t:Array Value),w.heap[i l]?=some (.loop { state:=L.state,pending:=L.pending,fn:=fn,tmps:=t,params:=L.params,assign:=L.assign,body:=L.body,defers:=i L.defers })/\
   VRels ⟨F,w.heap,i,H.n⟩ L.tmps t.toList/\L.defers<H.n:=by
 obtain ⟨o,ho,hr⟩:=hH.row l _ h
 cases hr with
 | loop _ fn t ht hd=>exact ⟨fn,t,ho,ht,hd⟩
theorem HRel.putLoop (hH:HRel F G i H w.heap) {l:Nat} {L:ALoop} (h:H.get l=some (.loop L)) (hlim:H.lim<=l) (st:LoopState) (pend:Option Code) {fn:FuncId} {t:Array Value}
  (ht:VRels ⟨F,w.heap,i,H.n⟩ L.tmps t.toList) (hd:L.defers<H.n):
  HRel F G i (H.upd l (.loop { L with state:=st,pending:=pend })) (w.putObj (i l) (.loop { state:=st,pending:=pend,fn:=fn,tmps:=t,params:=L.params,assign:=L.assign,body:=L.body,defers:=i L.defers })).heap/\
   Ext H.n F G i w F i (w.putObj (i l) (.loop { state:=st,pending:=pend,fn:=fn,tmps:=t,params:=L.params,assign:=L.assign,body:=L.body,defers:=i L.defers })):=by
 obtain ⟨fn0,t0,ho,ht0,hd0⟩:=hH.loopAt h
 have le:∀ o',Env.le ⟨F,w.heap,i,H.n⟩ ⟨F,w.heap.setIfInBounds (i l) o',i,H.n⟩:=by
  intro o'
  refine ⟨fun _ h=>h,fun b hb=>?_,Nat.le_refl _,fun _ _=>rfl,fun b c e z hc=>?_⟩
  ·rw [Array.getElem?_setIfInBounds,if_neg]
   rintro rfl
   exact (hH.out l _ h).1 hb
  ·rw [Array.getElem?_setIfInBounds,if_neg]
   ·exact ⟨c,e,z,hc,Nat.le_refl _⟩
   ·rintro rfl;rw [ho] at hc;cases hc
 exact hH.put h hlim _ _ (fun c e z hc=>by rw [ho] at hc;cases hc) (.loop { L with state:=st,pending:=pend } fn t (ht.mono (le _)) hd)
theorem start_grow {ps:Array Tmp} {as bd:Code} {H1:Heap} {l:Nat} {ds:List Nat} (hok:σ.H.rev.length=σ.H.n) (h:arangeStart ro ps as bd σ=some (H1,l,ds)):Grow σ.H H1:=by
 unfold arangeStart at h
 split at h
 ·simp only [Option.some.injEq,Prod.mk.injEq] at h
  obtain ⟨rfl,rfl,rfl⟩:=h
  have g1:=(Turn.push (H:=σ.H) .deferred).grow hok
  exact g1.trans ((Turn.push _).grow g1.ok)
 ·split at h
  ·simp only [Option.some.injEq,Prod.mk.injEq] at h
   obtain ⟨rfl,rfl,rfl⟩:=h
   exact (Turn.push _).grow hok
  ·cases h
theorem start_run {ps:Array Tmp} {as bd:Code} {H1:Heap} {l:Nat} {ds:List Nat} (hs:SRel Γ F G i σ a w) (h:arangeStart ro ps as bd σ=some (H1,l,ds)) (fn:FuncId):
  ∃ (mk:List Deferred) (w1:World) (i1:Nat->Nat),(Instr.enterLoop fn a.tmps ps as bd (ro.map i)).run P w=.ok (i1 l,mk) w1/\HRel F G i1 H1 w1.heap/\Ext σ.H.n F G i w F i1 w1/\σ.H.n<=H1.n/\
   l<H1.n/\(∀ r∈ds,r<H1.n)/\mk++a.defers=ds.map (mark i1):=by
 unfold arangeStart at h
 split at h
 ·simp only [Option.some.injEq,Prod.mk.injEq] at h
  obtain ⟨rfl,rfl,rfl⟩:=h
  have e1:=ext_alloc (K:=σ.H.n) (F:=F) (G:=G) (i:=i) (w:=w) (.deferred (some [])) hs.heap.old σ.H.n w.heap.size (Nat.le_refl _)
  have h1:=hs.heap.alloc (.deferred (some [])) .deferred .deferred
  let w1:=w.alloc (.deferred (some []))
  let i1:=Abs.put i σ.H.n w.heap.size
  have hsz:w1.heap.size=w.heap.size+1:=by simp [w1]
  let L:ALoop:={ state:=.ready,pending:=none,tmps:=σ.tmps,params:=ps,assign:=as,body:=bd,defers:=σ.H.n }
  let o:Obj:=.loop { state:=.ready,pending:=none,fn:=fn,tmps:=a.tmps,params:=ps,assign:=as,body:=bd,defers:=w.heap.size }
  have e2:=ext_alloc (K:=σ.H.n+1) (F:=F) (G:=G) (i:=i1) (w:=w1) o h1.old (σ.H.n+1) w1.heap.size (Nat.le_refl _)
  have ee:=e1.trans e2 (Nat.le_succ _)
  have h2:=h1.alloc o (.loop L) (by
   have hd:L.defers<σ.H.n+1+1:=by show σ.H.n<_;omega
   have:=RowRel.loop (E:=⟨F,(w1.alloc o).heap,Abs.put i1 (σ.H.n+1) w1.heap.size,σ.H.n+1+1⟩) L fn a.tmps (hs.tmps.mono (ee.le (Nat.le_refl _) (by omega))) hd
   have hi:Abs.put i1 (σ.H.n+1) w1.heap.size σ.H.n=w.heap.size:=by rw [put_lt (by omega)];exact put_self
   simp only [L,hi] at this
   exact this)
  refine ⟨[{ target:=.collected w.heap.size,args:=#[] }],_,_,?_,h2,ee,by simp;omega,by simp,?_,?_⟩
  ·rw [Option.map_none,run_enterLoop_outer]
   have hi:Abs.put i1 (σ.H.push .deferred).n w1.heap.size (σ.H.n+1)=w.heap.size+1:=by
    show Abs.put i1 (σ.H.n+1) w1.heap.size (σ.H.n+1)=_
    rw [put_self,hsz]
   rw [hi]
  ·intro r hr
   rcases List.mem_cons.1 hr with rfl | hr
   ·simp;omega
   ·have:=hs.dlt r hr;simp;omega
  ·rw [hs.defers]
   simp only [List.map_cons,List.singleton_append,List.cons.injEq]
   refine ⟨?_,List.map_congr_left fun r hr=>?_⟩
   ·unfold mark
    have:Abs.put i1 (σ.H.push .deferred).n w1.heap.size σ.H.n=w.heap.size:=by
     show Abs.put i1 (σ.H.n+1) w1.heap.size σ.H.n=_
     rw [put_lt (by omega)];exact put_self
    rw [this]
   ·exact congrArg (fun b=>({ target:=.collected b,args:=#[] }:Deferred)) (ee.same r (hs.dlt r hr)).symm
 ·rename_i l0
  split at h
  ·rename_i L0 hl0
   simp only [Option.some.injEq,Prod.mk.injEq] at h
   obtain ⟨rfl,rfl,rfl⟩:=h
   obtain ⟨fn0,t0,ho,ht0,hd0⟩:=hs.heap.loopAt hl0
   let L:ALoop:={ state:=.ready,pending:=none,tmps:=σ.tmps,params:=ps,assign:=as,body:=bd,defers:=L0.defers }
   let o:Obj:=.loop { state:=.ready,pending:=none,fn:=fn,tmps:=a.tmps,params:=ps,assign:=as,body:=bd,defers:=i L0.defers }
   have ee:=ext_alloc (K:=σ.H.n) (F:=F) (G:=G) (i:=i) (w:=w) o hs.heap.old σ.H.n w.heap.size (Nat.le_refl _)
   have h2:=hs.heap.alloc o (.loop L) (by
    have:=RowRel.loop (E:=⟨F,(w.alloc o).heap,Abs.put i σ.H.n w.heap.size,σ.H.n+1⟩) L fn a.tmps (hs.tmps.mono (ee.le (Nat.le_refl _) (by omega))) (Nat.lt_succ_of_lt hd0)
    have hi:Abs.put i σ.H.n w.heap.size L0.defers=i L0.defers:=put_lt hd0
    simp only [L,hi] at this
    exact this)
   refine ⟨[],_,_,?_,h2,ee,by simp,by simp,?_,?_⟩
   ·unfold Instr.enterLoop
    simp only [Option.map_some,Sem.run_bind,run_getLoop ho,Result.andThen_ok,Sem.run_pure,run_newObj_alloc]
    rw [put_self]
   ·intro r hr;have:=hs.dlt r hr;simp;omega
   ·rw [List.nil_append,hs.defers]
    refine List.map_congr_left fun r hr=>?_
    unfold mark
    rw [ee.same r (hs.dlt r hr)]
  ·cases h
theorem arange_ok (hfs:FnsOk P Γ fs) {g:Operand} {ps:Array Tmp} {as bd:Code} (h:arange Γ fs ro g ps as bd σ=some (e,σ')):CodeOk P Γ ro (.rangeFunc g ps as bd) σ e σ':=by
 unfold arange at h
 split at h
 ·rename_i f first cap hg
  split at h
  ·rename_i H1 l ds hst
   split at h
   ·rename_i y H2 hcall
    split at h
    ·rename_i L hL
     have hc:=hfs.call _ _ _ _ _ hcall
     have rest:L.state≠.busy/\H2.lim<=l/\ajump L.pending { σ with H:=H2.upd l (.loop { L with state:=.exhausted }),defers:=ds }=some (e,σ'):=by
      split at h
      ·cases h
      ·rename_i hne
       split at h
       ·rename_i hlim;exact ⟨hne,hlim,h⟩
       ·cases h
     obtain ⟨hbusy,hlim,hj⟩:=rest
     obtain ⟨rfl,hjump⟩:=ajump_ok (P:=P) hj
     refine ⟨fun hok=>?_,fun F G i a w Q hs hl hq=>?_⟩
     ·have g1:=start_grow hok hst
      have g2:=hc.grow g1.ok
      exact (g1.trans g2).trans ((Turn.upd l _ _ hL).grow g2.ok)
     ·refine wpIn_rangeFunc fun fn _=>?_
      obtain ⟨mk,w1,i1,hrun,hH1,he1,hle1,hl1,hds,hmk⟩:=start_run (P:=P) hs hst fn
      have le1:Env.le ⟨F,w.heap,i,σ.H.n⟩ ⟨F,w1.heap,i1,H1.n⟩:=he1.le (Nat.le_refl _) hle1
      have hgv:=ev_rel hs.tmps hs.globs g
      rw [hg] at hgv
      have hgv:=hgv.mono le1
      generalize hfv:a.eval g=fv at hgv
      cases hgv with
      | func _ _ _ first' cap' k1 k2 kf kc=>
       obtain ⟨fn',hf1,hf2,hf3⟩:=hc.fn
       have hargs:VRels ⟨F,w1.heap,i1,H1.n⟩ (first++[.yield l]++cap) (first'++#[Value.func (.yield (i1 l)) #[] #[]]++cap').toList:=by
        have e:(first'++#[Value.func (.yield (i1 l)) #[] #[]]++cap').toList=first'.toList++[Value.func (.yield (i1 l)) #[] #[]]++cap'.toList:=by simp
        rw [e]
        refine VRels.append (VRels.append ⟨by simpa using k1,fun j x v p q=>kf j x v p (by simpa using q)⟩ (VRels.cons (.yield l hl1) VRels.nil)) ⟨by simpa using k2,fun j x v p q=>kc j x v p (by simpa using q)⟩
       refine ⟨i1 l,mk,w1,{ target:=.fn (.func f) cap',args:=first'++#[Value.func (.yield (i1 l)) #[] #[]] },w1,f,first'++#[Value.func (.yield (i1 l)) #[] #[]]++cap',w1,hrun,?_,fun _ _=>trivial,?_,fun hd=>by simp at hd,
        W_calls (CallsIn.mono (hc.does F G i1 w1 _ hH1 (hs.globs.mono le1) hargs) ?_)⟩
       ·simp only [resolve,hfv,Deferred.ofValue,Sem.run_pure]
        simp [Act.eval]
       ·simp only [invoke]
        exact callFunc_run hf1 hf2 hf3 _ _
       ·intro en w3 hen
        cases en with
        | panicked c=>exact hen.elim
        | outgrown=>exact hen.elim
        | returned v=>
         obtain ⟨F2,i2,hgive⟩:=hen
         obtain ⟨fn2,t2,ho2,ht2,hd2⟩:=hgive.heap.loopAt hL
         have hi2:i2 l=i1 l:=hgive.ext.same l hl1
         obtain ⟨hp1,hp2⟩:=hgive.heap.putLoop hL hlim .exhausted L.pending (fn:=fn2) ht2 hd2
         have hend:=run_endLoop (P:=P) ho2 hbusy
         rw [hi2] at hend
         refine ⟨_,_,hend,?_⟩
         have eall:=(he1.trans hgive.ext hle1).trans hp2 (Nat.le_trans hle1 hgive.le)
         have leall:Env.le ⟨F,w.heap,i,σ.H.n⟩ _:=eall.le (N':=H2.n) (Nat.le_refl _) (Nat.le_trans hle1 hgive.le)
         have hs':SRel Γ F2 G i2 { σ with H:=H2.upd l (.loop { L with state:=.exhausted }),defers:=ds } { a with defers:=mk++a.defers } _:=
          ⟨hs.tmps.mono leall,by
           rw [show ({ a with defers:=mk++a.defers }:Act).defers=mk++a.defers from rfl,hmk]
           refine List.map_congr_left fun r hr=>?_
           unfold mark
           rw [hgive.ext.same r (hds r hr)],fun r hr=>Nat.lt_of_lt_of_le (hds r hr) hgive.le,hp1,hs.globs.mono leall⟩
         have hqq:=hq F2 i2 { a with defers:=mk++a.defers } _ hs' eall (Nat.le_trans hle1 hgive.le)
         have:=hjump (W (ro.map i)) Q _ _ hqq
         rw [hi2] at this
         cases hp:L.pending<;>rw [hp] at this<;>exact this
    ·cases h
   ·cases h
  ·cases h
 ·cases h
end
end Go.Abs
end
noncomputable section
namespace Go.Abs
def aunmark:List Nat->Heap->Option Heap
 | [],H=>some H
 | d::ds,H=>match H.get d with
  | some .deferred=>if H.lim<=d then aunmark ds (H.kill d) else none
  | _=>none
def aresult (P:Program) (tmps:List AV) (H:Heap):ResultVar->Option AV
 | .tmp t=>tmps[t]?
 | .cell a t=>match tmps[a]? with
  | some x=>aload P H t x
  | none=>none
def aresults (P:Program) (tmps:List AV) (H:Heap):List ResultVar->Option (List AV)
 | []=>some []
 | r::rs=>match aresult P tmps H r,aresults P tmps H rs with
  | some x,some xs=>some (x::xs)
  | _,_=>none
def atuple:List AV->AV
 | [x]=>x
 | xs=>.tuple xs
def aleave (P:Program) (fn:Func) (σ:St):Option (AV × Heap):=
 match aunmark σ.defers σ.H with
 | some H=>match aresults P σ.tmps H fn.results.toList with
  | some xs=>some (atuple xs,H)
  | none=>none
 | none=>none
def acall (P:Program) (run:Code->St->Option (Exit × St)) (g:FuncId) (args:List AV) (H:Heap):Option (AV × Heap):=
 match P.funcs[g]? with
 | some fn=>match fn.body with
  | some c=>match run c { tmps:=args++List.replicate (fn.ntmps-args.length) (ofV undef),H:=H,defers:=[] } with
   | some (.normal,σ)=>aleave P fn σ
   | some (.ret,σ)=>aleave P fn σ
   | _=>none
  | none=>none
 | none=>none
def aparams:List Tmp->List AV->List AV->List AV
 | t::ts,x::xs,tmps=>aparams ts xs (tmps.set t x)
 | _,_,tmps=>tmps
def aend (r:Nat) (j:Option Code) (H:Heap):Option (AV × Heap):=
 match H.get r with
 | some (.loop L)=>if H.lim<=r then some (.bool j.isNone,H.upd r (.loop { L with state:=if j.isNone then .ready else .done,pending:=j })) else none
 | _=>none
def ayield (run:Nat->Code->St->Option (Exit × St)) (r:Nat) (args:List AV) (H:Heap):Option (AV × Heap):=
 match H.get r with
 | some (.loop L)=>if args.length=L.params.size then
   match run r L.assign { tmps:=aparams L.params.toList args L.tmps,H:=H,defers:=[] } with
   | some (.normal,σ1)=>match σ1.H.get r with
    | some (.loop L1)=>match L1.state with
     | .ready=>if σ1.H.lim<=r then
       match run r L.body { σ1 with H:=σ1.H.upd r (.loop { L1 with state:=.busy }) } with
       | some (.normal,σ2)=>aend r none σ2.H
       | some (.ret,σ2)=>aend r (some .ret) σ2.H
       | some (.exit k,σ2)=>aend r (some (.exit k)) σ2.H
       | some (.goto k,σ2)=>aend r (some (.goto k)) σ2.H
       | _=>none
      else none
     | _=>none
    | _=>none
   | _=>none
  else none
 | _=>none
section
variable {P : Program} {Γ : Globs} {fs : Fns} {ro : Option Nat} {c x y : Code} {σ σ' σ'' : St} {e : Exit} {F G : Nat → Prop} {i : Nat → Nat} {a : Act} {w : World} {H H' : Heap} {dr : Array Oper → St → Option St} {lf : Nat}
theorem acode_ok (hm:P.follows .mixedOrders=true) (hfs:FnsOk P Γ fs) (hdr:∀ ops σ σ',dr ops σ=some σ'->DrawOk P Γ ops σ σ'):
  ∀ (c:Code) (σ:St) (e:Exit) (σ':St),acode P Γ fs dr lf ro c σ=some (e,σ')->CodeOk P Γ ro c σ e σ':=by
 intro c
 induction c with
 | skip=>intro σ e σ' h;simp only [acode,Option.some.injEq,Prod.mk.injEq] at h;obtain ⟨rfl,rfl⟩:=h;exact .pure wpIn_skip
 | label l=>intro σ e σ' h;simp only [acode,Option.some.injEq,Prod.mk.injEq] at h;obtain ⟨rfl,rfl⟩:=h;exact .pure wpIn_label
 | exit id=>intro σ e σ' h;simp only [acode,Option.some.injEq,Prod.mk.injEq] at h;obtain ⟨rfl,rfl⟩:=h;exact .pure wpIn_exit
 | goto l=>intro σ e σ' h;simp only [acode,Option.some.injEq,Prod.mk.injEq] at h;obtain ⟨rfl,rfl⟩:=h;exact .pure wpIn_goto
 | ret=>intro σ e σ' h;simp only [acode,Option.some.injEq,Prod.mk.injEq] at h;obtain ⟨rfl,rfl⟩:=h;exact .pure wpIn_ret
 | refuse s=>intro σ e σ' h;simp [acode] at h
 | scope b ih=>
  intro σ e σ' h
  simp only [acode] at h
  split at h
  ·cases h
  ·rename_i hne
   exact (ih _ _ _ h).scope fun l hl=>hne l σ' (by rw [h,hl])
 | region id ops d=>
  intro σ e σ' h
  simp only [acode] at h
  cases d with
  | false=>
   simp only at h
   split at h
   ·rename_i σ1 h1
    simp only [Option.some.injEq,Prod.mk.injEq] at h;obtain ⟨rfl,rfl⟩:=h
    exact ⟨fun hok=>(aops_grow hfs _ _ _ hok h1).1,fun F G i a w Q hs _ hq=>wpIn_region_list (aops_wp hfs _ _ _ F i a w hs h1 hq)⟩
   ·cases h
  | true=>
   simp only at h
   split at h
   ·rename_i σ1 h1
    simp only [Option.some.injEq,Prod.mk.injEq] at h;obtain ⟨rfl,rfl⟩:=h
    have hd:=hdr _ _ _ h1
    exact ⟨hd.grow,fun F G i a w Q hs _ hq=>wpIn_region_any hm (hd.does _ F G i a _ Q (hs.drew _) fun F' i' a' w' hs' he hle=>hq F' i' a' w' hs' ((ext_drew _).trans he (Nat.le_refl _)) hle)⟩
   ·cases h
 | seq x y ihx ihy=>
  intro σ e σ' h
  simp only [acode] at h
  split at h
  ·rename_i σ1 h1;exact (ihx _ _ _ h1).seq (ihy _ _ _ h)
  ·rename_i hne
   refine (ihx _ _ _ h).seq_out ?_
   rintro rfl
   exact hne _ h
 | cond cnd x y ihx ihy=>
  intro σ e σ' h
  simp only [acode] at h
  split at h
  ·rename_i hc;exact .cond hc (ihx _ _ _ h)
  ·rename_i hc;exact .cond hc (ihy _ _ _ h)
  ·cases h
 | block id x ih=>
  intro σ e σ' h
  simp only [acode] at h
  split at h
  ·rename_i k σ1 h1
   have:=(ih _ _ _ h1).block (id:=id)
   split at h
   ·rename_i hk
    simp only [Option.some.injEq,Prod.mk.injEq] at h;obtain ⟨rfl,rfl⟩:=h
    simpa [hk] using this
   ·rename_i hk
    simp only [Option.some.injEq,Prod.mk.injEq] at h;obtain ⟨rfl,rfl⟩:=h
    simpa [hk] using this
  ·rename_i hne
   have:=(ih _ _ _ h).block (id:=id)
   cases e<;>first | exact absurd h (hne _ _) | exact this
 | loop x ih=>intro σ e σ' h;exact aloop_ok (fun σ e σ' h=>ih σ e σ' h) _ _ _ _ h
 | rangeFunc g ps as bd _ _=>intro σ e σ' h;exact arange_ok hfs h
theorem HRel.shut (hH:HRel F G i H w.heap) {d:Nat} (h:H.get d=some .deferred) (hlim:H.lim<=d):
  HRel F G i (H.kill d) (w.putObj (i d) (.deferred none)).heap/\Ext H.n F G i w F i (w.putObj (i d) (.deferred none)):=by
 obtain ⟨o,ho,hr⟩:=hH.row d _ h
 have hlt:=Heap.get_lt h
 cases hr
 have keep:∀ b,b≠i d->(w.putObj (i d) (.deferred none)).heap[b]?=w.heap[b]?:=fun b hb=>World.putObj_heap_other hb
 have ext:Ext H.n F G i w F i (w.putObj (i d) (.deferred none)):=by
  refine ⟨fun _ h=>h,fun b hb=>keep b ?_,by simp,fun b c e z hc=>?_,fun _ _=>rfl,rfl,rfl,rfl⟩
  ·rintro rfl
   have:=hH.out d _ h
   exact hb.elim this.1 this.2
  ·refine ⟨c,e,z,?_,Nat.le_refl _⟩
   rw [keep b (by rintro rfl;rw [ho] at hc;cases hc)]
   exact hc
 have hk:=hH.kill hlt
 refine ⟨⟨fun r row hr=>?_,hk.out,hk.inj,fun b hb=>by simpa using hH.old b hb,hH.apart,hk.ok⟩,ext⟩
 obtain ⟨o2,ho2,hr2⟩:=hk.row r row hr
 refine ⟨o2,?_,hr2.mono (ext.le (Nat.le_refl _) (Nat.le_refl _))⟩
 rw [keep,ho2]
 intro e
 rw [Heap.get_kill hH.ok hlt] at hr
 split at hr
 ·cases hr
 ·rename_i hne;exact hne (hH.inj r d row _ hr h e)
def resultOf (tmps':Array Value) (r:ResultVar):Sem Value:=
 match r with
 | .tmp t=>pure (tmps'.getD t undef)
 | .cell a t=>do loadVar t (←asAddr (tmps'.getD a undef))
theorem results_eq (fn:Func) (tmps':Array Value):results fn tmps'=(do
  let vs←fn.results.mapM (resultOf tmps')
  pure (if h:vs.size=1 then vs[0] else .tuple vs)):=by
 unfold results
 congr 1
theorem aresult_run (hH:HRel F G i H w.heap) {tmps:List AV} {tmps':Array Value} (ht:VRels ⟨F,w.heap,i,H.n⟩ tmps tmps'.toList) {r:ResultVar} {y:AV} (h:aresult P tmps H r=some y):
  ∃ v,(resultOf tmps' r).run P w=.ok v w/\VRel ⟨F,w.heap,i,H.n⟩ y v:=by
 cases r with
 | tmp t=>
  simp only [aresult] at h
  obtain ⟨v,hv,hr⟩:=ht.get h
  refine ⟨v,?_,hr⟩
  have:tmps'.getD t undef=v:=by rw [Array.getD_eq_getD_getElem?];rw [Array.getElem?_toList] at hv;rw [hv];rfl
  simp [resultOf,this]
 | cell b t=>
  simp only [aresult] at h
  split at h
  ·rename_i x hx
   obtain ⟨v,hv,hr⟩:=ht.get hx
   have e:tmps'.getD b undef=v:=by rw [Array.getD_eq_getD_getElem?];rw [Array.getElem?_toList] at hv;rw [hv];rfl
   obtain ⟨u,hu,hru⟩:=aload_run (P:=P) hH hr h
   refine ⟨u,?_,hru⟩
   simp only [resultOf,e]
   unfold Instr.loadAt Instr.sureAddr at hu
   unfold asAddr
   cases v with
   | pointer p=>
    cases p with
    | some ad=>simpa using hu
    | none=>simp [stuck,Sem.run_bind] at hu
   | _=>simp [stuck,Sem.run_bind] at hu
  ·cases h
theorem aresults_run (hH:HRel F G i H w.heap) {tmps:List AV} {tmps':Array Value} (ht:VRels ⟨F,w.heap,i,H.n⟩ tmps tmps'.toList):∀ {rs:List ResultVar} {ys:List AV},aresults P tmps H rs=some ys->
  ∃ vs,(rs.mapM (resultOf tmps')).run P w=.ok vs w/\VRels ⟨F,w.heap,i,H.n⟩ ys vs:=by
 intro rs
 induction rs with
 | nil=>intro ys h;simp only [aresults,Option.some.injEq] at h;subst h;exact ⟨[],by simp,VRels.nil⟩
 | cons r rs ih=>
  intro ys h
  simp only [aresults] at h
  split at h
  ·rename_i x xs hx hxs
   simp only [Option.some.injEq] at h;subst h
   obtain ⟨v,hv,hr⟩:=aresult_run (P:=P) hH ht hx
   obtain ⟨vs,hvs,hrs⟩:=ih hxs
   refine ⟨v::vs,?_,VRels.cons hr hrs⟩
   simp only [List.mapM_cons,Sem.run_bind,hv,Result.andThen_ok,hvs,Sem.run_pure]
  ·cases h
theorem results_rel (hH:HRel F G i H w.heap) {tmps:List AV} {tmps':Array Value} (ht:VRels ⟨F,w.heap,i,H.n⟩ tmps tmps'.toList) {fn:Func} {ys:List AV} (h:aresults P tmps H fn.results.toList=some ys):
  ∃ v,(results fn tmps').run P w=.ok v w/\VRel ⟨F,w.heap,i,H.n⟩ (atuple ys) v:=by
 obtain ⟨vs,hvs,hrs⟩:=aresults_run (P:=P) hH ht h
 have hrun:∀ (f:ResultVar->Sem Value),(fn.results.toList.mapM f).run P w=.ok vs w->(fn.results.mapM f).run P w=.ok vs.toArray w:=by
  intro f hf
  rw [Array.mapM_eq_mapM_toList,Sem.run_map,hf]
  rfl
 refine ⟨if h:vs.toArray.size=1 then vs.toArray[0] else .tuple vs.toArray,?_,?_⟩
 ·rw [results_eq,Sem.run_bind,hrun _ hvs]
  rfl
 ·unfold atuple
  split
  ·rename_i x
   match vs,hrs with
   | [v],hrs=>exact hrs.2 0 x v rfl rfl
   | [],hrs=>exact absurd hrs.1 (by simp)
   | _::_::_,hrs=>exact absurd hrs.1 (by simp)
  ·rename_i hne
   have:¬ vs.toArray.size=1:=by
    intro hl
    have hl2:ys.length=1:=by rw [hrs.1];simpa using hl
    match ys,hl2 with
    | [x],_=>exact hne x rfl
   rw [dif_neg this]
   exact .tuple _ _ (by rw [hrs.1];simp) (fun j x v p q=>hrs.2 j x v p (by simpa using q))
end
end Go.Abs
end
noncomputable section
namespace Go.Abs
section
variable {P : Program} {Γ : Globs} {fs : Fns} {ro : Option Nat} {c x y : Code} {σ σ' σ'' : St} {e : Exit} {F G : Nat → Prop} {i : Nat → Nat} {a : Act} {w : World} {H H' : Heap} {dr : Array Oper → St → Option St} {lf : Nat}
theorem kill_grow (hok:H.rev.length=H.n) {d:Nat} (hd:d<H.n):Grow H (H.kill d):=by
 refine ⟨by simp [Heap.kill,hok],by simp,rfl,fun s ro hs h=>?_⟩
 rw [Heap.get_kill hok hd] at h
 split at h
 ·cases h
 ·exact ⟨ro,h⟩
theorem aunmark_grow:∀ (ds:List Nat) (H H':Heap),H.rev.length=H.n->aunmark ds H=some H'->Grow H H'/\H'.n=H.n:=by
 intro ds
 induction ds with
 | nil=>intro H H' hok h;simp only [aunmark,Option.some.injEq] at h;subst h;exact ⟨Grow.refl hok,rfl⟩
 | cons d ds ih=>
  intro H H' hok h
  simp only [aunmark] at h
  split at h
  ·rename_i hd
   split at h
   ·have g1:=kill_grow hok (Heap.get_lt hd)
    obtain ⟨g2,hn⟩:=ih _ _ g1.ok h
    exact ⟨g1.trans g2,by rw [hn];rfl⟩
   ·cases h
  ·cases h
theorem leaves_ok {fn:Func} {tmps:List AV} {tmps':Array Value} {xs:List AV} {R:Ending->World->Prop}:∀ (ds:List Nat) (H H':Heap) (w:World),HRel F G i H w.heap->VRels ⟨F,w.heap,i,H.n⟩ tmps tmps'.toList->
  aunmark ds H=some H'->aresults P tmps H' fn.results.toList=some xs->
  (∀ v w',HRel F G i H' w'.heap->Ext H.n F G i w F i w'->VRel ⟨F,w'.heap,i,H'.n⟩ (atuple xs) v->R (.returned v) w')->LeavesInM (W none) 0 P fn tmps' R (ds.map (mark i)) .returning w:=by
 intro ds
 induction ds with
 | nil=>
  intro H H' w hH ht h hx hR
  simp only [aunmark,Option.some.injEq] at h;subst h
  obtain ⟨v,hv,hr⟩:=results_rel (P:=P) hH ht hx
  exact ⟨v,hv,hR v w hH (Ext.refl _ _ _ _ _) hr⟩
 | cons d ds ih=>
  intro H H' w hH ht h hx hR
  simp only [aunmark] at h
  split at h
  ·rename_i hd
   split at h
   ·rename_i hlim
    obtain ⟨h1,h2⟩:=hH.shut hd hlim
    obtain ⟨o,ho,hro⟩:=hH.row d _ hd
    cases hro
    refine ⟨by simp,.inl ⟨i d,_,rfl,run_takeDeferred ho,?_⟩⟩
    refine ih _ _ _ h1 (ht.mono (h2.le (Nat.le_refl _) (Nat.le_refl _))) h hx fun v w' k1 k2 k3=>hR v w' k1 (h2.trans k2 (Nat.le_refl _)) k3
   ·cases h
  ·cases h
theorem aleave_ok {fn:Func} {yv:AV} (h:aleave P fn σ=some (yv,H')) {R:Ending->World->Prop} (hs:SRel Γ F G i σ a w)
  (hR:∀ v w',Gives F G i σ.H w yv H' v w' F i->R (.returned v) w'):LeavesInM (W none) 0 P fn a.tmps R a.defers .returning w:=by
 unfold aleave at h
 split at h
 ·rename_i H1 hu
  split at h
  ·rename_i xs hx
   simp only [Option.some.injEq,Prod.mk.injEq] at h
   obtain ⟨rfl,rfl⟩:=h
   rw [hs.defers]
   have hn:=(aunmark_grow _ _ _ hs.heap.ok hu).2
   exact leaves_ok _ _ _ _ hs.heap hs.tmps hu hx fun v w' k1 k2 k3=>hR v w' ⟨k3,k1,k2,by omega⟩
  ·cases h
 ·cases h
theorem aleave_grow {fn:Func} {yv:AV} (hok:σ.H.rev.length=σ.H.n) (h:aleave P fn σ=some (yv,H')):Grow σ.H H':=by
 unfold aleave at h
 split at h
 ·rename_i H1 hu
  split at h
  ·simp only [Option.some.injEq,Prod.mk.injEq] at h
   obtain ⟨rfl,rfl⟩:=h
   exact (aunmark_grow _ _ _ hok hu).1
  ·cases h
 ·cases h
def NoNum (P : Program) : Prop := ∀ (g : FuncId) (fn : Func), P.funcs[g]? = some fn → fn.body.isSome = true → fn.name ≠ "runtime.NumGoroutine"
theorem acall_ok (hnum:NoNum P) {run:Code->St->Option (Exit × St)} (hrun:∀ c σ e σ',run c σ=some (e,σ')->CodeOk P Γ none c σ e σ') {g:FuncId} {args:List AV} {yv:AV}
  (h:acall P run g args H=some (yv,H')):CallOk P Γ g args H yv H':=by
 unfold acall at h
 split at h
 ·rename_i fn hfn
  split at h
  ·rename_i c hc
   have both:∃ e σ,run c { tmps:=args++List.replicate (fn.ntmps-args.length) (ofV undef),H:=H,defers:=[] }=some (e,σ)/\aleave P fn σ=some (yv,H')/\(e=.normal\/e=.ret):=by
    split at h
    ·rename_i σ hr;exact ⟨_,σ,hr,h,.inl rfl⟩
    ·rename_i σ hr;exact ⟨_,σ,hr,h,.inr rfl⟩
    ·cases h
   obtain ⟨e,σ,hr,hl,he⟩:=both
   have hcode:=hrun _ _ _ _ hr
   refine ⟨fun hok=>?_,⟨fn,hfn,by simp [hc],hnum g fn hfn (by simp [hc])⟩,fun F G i w args' hH hg hargs=>?_⟩
   ·have g1:=hcode.grow hok
    exact g1.trans (aleave_grow g1.ok hl)
   ·refine callsIn_of_wp_marks hfn hc trivial ?_
    have hsz:args.length=args'.size:=by rw [hargs.1];simp
    have hs:SRel Γ F G i { tmps:=args++List.replicate (fn.ntmps-args.length) (ofV undef),H:=H,defers:=[] } { tmps:=args'++Array.replicate (fn.ntmps-args'.size) undef,defers:=[] } w:=by
     refine ⟨?_,rfl,fun r hr=>by simp at hr,hH,hg⟩
     show VRels _ _ (args'++Array.replicate (fn.ntmps-args'.size) undef).toList
     rw [Array.toList_append,Array.toList_replicate,←hsz]
     exact hargs.append (VRels.replicate (ofV_rel _ _) _)
    refine hcode.does F G i _ w _ hs (fun l h=>by cases h) fun F' i' a' w' hs' hx hle=>?_
    have:=aleave_ok (R:=Ret F G i H w yv H') hl hs' fun v w2 hgv=>⟨F',i',hgv.val,hgv.heap,hx.trans hgv.ext hle,Nat.le_trans hle hgv.le⟩
    rcases he with rfl | rfl<;>exact this
  ·cases h
 ·cases h
theorem aparams_rel {E:Env}:∀ (ts:List Tmp) (xs:List AV) (vs:List Value) (tmps:List AV) (tmps':Array Value),VRels E xs vs->VRels E tmps tmps'.toList->
  VRels E (aparams ts xs tmps) ((ts.zip vs).foldl (fun (t:Array Value) (p:Tmp × Value)=>t.setIfInBounds p.1 p.2) tmps').toList:=by
 intro ts
 induction ts with
 | nil=>intro xs vs tmps tmps' hx ht;cases xs<;>simpa [aparams] using ht
 | cons t ts ih=>
  intro xs vs tmps tmps' hx ht
  match xs,vs,hx with
  | [],[],hx=>simpa [aparams] using ht
  | [],_::_,hx=>exact absurd hx.1 (by simp)
  | _::_,[],hx=>exact absurd hx.1 (by simp)
  | x::xs,v::vs,hx=>
   simp only [aparams,List.zip_cons_cons,List.foldl_cons]
   refine ih xs vs _ _ ⟨by simpa using hx.1,fun j a b p q=>hx.2 (j+1) a b (by simpa using p) (by simpa using q)⟩ ?_
   have:=ht.set t (hx.2 0 x v rfl rfl)
   simpa using this
theorem aend_ok {r:Nat} {j:Option Code} {yv:AV} (hH:HRel F G i H w.heap) (h:aend r j H=some (yv,H')):
  ∃ v w',(Instr.endRound (i r) j).run P w=.ok v w'/\Gives F G i H w yv H' v w' F i:=by
 unfold aend at h
 split at h
 ·rename_i L hL
  split at h
  ·rename_i hlim
   simp only [Option.some.injEq,Prod.mk.injEq] at h
   obtain ⟨rfl,rfl⟩:=h
   obtain ⟨fn,t,ho,ht,hd⟩:=hH.loopAt hL
   obtain ⟨h1,h2⟩:=hH.putLoop hL hlim (if j.isNone then .ready else .done) j (fn:=fn) ht hd
   exact ⟨_,_,run_endRound j ho,.bool _,h1,h2,Nat.le_refl _⟩
  ·cases h
 ·cases h
theorem aend_grow {r:Nat} {j:Option Code} {yv:AV} (hok:H.rev.length=H.n) (h:aend r j H=some (yv,H')):Grow H H':=by
 unfold aend at h
 split at h
 ·rename_i L hL
  split at h
  ·simp only [Option.some.injEq,Prod.mk.injEq] at h
   obtain ⟨rfl,rfl⟩:=h
   exact (Turn.upd r _ _ hL).grow hok
  ·cases h
 ·cases h
def jumpOf:Exit->Option (Option Code)
 | .normal=>some none
 | .ret=>some (some .ret)
 | .exit k=>some (some (.exit k))
 | .goto k=>some (some (.goto k))
 | _=>none
theorem ayield_split {run:Nat->Code->St->Option (Exit × St)} {r:Nat} {args:List AV} {yv:AV} (h:ayield run r args H=some (yv,H')):
  ∃ L σ1 L1 e σ2 j,H.get r=some (.loop L)/\args.length=L.params.size/\run r L.assign { tmps:=aparams L.params.toList args L.tmps,H:=H,defers:=[] }=some (.normal,σ1)/\
   σ1.H.get r=some (.loop L1)/\L1.state=.ready/\σ1.H.lim<=r/\run r L.body { σ1 with H:=σ1.H.upd r (.loop { L1 with state:=.busy }) }=some (e,σ2)/\jumpOf e=some j/\aend r j σ2.H=some (yv,H'):=by
 unfold ayield at h
 split at h
 ·rename_i L hL
  split at h
  ·rename_i hargs
   split at h
   ·rename_i σ1 h1
    split at h
    ·rename_i L1 hL1
     split at h
     ·rename_i hready
      split at h
      ·rename_i hlim
       split at h
       ·rename_i σ2 h2;exact ⟨L,σ1,L1,_,σ2,_,hL,hargs,h1,hL1,hready,hlim,h2,rfl,h⟩
       ·rename_i σ2 h2;exact ⟨L,σ1,L1,_,σ2,_,hL,hargs,h1,hL1,hready,hlim,h2,rfl,h⟩
       ·rename_i k σ2 h2;exact ⟨L,σ1,L1,_,σ2,_,hL,hargs,h1,hL1,hready,hlim,h2,rfl,h⟩
       ·rename_i k σ2 h2;exact ⟨L,σ1,L1,_,σ2,_,hL,hargs,h1,hL1,hready,hlim,h2,rfl,h⟩
       ·cases h
      ·cases h
     ·cases h
    ·cases h
   ·cases h
  ·cases h
 ·cases h
theorem ayield_ok {run:Nat->Code->St->Option (Exit × St)} (hrun:∀ r c σ e σ',run r c σ=some (e,σ')->CodeOk P Γ (some r) c σ e σ') {r:Nat} {args:List AV} {yv:AV}
  (h:ayield run r args H=some (yv,H')):YieldOk P Γ r args H yv H':=by
 obtain ⟨L,σ1,L1,e,σ2,j,hL,hargs,h1,hL1,hready,hlim,h2,hj,hend⟩:=ayield_split h
 have c1:=hrun _ _ _ _ _ h1
 have c2:=hrun _ _ _ _ _ h2
 refine ⟨fun hok=>?_,fun F G i w args' hH hg hA=>?_⟩
 ·have g1:=c1.grow hok
  have g2:=(Turn.upd r _ _ hL1 (H:=σ1.H)).grow (H':=σ1.H.upd r (.loop { L1 with state:=.busy })) g1.ok
  have g3:=c2.grow g2.ok
  exact ((g1.trans g2).trans g3).trans (aend_grow g3.ok hend)
 ·obtain ⟨fn,t,ho,ht,hd⟩:=hH.loopAt hL
  have hsz:args'.size=L.params.size:=by have:=hA.1;simp at this;omega
  refine ⟨_,_,_,_,run_yield (P:=P) ho hsz,?_⟩
  refine roundIn_of_wpIn trivial ?_
  have hrl:=Heap.get_lt hL
  have hs:SRel Γ F G i { tmps:=aparams L.params.toList args L.tmps,H:=H,defers:=[] }
    { tmps:=(L.params.zip args').foldl (fun tmps (t,a)=>tmps.setIfInBounds t a) t,defers:=[] } w:=by
   refine ⟨?_,rfl,fun r hr=>by simp at hr,hH,hg⟩
   have:=aparams_rel L.params.toList args args'.toList L.tmps t hA ht
   rw [←Array.foldl_toList]
   rw [Array.toList_zip]
   exact this
  refine c1.does F G i _ w _ hs (fun l h=>by cases h;exact hrl) fun F1 i1 a1 w1 hs1 he1 hle1=>?_
  obtain ⟨fn1,t1,ho1,ht1,hd1⟩:=hs1.heap.loopAt hL1
  have hi1:i1 r=i r:=he1.same r hrl
  rw [hi1] at ho1
  refine ⟨_,run_beginRound ho1 hready,?_⟩
  obtain ⟨k1,k2⟩:=hs1.heap.putLoop hL1 hlim .busy L1.pending (fn:=fn1) ht1 hd1
  rw [hi1] at k1 k2
  have le2:Env.le ⟨F1,w1.heap,i1,σ1.H.n⟩ _:=k2.le (N':=σ1.H.n) (Nat.le_refl _) (Nat.le_refl _)
  have hs2:SRel Γ F1 G i1 { σ1 with H:=σ1.H.upd r (.loop { L1 with state:=.busy }) } a1 _:=
   ⟨hs1.tmps.mono le2,hs1.defers,hs1.dlt,k1,hs1.globs.mono le2⟩
  have hround:(W none).inRound (i r)=W ((some r).map i1):=by simp [W,Fence.inRound,hi1]
  rw [hround]
  refine c2.does F1 G i1 a1 _ _ hs2 (fun l h=>by cases h;exact Nat.lt_of_lt_of_le hrl hle1) fun F2 i2 a2 w2 hs3 he3 hle3=>?_
  have hi2:i2 r=i r:=by rw [he3.same r (Nat.lt_of_lt_of_le hrl hle1),hi1]
  obtain ⟨v,w3,hrun3,hgv⟩:=aend_ok (P:=P) hs3.heap hend
  rw [hi2] at hrun3
  have eall:=((he1.trans k2 hle1).trans he3 hle1).trans hgv.ext (Nat.le_trans hle1 hle3)
  have hret:Ret F G i H w yv H' (.returned v) w3:=⟨F2,i2,hgv.val,hgv.heap,eall,Nat.le_trans (Nat.le_trans hle1 hle3) hgv.le⟩
  cases e<;>simp only [jumpOf,Option.some.injEq,reduceCtorEq] at hj<;>subst hj<;>exact ⟨v,w3,hrun3,hret⟩
end
end Go.Abs
end
noncomputable section
namespace Go.Abs
def edgeMask (j:Nat) (acc:List Nat):List Edge->Nat->Option Nat
 | [],m=>some m
 | e::es,m=>match Region.binds .any e with
  | true=>if e.on<j then edgeMask j acc es (m|||2 ^ e.on|||acc.getD (j-1-e.on) 0) else none
  | false=>edgeMask j acc es m
def amasks:List Oper->Nat->List Nat->Option (List Nat)
 | [],_,acc=>some acc.reverse
 | o::os,j,acc=>match edgeMask j acc o.after.toList 0 with
  | some m=>amasks os (j+1) (m::acc)
  | none=>none
def acomp (Ms:List Nat) (j k:Nat):Bool:=
 if k<j then (Ms.getD j 0).testBit k else if j<k then (Ms.getD k 0).testBit j else true
def areads (Ms:List Nat) (t:Tmp) (j:Nat):List (Option Tmp)->Nat->Bool
 | [],_=>true
 | d::ds,k=>(match d with | some u=>if u==t then acomp Ms j k else true | none=>true)&&areads Ms t j ds (k+1)
def awriters (Ms:List Nat) (all:List (Option Tmp)):List (Option Tmp)->Nat->Bool
 | [],_=>true
 | d::ds,j=>(match d with | some t=>areads Ms t j all 0 | none=>true)&&awriters Ms all ds (j+1)
def rigid:AV->Bool
 | .bool _ | .int .. | .flo .. | .string _=>true
 | _=>false
structure Rec where
 o:Oper
 ρ:Operand->AV
 y:AV
 H:Heap
 add:Bool
 fl:Option (AV × List AV)
def asplit:List Nat->Nat->Nat->Nat
 | [],_,p=>p
 | m::ms,j,p=>asplit ms (j+1) (if m==2 ^ j-1 then p else j+1)
def nobit (j:Nat):List Nat->Bool
 | []=>true
 | m::ms=>!m.testBit j&&nobit j ms
def afloat (P:Program) (Ms:List Nat) (j:Nat) (o:Oper):Option AV:=
 match o.op with
 | .alloc t=>match o.guard with
  | none=>if nobit j Ms then zeroOf P t else none
  | some _=>none
 | _=>none
def afloatS (P:Program) (fs:Fns) (Ms:List Nat) (j:Nat) (o:Oper) (ρ:Operand->AV):Option (AV × List AV):=
 match o.op with
 | .buildSlice t n ps=>match o.guard with
  | none=>if nobit j Ms&&!fs.fz t then
    match abuildSlice P { rev:=[],n:=0,lim:=0 } t n (ps.toList.map fun p=>(p.1,ρ p.2)) with
    | some (y,⟨[some (.cells cs)],_,_⟩)=>if cs.all rigid then some (y,cs) else none
    | _=>none
   else none
  | some _=>none
 | _=>none
def alaid (P:Program) (fs:Fns) (Ms:List Nat) (j:Nat) (o:Oper) (ρ:Operand->AV):Option (AV × List AV):=
 match afloat P Ms j o with
 | some z=>some (.ptr 0 0,z.cells)
 | none=>afloatS P fs Ms j o ρ
def flAt:AV->Nat->AV
 | .slice _ o l e,r=>.slice r o l e
 | _,r=>.ptr r 0
def quietAt (P:Program) (o:Oper):Bool:=
 match o.op with
 | .convert s d _=>!astrBytes P s d
 | op=>quietOp op
def aalone (t:Option Tmp) (j:Nat):List (Option Tmp)->Nat->Bool
 | [],_=>true
 | d::ds,k=>(k==j||(match t,d with | some a,some b=>a != b | _,_=>true))&&aalone t j ds (k+1)
def asame:Nat->AV->AV->Bool
 | 0,_,_=>false
 | k+1,x,y=>match x,y with
  | .top,.top=>true
  | .bool a,.bool b=>a==b
  | .int q a,.int q' b=>q==q'&&a==b
  | .flo q (some a),.flo q' (some b)=>q==q'&&a==b
  | .string a,.string b=>a.data.toList==b.data.toList
  | .nilptr,.nilptr=>true
  | .ptr r o,.ptr r' o'=>r==r'&&o==o'
  | .nilslice,.nilslice=>true
  | .slice r o l e,.slice r' o' l' e'=>r==r'&&o==o'&&l==l'&&e==e'
  | .nilFunc,.nilFunc=>true
  | .nilIface,.nilIface=>true
  | .yield r,.yield r'=>r==r'
  | .map r,.map r'=>r==r'
  | .nilmap,.nilmap=>true
  | .flo q none,.flo q' none=>q==q'
  | .agg a,.agg b=>all k a b
  | .tuple a,.tuple b=>all k a b
  | .list n a,.list n' b=>n==n'&&all k a b
  | .nl n a,.nl n' b=>n==n'&&all k a b
  | .cptr a n,.cptr b n'=>n==n'&&all k a b
  | .iface t a,.iface t' b=>t==t'&&asame k a b
  | .func f a b,.func f' a' b'=>f==f'&&all k a a'&&all k b b'
  | _,_=>false
 where all (k:Nat):List AV->List AV->Bool
 | [],[]=>true
 | x::xs,y::ys=>asame k x y&&all k xs ys
 | _,_=>false
def pureOp:Op->Bool
 | .move _ | .assign _ | .pick .. | .build .. | .nilCheck _ | .binOp .. | .unOp .. | .makeInterface .. | .makeFunc .. | .fieldAddr .. | .field .. | .indexAddr .. | .index .. | .extract ..=>true
 | .call { callee:=.builtin b,.. }=>match b with
  | .len | .max | .min=>true
  | _=>false
 | _=>false
def atop (H0:Heap):List Rec->Heap
 | []=>H0
 | r::rs=>if r.add then r.H else atop H0 rs
def achain (m:Nat):List Rec->Nat->Bool
 | [],_=>true
 | r::rs,j=>(!r.add||m.testBit (j-1))&&achain m rs (j-1)
def alast (t:Tmp):List Rec->Option AV
 | []=>none
 | r::rs=>match r.o.dst with
  | some u=>if u==t then some r.y else alast t rs
  | none=>alast t rs
def arho (Γ:Globs) (Ms:List Nat) (dsts:List (Option Tmp)) (tmps:List AV) (acc:List Rec) (j:Nat):Operand->AV
 | .tmp t=>if areads Ms t j dsts 0 then match tmps[t]? with
   | some x=>match alast t acc with
    | some y=>y
    | none=>x
   | none=>.top
  else .top
 | x=>ev Γ tmps x
structure Chk where
 run:Oper->(Operand->AV)->AV->Heap->Bool
 still:Oper->(Operand->AV)->AV->Bool
instance:CoeFun Chk fun _=>Oper->(Operand->AV)->AV->Heap->Bool:=⟨Chk.run⟩
def achkAt (P:Program) (fs:Fns) (ops:Array Oper):Chk:=⟨fun o ρ y H=>quietAt P o&&(match astep P fs ops ρ H o with
 | some (y',_)=>asame 16 y y'
 | none=>false),fun _ _ _=>false⟩
def achkDown (chk:Chk) (m:Nat) (o:Oper) (ρ:Operand->AV) (y:AV) (H0:Heap):List Rec->Nat->Bool
 | [],_=>true
 | r::rs,j=>if r.add then (if m.testBit (j-1) then true else chk o ρ y (atop H0 rs)&&achkDown chk m o ρ y H0 rs (j-1)) else achkDown chk m o ρ y H0 rs (j-1)
def achkUp (chk:Chk) (m:Nat) (H:Heap):List Rec->Nat->Bool
 | [],_=>true
 | r::rs,j=>(r.add||r.fl.isSome||pureOp r.o.op||m.testBit (j-1)||chk r.o r.ρ r.y H)&&achkUp chk m H rs (j-1)
def arecC (chk:Chk) (P:Program) (Γ:Globs) (fs:Fns) (ops:Array Oper) (Ms:List Nat) (dsts:List (Option Tmp)) (σ:St):List Oper->Nat->List Rec->Option (List Rec)
 | [],_,acc=>some acc
 | o::os,j,acc=>match afloat P Ms j o with
  | some z=>match aalone o.dst j dsts 0 with
   | true=>arecC chk P Γ fs ops Ms dsts σ os (j+1) (⟨o,arho Γ Ms dsts σ.tmps acc j,.top,σ.H,false,some (.ptr 0 0,z.cells)⟩::acc)
   | false=>none
  | none=>match astep P fs ops (arho Γ Ms dsts σ.tmps acc j) (atop σ.H acc) o with
   | some (y,H')=>match quietAt P o with
    | true=>match pureOp o.op||achkDown chk (Ms.getD j 0) o (arho Γ Ms dsts σ.tmps acc j) y σ.H acc j with
     | true=>arecC chk P Γ fs ops Ms dsts σ os (j+1) (⟨o,arho Γ Ms dsts σ.tmps acc j,y,H',false,none⟩::acc)
     | false=>none
    | false=>match chk.still o (arho Γ Ms dsts σ.tmps acc j) y with
     | true=>arecC chk P Γ fs ops Ms dsts σ os (j+1) (⟨o,arho Γ Ms dsts σ.tmps acc j,y,H',false,none⟩::acc)
     | false=>match achain (Ms.getD j 0) acc j&&achkUp chk (Ms.getD j 0) H' acc j with
      | true=>arecC chk P Γ fs ops Ms dsts σ os (j+1) (⟨o,arho Γ Ms dsts σ.tmps acc j,y,H',true,none⟩::acc)
      | false=>match afloatS P fs Ms j o (arho Γ Ms dsts σ.tmps acc j) with
       | some z=>match aalone o.dst j dsts 0 with
        | true=>arecC chk P Γ fs ops Ms dsts σ os (j+1) (⟨o,arho Γ Ms dsts σ.tmps acc j,.top,σ.H,false,some z⟩::acc)
        | false=>none
       | none=>none
   | none=>none
def aputs (tmps:List AV):List Rec->List AV
 | []=>tmps
 | r::rs=>aput (aputs tmps rs) r.o.dst r.y
def alay:List Rec->List AV->Heap->List AV × Heap
 | [],tmps,H=>(tmps,H)
 | r::rs,tmps,H=>match r.fl with
  | some z=>(aput (alay rs tmps H).1 r.o.dst (flAt z.1 (alay rs tmps H).2.n),(alay rs tmps H).2.push (.cells z.2))
  | none=>alay rs tmps H
def adrawC (chk:Chk) (P:Program) (Γ:Globs) (fs:Fns) (ops:Array Oper) (σ:St):Option St:=
 match amasks ops.toList 0 [] with
 | some Ms=>
  let p:=asplit Ms 0 0
  let dsts:=(ops.toList.take p).map (·.dst)
  match awriters (Ms.take p) dsts dsts 0 with
  | true=>match arecC chk P Γ fs ops (Ms.take p) dsts σ (ops.toList.take p) 0 [] with
   | some acc=>match alay acc (aputs σ.tmps acc) (atop σ.H acc) with
    | (tmps,H)=>aops P Γ fs ops (ops.toList.drop p) { σ with tmps:=tmps,H:=H }
   | none=>none
  | false=>none
 | none=>none
def adraw (P:Program) (Γ:Globs) (fs:Fns) (ops:Array Oper) (σ:St):Option St:=adrawC (achkAt P fs ops) P Γ fs ops σ
end Go.Abs
end
noncomputable section
namespace Go.Abs
theorem edgeMask_spec {j:Nat} {acc:List Nat}:∀ (es:List Edge) (m r:Nat),edgeMask j acc es m=some r->
  (∀ e∈es,Region.binds .any e=true->e.on<j)/\
  ∀ k,r.testBit k=true↔m.testBit k=true\/∃ e∈es,Region.binds .any e=true/\(k=e.on\/(acc.getD (j-1-e.on) 0).testBit k=true):=by
 intro es
 induction es with
 | nil=>intro m r h;simp only [edgeMask,Option.some.injEq] at h;subst h;simp
 | cons e es ih=>
  intro m r h
  simp only [edgeMask] at h
  split at h
  ·rename_i hb
   split at h
   ·rename_i hlt
    obtain ⟨h1,h2⟩:=ih _ _ h
    refine ⟨fun e' he' hb'=>?_,fun k=>?_⟩
    ·rcases List.mem_cons.1 he' with rfl | he'
     ·exact hlt
     ·exact h1 e' he' hb'
    ·rw [h2 k]
     simp only [Nat.testBit_or,Bool.or_eq_true,Nat.testBit_two_pow,decide_eq_true_eq,List.mem_cons,exists_eq_or_imp,hb,true_and]
     constructor
     ·rintro (((h | h) | h) | h)
      ·exact .inl h
      ·exact .inr (.inl (.inl h.symm))
      ·exact .inr (.inl (.inr h))
      ·exact .inr (.inr h)
     ·rintro (h | (h | h) | h)
      ·exact .inl (.inl (.inl h))
      ·exact .inl (.inl (.inr h.symm))
      ·exact .inl (.inr h)
      ·exact .inr h
   ·cases h
  ·rename_i hb
   obtain ⟨h1,h2⟩:=ih _ _ h
   refine ⟨fun e' he' hb'=>?_,fun k=>?_⟩
   ·rcases List.mem_cons.1 he' with rfl | he'
    ·rw [hb] at hb';cases hb'
    ·exact h1 e' he' hb'
   ·rw [h2 k]
    simp only [List.mem_cons,exists_eq_or_imp,hb,Bool.false_eq_true,false_and,false_or]
def MaskAt (Ms:List Nat) (j:Nat) (o:Oper):Prop:=
 (∀ e∈o.after,Region.binds .any e=true->e.on<j)/\
 ∀ k,(Ms.getD j 0).testBit k=true↔∃ e∈o.after,Region.binds .any e=true/\(k=e.on\/(Ms.getD e.on 0).testBit k=true)
theorem amasks_spec:∀ (os:List Oper) (j:Nat) (acc Ms:List Nat),amasks os j acc=some Ms->acc.length=j->
  Ms.length=j+os.length/\(∀ k,k<j->Ms.getD k 0=acc.getD (j-1-k) 0)/\∀ t o,os[t]?=some o->MaskAt Ms (j+t) o:=by
 intro os
 induction os with
 | nil=>
  intro j acc Ms h hl
  simp only [amasks,Option.some.injEq] at h;subst h
  refine ⟨by simp [hl],fun k hk=>?_,fun t o h=>by simp at h⟩
  simp only [List.getD_eq_getElem?_getD]
  rw [List.getElem?_reverse (by omega),hl]
 | cons o os ih=>
  intro j acc Ms h hl
  simp only [amasks] at h
  split at h
  ·rename_i m hm
   obtain ⟨h1,h2,h3⟩:=ih (j+1) (m::acc) Ms h (by simp [hl])
   have hold:∀ k,k<j->Ms.getD k 0=acc.getD (j-1-k) 0:=by
    intro k hk
    rw [h2 k (by omega)]
    have:j+1-1-k=(j-1-k)+1:=by omega
    rw [this]
    simp
   refine ⟨by simp [h1];omega,hold,fun t o' ht=>?_⟩
   cases t with
   | zero=>
    simp only [List.getElem?_cons_zero,Option.some.injEq] at ht;subst ht
    obtain ⟨e1,e2⟩:=edgeMask_spec _ _ _ hm
    have hMj:Ms.getD j 0=m:=by rw [h2 j (by omega)];simp
    refine ⟨fun e he hb=>e1 e (by simpa using he) hb,fun k=>?_⟩
    rw [Nat.add_zero,hMj,e2 k]
    simp only [Nat.zero_testBit,Bool.false_eq_true,false_or,Array.mem_toList_iff]
    constructor
    ·rintro ⟨e,he,hb,h⟩
     refine ⟨e,he,hb,h.imp id fun h=>?_⟩
     rw [hold e.on (e1 e (by simpa using he) hb)];exact h
    ·rintro ⟨e,he,hb,h⟩
     refine ⟨e,he,hb,h.imp id fun h=>?_⟩
     rw [hold e.on (e1 e (by simpa using he) hb)] at h;exact h
   | succ t=>
    have:=h3 t o' (by simpa using ht)
    rwa [show j+1+t=j+(t+1) by omega] at this
  ·cases h
theorem asplit_spec:∀ (ms:List Nat) (j p:Nat),p<=j->asplit ms j p<=j+ms.length/\p<=asplit ms j p/\
  ∀ t m,ms[t]?=some m->asplit ms j p<=j+t->m=2 ^ (j+t)-1:=by
 intro ms
 induction ms with
 | nil=>intro j p hp;simp [asplit];exact hp
 | cons m ms ih=>
  intro j p hp
  simp only [asplit]
  by_cases hm:m=2 ^ j-1
  ·have:(m==2 ^ j-1)=true:=by simpa using hm
   simp only [this,if_true]
   obtain ⟨h1,h2,h3⟩:=ih (j+1) p (by omega)
   refine ⟨by simp;omega,h2,fun t m' ht hle=>?_⟩
   cases t with
   | zero=>simp at ht;subst ht;exact hm
   | succ t=>
    have:=h3 t m' (by simpa using ht) (by omega)
    rwa [show j+1+t=j+(t+1) by omega] at this
  ·have:(m==2 ^ j-1)=false:=by simpa using hm
   simp only [this]
   obtain ⟨h1,h2,h3⟩:=ih (j+1) (j+1) (by omega)
   simp only [Bool.false_eq_true,if_false]
   refine ⟨by simp;omega,by omega,fun t m' ht hle=>?_⟩
   cases t with
   | zero=>omega
   | succ t=>
    have:=h3 t m' (by simpa using ht) (by omega)
    rwa [show j+1+t=j+(t+1) by omega] at this
theorem areads_spec {Ms:List Nat} {t:Tmp} {j:Nat}:∀ (ds:List (Option Tmp)) (k:Nat),areads Ms t j ds k=true->∀ l,ds[l]?=some (some t)->acomp Ms j (k+l)=true:=by
 intro ds
 induction ds with
 | nil=>intro k _ l h;simp at h
 | cons d ds ih=>
  intro k h l hl
  simp only [areads,Bool.and_eq_true] at h
  cases l with
  | zero=>
   simp at hl;subst hl
   have:=h.1
   simpa using this
  | succ l=>
   have:=ih (k+1) h.2 l (by simpa using hl)
   rwa [show k+1+l=k+(l+1) by omega] at this
theorem awriters_spec {Ms:List Nat} {all:List (Option Tmp)}:∀ (ds:List (Option Tmp)) (j:Nat),awriters Ms all ds j=true->∀ l t,ds[l]?=some (some t)->areads Ms t (j+l) all 0=true:=by
 intro ds
 induction ds with
 | nil=>intro j _ l t h;simp at h
 | cons d ds ih=>
  intro j h l t hl
  simp only [awriters,Bool.and_eq_true] at h
  cases l with
  | zero=>
   simp at hl;subst hl
   exact h.1
  | succ l=>
   have:=ih (j+1) h.2 l t (by simpa using hl)
   rwa [show j+1+l=j+(l+1) by omega] at this
theorem aalone_spec {t:Tmp} {j:Nat}:∀ (ds:List (Option Tmp)) (k:Nat),aalone (some t) j ds k=true->∀ l,ds[l]?=some (some t)->k+l=j:=by
 intro ds
 induction ds with
 | nil=>intro k _ l h;simp at h
 | cons d ds ih=>
  intro k h l hl
  simp only [aalone,Bool.and_eq_true] at h
  cases l with
  | zero=>
   simp at hl;subst hl
   have:=h.1
   simpa using this
  | succ l=>
   have:=ih (k+1) h.2 l (by simpa using hl)
   omega
theorem asame_eq:∀ (k:Nat),(∀ x y:AV,asame k x y=true->x=y)/\(∀ xs ys:List AV,asame.all k xs ys=true->xs=ys):=by
 intro k
 induction k with
 | zero=>
  refine ⟨fun x y h=>by simp [asame] at h,fun xs=>?_⟩
  induction xs with
  | nil=>intro ys h;cases ys<;>simp [asame.all] at h ⊢
  | cons x xs ih=>intro ys h;cases ys<;>simp [asame.all,asame] at h
 | succ k ih=>
  have one:∀ x y:AV,asame (k+1) x y=true->x=y:=by
   intro x y h
   cases x with
   | flo k1 o1=>
    cases y with
    | flo k2 o2=>cases o1<;>cases o2<;>simp only [asame,Bool.and_eq_true,beq_iff_eq,Bool.false_eq_true,decide_eq_true_eq] at h<;>first
     | (cases h;done)
     | (subst h;rfl)
     | (obtain ⟨rfl,rfl⟩:=h;rfl)
    | _=>cases o1<;>simp [asame] at h
   | _=>
    cases y with
    | flo k2 o2=>cases o2<;>simp [asame] at h
    | _=>
     simp only [asame,Bool.and_eq_true,beq_iff_eq,Bool.false_eq_true,decide_eq_true_eq] at h<;>first
      | rfl
      | (cases h;done)
      | (subst h;rfl)
      | (obtain ⟨rfl,rfl⟩:=h;rfl)
      | (obtain ⟨⟨⟨rfl,rfl⟩,rfl⟩,rfl⟩:=h;rfl)
      | (obtain ⟨rfl,h⟩:=h;rw [ih.2 _ _ h])
      | (obtain ⟨rfl,h⟩:=h;rw [ih.1 _ _ h])
      | (obtain ⟨⟨rfl,h⟩,h'⟩:=h;rw [ih.2 _ _ h,ih.2 _ _ h'])
      | (rw [ih.2 _ _ h])
      | (rename_i a b;obtain ⟨⟨la⟩⟩:=a;obtain ⟨⟨lb⟩⟩:=b;simp only at h;subst h;rfl)
  refine ⟨one,fun xs=>?_⟩
  induction xs with
  | nil=>intro ys h;cases ys<;>simp [asame.all] at h ⊢
  | cons x xs ihx=>
   intro ys h
   cases ys with
   | nil=>simp [asame.all] at h
   | cons y ys=>
    simp only [asame.all,Bool.and_eq_true] at h
    rw [one _ _ h.1,ihx _ h.2]
end Go.Abs
end
noncomputable section
namespace Go.Abs
section
variable {P : Program} {Γ : Globs} {fs : Fns} {ops : Array Oper} {ρ : Operand → AV} {H H' : Heap} {o : Oper} {y : AV}
theorem abuiltin_pure {b:Builtin} {ts:List TypeId} {xs:List AV} (hq:b=.len\/b=.max\/b=.min) (h:abuiltin P H b ts xs=some (y,H')) (H2:Heap):abuiltin P H2 b ts xs=some (y,H2):=by
 unfold abuiltin at h ⊢
 split at h
 ·rcases hq with hq | hq | hq<;>cases hq
 ·rename_i h1 h2 h3
  split at h
  ·rename_i hy;simp only [Option.some.injEq,Prod.mk.injEq] at h;simp only [hy,h.1]
  ·cases h
 ·rcases hq with hq | hq | hq<;>cases hq
 ·rcases hq with hq | hq | hq<;>cases hq
 ·split at h
  ·rename_i hy;simp only [Option.some.injEq,Prod.mk.injEq] at h;simp only [hy,h.1]
  ·cases h
 ·split at h
  ·rename_i hy;simp only [Option.some.injEq,Prod.mk.injEq] at h;simp only [hy,h.1]
  ·cases h
 ·cases h
theorem aop_pure (hp:pureOp o.op=true) (h:aop P ρ H o=some (y,H')) (H2:Heap):aop P ρ H2 o=some (y,H2):=by
 unfold aop at h ⊢
 cases ho:o.op<;>simp only [ho,reduceCtorEq] at h ⊢
 all_goals rw [ho] at hp
 all_goals first
  | exact absurd (show false=true from hp) (by decide)
  | (rw [(v_some h).1];done)
  | (simp only [Option.some.injEq,Prod.mk.injEq] at h ⊢;exact ⟨h.1,trivial⟩)
  | skip
 case pick c a b=>
  split at h
  ·rename_i hc;simp only [Option.some.injEq,Prod.mk.injEq] at h ⊢;exact ⟨h.1,trivial⟩
  ·cases h
 case makeFunc fn a b=>
  split at h
  ·simp only [Option.some.injEq,Prod.mk.injEq] at h ⊢;exact ⟨h.1,trivial⟩
  ·cases h
 case call c=>
  obtain ⟨ce,args,ats⟩:=c
  cases ce with
  | builtin b=>
   refine abuiltin_pure ?_ h H2
   revert hp
   cases b<;>simp [pureOp]
  | _=>exact absurd (show false=true from hp) (by decide)
theorem aoper_pure (hp:pureOp o.op=true) (h:aoper P fs ρ H o=some (y,H')) (H2:Heap):aoper P fs ρ H2 o=some (y,H2):=by
 unfold aoper at h ⊢
 split at h
 ·rename_i ho;rw [ho] at hp;exact absurd (show false=true from hp) (by decide)
 ·cases h
 ·rename_i ho;rw [ho] at hp;exact absurd (show false=true from hp) (by decide)
 ·rename_i ho;rw [ho] at hp;exact absurd (show false=true from hp) (by decide)
 ·exact aop_pure hp h H2
theorem astep_pure (hp:pureOp o.op=true) (h:astep P fs ops ρ H o=some (y,H')) (H2:Heap):astep P fs ops ρ H2 o=some (y,H2):=by
 unfold astep at h ⊢
 split at h
 ·exact aoper_pure hp h H2
 ·simp only [Option.some.injEq,Prod.mk.injEq] at h ⊢;exact ⟨h.1,trivial⟩
 ·cases h
theorem aoper_quiet (hq:quietAt P o=true) (h:aoper P fs ρ H o=some (y,H')):H'=H:=by
 unfold aoper at h
 unfold quietAt at hq
 split at h
 ·rename_i ho;rw [ho] at hq;exact absurd (show false=true from hq) (by decide)
 ·cases h
 ·rename_i s d x ho
  rw [ho] at hq
  simp only at hq
  have hqq:quietOp o.op=true:=by rw [ho];rfl
  split at h
  ·split at h
   ·rename_i hs;rw [hs] at hq;cases hq
   ·exact aop_quiet hqq h
  ·exact aop_quiet hqq h
 ·rename_i ho;rw [ho] at hq;exact absurd (show false=true from hq) (by decide)
 ·rename_i h1 h2 h3 h4
  refine aop_quiet ?_ h
  split at hq
  ·rename_i s d x ho;exact absurd ho (h3 _ _ _)
  ·exact hq
theorem astep_quiet (hq:quietAt P o=true) (h:astep P fs ops ρ H o=some (y,H')):H'=H:=by
 unfold astep at h
 split at h
 ·exact aoper_quiet hq h
 ·simp only [Option.some.injEq,Prod.mk.injEq] at h;exact h.2.symm
 ·cases h
theorem achkAt_step (h:achkAt P fs ops o ρ y H=true):astep P fs ops ρ H o=some (y,H):=by
 simp only [achkAt,Bool.and_eq_true] at h
 obtain ⟨hq,h⟩:=h
 split at h
 ·rename_i y' H' hs
  have:=(asame_eq 16).1 _ _ h
  subst this
  have:=astep_quiet hq hs
  subst this
  exact hs
 ·cases h
structure ChkOk (P:Program) (fs:Fns) (ops:Array Oper) (chk:Chk):Prop where
 run:∀ o ρ y H,chk o ρ y H=true->astep P fs ops ρ H o=some (y,H)
 still:∀ o ρ y,chk.still o ρ y=true->∀ H,astep P fs ops ρ H o=some (y,H)
theorem achkAt_ok:ChkOk P fs ops (achkAt P fs ops):=⟨fun _ _ _ _ h=>achkAt_step h,fun _ _ _ h=>by cases h⟩
def GoodRec (chk:Chk) (P:Program) (Γ:Globs) (fs:Fns) (ops:Array Oper) (Ms:List Nat) (dsts:List (Option Tmp)) (σ:St) (r:Rec) (rest:List Rec):Prop:=
 ops[rest.length]?=some r.o/\
 match r.fl with
 | some z=>r.ρ=arho Γ Ms dsts σ.tmps rest rest.length/\r.y=.top/\r.add=false/\alaid P fs Ms rest.length r.o r.ρ=some z/\aalone r.o.dst rest.length dsts 0=true
 | none=>r.ρ=arho Γ Ms dsts σ.tmps rest rest.length/\∃ H',astep P fs ops r.ρ (atop σ.H rest) r.o=some (r.y,H')/\
   ((r.add=false/\((quietAt P r.o=true/\(pureOp r.o.op=true\/achkDown chk (Ms.getD rest.length 0) r.o r.ρ r.y σ.H rest rest.length=true))\/chk.still r.o r.ρ r.y=true))\/
    (r.add=true/\H'=r.H/\achain (Ms.getD rest.length 0) rest rest.length=true/\achkUp chk (Ms.getD rest.length 0) r.H rest rest.length=true))
def Good (chk:Chk) (P:Program) (Γ:Globs) (fs:Fns) (ops:Array Oper) (Ms:List Nat) (dsts:List (Option Tmp)) (σ:St):List Rec->Prop
 | []=>True
 | r::rs=>GoodRec chk P Γ fs ops Ms dsts σ r rs/\Good chk P Γ fs ops Ms dsts σ rs
variable {chk : Chk} {Ms : List Nat} {dsts : List (Option Tmp)} {σ : St}
theorem arec_good:∀ (os:List Oper) (acc R:List Rec),arecC chk P Γ fs ops Ms dsts σ os acc.length acc=some R->Good chk P Γ fs ops Ms dsts σ acc->(∀ t o,os[t]?=some o->ops[acc.length+t]?=some o)->
  Good chk P Γ fs ops Ms dsts σ R/\R.length=acc.length+os.length:=by
 intro os
 induction os with
 | nil=>intro acc R h hg _;simp only [arecC,Option.some.injEq] at h;subst h;exact ⟨hg,rfl⟩
 | cons o os ih=>
  intro acc R h hg ho
  have ho0:ops[acc.length]?=some o:=by simpa using ho 0 o rfl
  have hos:∀ (r:Rec) t o',os[t]?=some o'->ops[(r::acc).length+t]?=some o':=by
   intro r t o' ht
   have:=ho (t+1) o' (by simpa using ht)
   rwa [show acc.length+(t+1)=(r::acc).length+t by simp;omega] at this
  simp only [arecC] at h
  split at h
  ·rename_i z hz
   split at h
   ·rename_i hal
    obtain ⟨h1,h2⟩:=ih (⟨o,arho Γ Ms dsts σ.tmps acc acc.length,.top,σ.H,false,some (.ptr 0 0,z.cells)⟩::acc) R h ⟨⟨ho0,rfl,rfl,rfl,by simp only [alaid,hz],hal⟩,hg⟩ (hos _)
    exact ⟨h1,by rw [h2];simp;omega⟩
   ·cases h
  ·rename_i hfn
   split at h
   ·rename_i y H' hst
    split at h
    ·rename_i hq
     split at h
     ·rename_i hc
      obtain ⟨h1,h2⟩:=ih (⟨o,arho Γ Ms dsts σ.tmps acc acc.length,y,H',false,none⟩::acc) R h ⟨⟨ho0,rfl,H',hst,.inl ⟨rfl,.inl ⟨hq,by simpa using hc⟩⟩⟩,hg⟩ (hos _)
      exact ⟨h1,by rw [h2];simp;omega⟩
     ·cases h
    ·rename_i hq
     split at h
     ·rename_i hs
      obtain ⟨h1,h2⟩:=ih (⟨o,arho Γ Ms dsts σ.tmps acc acc.length,y,H',false,none⟩::acc) R h ⟨⟨ho0,rfl,H',hst,.inl ⟨rfl,.inr hs⟩⟩,hg⟩ (hos _)
      exact ⟨h1,by rw [h2];simp;omega⟩
     split at h
     ·rename_i hc
      simp only [Bool.and_eq_true] at hc
      obtain ⟨h1,h2⟩:=ih (⟨o,arho Γ Ms dsts σ.tmps acc acc.length,y,H',true,none⟩::acc) R h ⟨⟨ho0,rfl,H',hst,.inr ⟨rfl,rfl,hc.1,hc.2⟩⟩,hg⟩ (hos _)
      exact ⟨h1,by rw [h2];simp;omega⟩
     ·split at h
      ·rename_i z hz
       split at h
       ·rename_i hal
        obtain ⟨h1,h2⟩:=ih (⟨o,arho Γ Ms dsts σ.tmps acc acc.length,.top,σ.H,false,some z⟩::acc) R h ⟨⟨ho0,rfl,rfl,rfl,by simp only [alaid,hfn];exact hz,hal⟩,hg⟩ (hos _)
        exact ⟨h1,by rw [h2];simp;omega⟩
       ·cases h
      ·cases h
   ·cases h
def curH (H0:Heap) (S:Nat->Bool):List Rec->Heap
 | []=>H0
 | r::rs=>if r.add&&S rs.length then r.H else curH H0 S rs
def lookS (S:Nat->Bool) (t:Tmp):List Rec->Option AV
 | []=>none
 | r::rs=>match r.o.dst with
  | some u=>if u==t&&S rs.length then some r.y else lookS S t rs
  | none=>lookS S t rs
theorem achain_spec {m:Nat}:∀ (rs:List Rec),achain m rs rs.length=true->∀ pre r rest,rs=pre++r::rest->r.add=true->m.testBit rest.length=true:=by
 intro rs
 induction rs with
 | nil=>intro _ pre r rest h;simp at h
 | cons r0 rs ih=>
  intro h pre r rest he hr
  simp only [achain,List.length_cons,Nat.add_sub_cancel,Bool.and_eq_true,Bool.or_eq_true,Bool.not_eq_true'] at h
  cases pre with
  | nil=>
   simp only [List.nil_append,List.cons.injEq] at he
   obtain ⟨rfl,rfl⟩:=he
   rcases h.1 with h1 | h1
   ·rw [hr] at h1;cases h1
   ·exact h1
  | cons p pre=>
   simp only [List.cons_append,List.cons.injEq] at he
   exact ih h.2 pre r rest he.2 hr
theorem achkUp_spec {m:Nat}:∀ (rs:List Rec),achkUp chk m H rs rs.length=true->∀ pre r rest,rs=pre++r::rest->r.add=false->r.fl=none->pureOp r.o.op=false->m.testBit rest.length=false->
  chk r.o r.ρ r.y H=true:=by
 intro rs
 induction rs with
 | nil=>intro _ pre r rest h;simp at h
 | cons r0 rs ih=>
  intro h pre r rest he h1 h2 h3 h4
  simp only [achkUp,List.length_cons,Nat.add_sub_cancel,Bool.and_eq_true,Bool.or_eq_true] at h
  cases pre with
  | nil=>
   simp only [List.nil_append,List.cons.injEq] at he
   obtain ⟨rfl,rfl⟩:=he
   rcases h.1 with (((h5 | h5) | h5) | h5) | h5
   ·rw [h1] at h5;cases h5
   ·rw [h2] at h5;cases h5
   ·rw [h3] at h5;cases h5
   ·rw [h4] at h5;cases h5
   ·exact h5
  | cons p pre=>
   simp only [List.cons_append,List.cons.injEq] at he
   exact ih h.2 pre r rest he.2 h1 h2 h3 h4
theorem achkDown_spec (hk:ChkOk P fs ops chk) {m:Nat} {S:Nat->Bool} {H0:Heap} (hm:∀ l,m.testBit l=true->S l=true):∀ (rs:List Rec),achkDown chk m o ρ y H0 rs rs.length=true->
  astep P fs ops ρ (atop H0 rs) o=some (y,atop H0 rs)->astep P fs ops ρ (curH H0 S rs) o=some (y,curH H0 S rs):=by
 intro rs
 induction rs with
 | nil=>intro _ h;exact h
 | cons r rs ih=>
  intro h hb
  simp only [achkDown,List.length_cons,Nat.add_sub_cancel] at h
  simp only [curH]
  cases hadd:r.add with
  | false=>
   simp only [hadd,Bool.false_eq_true,if_false,Bool.false_and] at h ⊢
   refine ih h ?_
   simpa only [atop,hadd,Bool.false_eq_true,if_false] using hb
  | true=>
   simp only [hadd,if_true,Bool.true_and] at h ⊢
   cases hS:S rs.length with
   | true=>
    simp only [if_true]
    simpa only [atop,hadd,if_true] using hb
   | false=>
    have hbit:m.testBit rs.length=false:=by
     cases hb:m.testBit rs.length with
     | false=>rfl
     | true=>rw [hm _ hb] at hS;cases hS
    simp only [hbit,Bool.false_eq_true,if_false,Bool.and_eq_true] at h ⊢
    exact ih h.2 (hk.run _ _ _ _ h.1)
structure Closed (Ms:List Nat) (S:Nat->Bool):Prop where
 down:∀ j k,S j=true->(Ms.getD j 0).testBit k=true->S k=true
theorem curH_all {H0:Heap} {S:Nat->Bool}:∀ (rs:List Rec),(∀ pre r rest,rs=pre++r::rest->r.add=true->S rest.length=true)->curH H0 S rs=atop H0 rs:=by
 intro rs
 induction rs with
 | nil=>intro _;rfl
 | cons r rs ih=>
  intro h
  simp only [curH,atop]
  cases hadd:r.add with
  | false=>
   simp only [Bool.false_and,Bool.false_eq_true,if_false]
   exact ih fun pre r' rest he hr=>h (r::pre) r' rest (by simp [he]) hr
  | true=>simp [h [] r rs rfl hadd]
theorem curH_add {S:Nat->Bool} (hc:Closed Ms S) {R:List Rec} (hg:Good chk P Γ fs ops Ms dsts σ R):∀ (pre:List Rec) {r:Rec} {rest:List Rec},R=pre++r::rest->r.add=true->S rest.length=false->
  (∀ k,(Ms.getD rest.length 0).testBit k=true->S k=true)->curH σ.H S R=atop σ.H rest/\curH σ.H (fun k=>k==rest.length||S k) R=r.H:=by
 intro pre
 induction pre generalizing R with
 | nil=>
  intro r rest he hadd hS hanc
  subst he
  obtain ⟨hr,hgr⟩:=hg
  have hfl:r.fl=none:=by
   obtain ⟨_,h⟩:=hr
   cases hfl:r.fl with
   | none=>rfl
   | some z=>simp only [hfl] at h;rw [h.2.2.1] at hadd;cases hadd
  obtain ⟨_,h⟩:=hr
  simp only [hfl] at h
  obtain ⟨_,H',_,h⟩:=h
  rcases h with ⟨h,_⟩ | ⟨_,_,hch,_⟩
  ·rw [hadd] at h;cases h
  constructor
  ·simp only [List.nil_append,curH,hadd,hS,Bool.and_false,Bool.false_eq_true,if_false]
   exact curH_all rest fun pre r' rest' he hr'=>hanc _ (achain_spec rest hch pre r' rest' he hr')
  ·simp [curH,hadd]
 | cons p pre ih=>
  intro r rest he hadd hS hanc
  subst he
  obtain ⟨hp,hgr⟩:=hg
  have hlen:(pre++r::rest).length≠rest.length:=by simp;omega
  have hnot:p.add=true->S (pre++r::rest).length=false:=by
   intro hpa
   have hfl:p.fl=none:=by
    obtain ⟨_,h⟩:=hp
    cases hfl:p.fl with
    | none=>rfl
    | some z=>simp only [hfl] at h;rw [h.2.2.1] at hpa;cases hpa
   obtain ⟨_,h⟩:=hp
   simp only [hfl] at h
   obtain ⟨_,H',_,h⟩:=h
   rcases h with ⟨h,_⟩ | ⟨_,_,hch,_⟩
   ·rw [hpa] at h;cases h
   have hbit:=achain_spec _ hch pre r rest rfl hadd
   cases hSp:S (pre++r::rest).length with
   | false=>rfl
   | true=>rw [hc.down _ _ hSp hbit] at hS;cases hS
  obtain ⟨i1,i2⟩:=ih hgr rfl hadd hS hanc
  constructor
  ·simp only [List.cons_append,curH]
   cases hpa:p.add with
   | false=>simp only [Bool.false_and,Bool.false_eq_true,if_false];exact i1
   | true=>
    have hn:=hnot hpa
    simp only [hn,Bool.and_false,Bool.false_eq_true,if_false];exact i1
  ·simp only [List.cons_append,curH]
   cases hpa:p.add with
   | false=>simp only [Bool.false_and,Bool.false_eq_true,if_false];exact i2
   | true=>
    have:((pre++r::rest).length==rest.length||S (pre++r::rest).length)=false:=by
     rw [hnot hpa,Bool.or_false];exact beq_eq_false_iff_ne.2 hlen
    simp only [this,Bool.and_false,Bool.false_eq_true,if_false];exact i2
theorem curH_quiet (hk:ChkOk P fs ops chk) {S:Nat->Bool} (hc:Closed Ms S) {R:List Rec} (hg:Good chk P Γ fs ops Ms dsts σ R):∀ (pre:List Rec) {r:Rec} {rest:List Rec},R=pre++r::rest->r.fl=none->r.add=false->S rest.length=false->
  (∀ k,(Ms.getD rest.length 0).testBit k=true->S k=true)->astep P fs ops r.ρ (curH σ.H S R) r.o=some (r.y,curH σ.H S R):=by
 intro pre
 induction pre generalizing R with
 | nil=>
  intro r rest he hfl hadd hS hanc
  subst he
  obtain ⟨⟨_,h⟩,hgr⟩:=hg
  simp only [hfl] at h
  obtain ⟨_,H',hst,h⟩:=h
  rcases h with ⟨_,h⟩ | ⟨h,_⟩
  ·simp only [List.nil_append,curH,hadd,Bool.false_and,Bool.false_eq_true,if_false]
   rcases h with ⟨hq,h | h⟩ | h
   ·exact astep_pure h hst _
   ·have:=astep_quiet hq hst
    subst this
    exact achkDown_spec hk hanc rest h hst
   ·exact hk.still _ _ _ h _
  ·rw [hadd] at h;cases h
 | cons p pre ih=>
  intro r rest he hfl hadd hS hanc
  subst he
  obtain ⟨hp,hgr⟩:=hg
  simp only [List.cons_append,curH]
  cases hpa:p.add with
  | false=>simp only [Bool.false_and,Bool.false_eq_true,if_false];exact ih hgr rfl hfl hadd hS hanc
  | true=>
   cases hSp:S (pre++r::rest).length with
   | false=>simp only [Bool.and_false,Bool.false_eq_true,if_false];exact ih hgr rfl hfl hadd hS hanc
   | true=>
    simp only [Bool.and_self,if_true]
    have hpfl:p.fl=none:=by
     obtain ⟨_,h⟩:=hp
     cases hfl:p.fl with
     | none=>rfl
     | some z=>simp only [hfl] at h;rw [h.2.2.1] at hpa;cases hpa
    obtain ⟨_,h⟩:=hp
    simp only [hpfl] at h
    obtain ⟨_,H',_,h⟩:=h
    rcases h with ⟨h,_⟩ | ⟨_,_,_,hup⟩
    ·rw [hpa] at h;cases h
    cases hpure:pureOp r.o.op with
    | true=>
     exact astep_pure hpure (ih hgr rfl hfl hadd hS hanc) _
    | false=>
     refine hk.run _ _ _ _ (achkUp_spec _ hup pre r rest rfl hadd hfl hpure ?_)
     cases hb:(Ms.getD (pre++r::rest).length 0).testBit rest.length with
     | false=>rfl
     | true=>rw [hc.down _ _ hSp hb] at hS;cases hS
end
end Go.Abs
end
noncomputable section
namespace Go.Abs
section
variable {P : Program} {Γ : Globs} {fs : Fns} {ops : Array Oper} {Ms : List Nat} {dsts : List (Option Tmp)} {σ : St} {F G : Nat → Prop} {i : Nat → Nat} {a : Act} {w : World}
def DstsOk (dsts:List (Option Tmp)) (R:List Rec):Prop:=∀ pre r rest,R=pre++r::rest->dsts[rest.length]?=some r.o.dst
theorem lookS_all {S:Nat->Bool} {t:Tmp}:∀ (rs:List Rec),(∀ pre r rest,rs=pre++r::rest->r.o.dst=some t->S rest.length=true)->lookS S t rs=alast t rs:=by
 intro rs
 induction rs with
 | nil=>intro _;rfl
 | cons r rs ih=>
  intro h
  have hi:=ih fun pre r' rest he hr=>h (r::pre) r' rest (by simp [he]) hr
  cases hu:r.o.dst with
  | none=>simp only [lookS,alast,hu];exact hi
  | some u=>
   simp only [lookS,alast,hu]
   by_cases e:u=t
   ·subst e
    have:=h [] r rs rfl hu
    simp [this]
   ·simp [e,hi]
theorem acomp_lt {j k:Nat} (h:acomp Ms j k=true) (hk:k<j):(Ms.getD j 0).testBit k=true:=by
 unfold acomp at h;rw [if_pos hk] at h;exact h
theorem acomp_gt {j k:Nat} (h:acomp Ms j k=true) (hk:j<k):(Ms.getD k 0).testBit j=true:=by
 unfold acomp at h;rw [if_neg (by omega),if_pos hk] at h;exact h
theorem lookS_read {S:Nat->Bool} (hc:Closed Ms S) {t:Tmp}:∀ (pre:List Rec) {R:List Rec} {r:Rec} {rest:List Rec},DstsOk dsts R->R=pre++r::rest->S rest.length=false->
  (∀ k,(Ms.getD rest.length 0).testBit k=true->S k=true)->areads Ms t rest.length dsts 0=true->lookS S t R=alast t rest:=by
 intro pre
 induction pre with
 | nil=>
  intro R r rest hd he hS hanc hr
  subst he
  have h1:lookS S t rest=alast t rest:=lookS_all rest fun pre' r' rest' he' hr'=>by
   have hk:=hd (r::pre') r' rest' (by simp [he'])
   rw [hr'] at hk
   have:=areads_spec _ _ hr _ hk
   rw [Nat.zero_add] at this
   exact hanc _ (acomp_lt this (by rw [he'];simp;omega))
  simp only [List.nil_append,lookS,hS,Bool.and_false,Bool.false_eq_true,if_false]
  split<;>exact h1
 | cons p pre ih=>
  intro R r rest hd he hS hanc hr
  subst he
  have h1:=ih (R:=pre++r::rest) (r:=r) (rest:=rest) (fun pre' r' rest' he'=>hd (p::pre') r' rest' (by simp [he'])) rfl hS hanc hr
  simp only [List.cons_append,lookS]
  split
  ·rename_i u hu
   by_cases e:u=t
   ·subst e
    have hk:=hd [] p (pre++r::rest) rfl
    rw [hu] at hk
    have:=areads_spec _ _ hr _ hk
    rw [Nat.zero_add] at this
    have hb:=acomp_gt this (by simp;omega)
    cases hSp:S (pre++r::rest).length with
    | false=>simp only [Bool.and_false,Bool.false_eq_true,if_false];exact h1
    | true=>rw [hc.down _ _ hSp hb] at hS;cases hS
   ·have:(u==t)=false:=by simpa using e
    simp only [this,Bool.false_and,Bool.false_eq_true,if_false];exact h1
  ·exact h1
theorem lookS_new {S:Nat->Bool} (hc:Closed Ms S) (hw:awriters Ms dsts dsts 0=true) {t:Tmp}:∀ (pre:List Rec) {R:List Rec} {r:Rec} {rest:List Rec},DstsOk dsts R->R=pre++r::rest->S rest.length=false->
  (r.o.dst=some t->lookS (fun k=>k==rest.length||S k) t R=some r.y)/\(r.o.dst≠some t->lookS (fun k=>k==rest.length||S k) t R=lookS S t R):=by
 intro pre
 induction pre with
 | nil=>
  intro R r rest hd he hS
  subst he
  have rest_same:∀ (rs:List Rec),rs.length<=rest.length->lookS (fun k=>k==rest.length||S k) t rs=lookS S t rs:=by
   intro rs
   induction rs with
   | nil=>intro _;rfl
   | cons q rs ihr=>
    intro hl
    have hl':rs.length≠rest.length:=by simp at hl;omega
    have hb:(rs.length==rest.length)=false:=beq_eq_false_iff_ne.2 hl'
    simp only [lookS,hb,Bool.false_or,ihr (by simp at hl;omega)]
  refine ⟨fun h=>?_,fun h=>?_⟩
  ·simp [lookS,h]
  ·simp only [List.nil_append,lookS]
   split
   ·rename_i u hu
    have:(u==t)=false:=by
     refine beq_eq_false_iff_ne.2 ?_
     rintro rfl
     exact h hu
    simp only [this,Bool.false_and,Bool.false_eq_true,if_false]
    exact rest_same rest (Nat.le_refl _)
   ·exact rest_same rest (Nat.le_refl _)
 | cons p pre ih=>
  intro R r rest hd he hS
  subst he
  have hd':DstsOk dsts (pre++r::rest):=fun pre' r' rest' he'=>hd (p::pre') r' rest' (by simp [he'])
  obtain ⟨i1,i2⟩:=ih (R:=pre++r::rest) (r:=r) (rest:=rest) hd' rfl hS
  have hne:((pre++r::rest).length==rest.length)=false:=beq_eq_false_iff_ne.2 (by simp;omega)
  refine ⟨fun h=>?_,fun h=>?_⟩
  ·simp only [List.cons_append,lookS,hne,Bool.false_or]
   split
   ·rename_i u hu
    by_cases e:u=t
    ·subst e
     have hj:=hd' pre r rest rfl
     rw [h] at hj
     have hr:=awriters_spec _ _ hw _ _ hj
     rw [Nat.zero_add] at hr
     have hk:=hd [] p (pre++r::rest) rfl
     rw [hu] at hk
     have:=areads_spec _ _ hr _ hk
     rw [Nat.zero_add] at this
     have hb:=acomp_gt this (by simp;omega)
     cases hSp:S (pre++r::rest).length with
     | false=>simp only [Bool.and_false,Bool.false_eq_true,if_false];exact i1 h
     | true=>rw [hc.down _ _ hSp hb] at hS;cases hS
    ·have:(u==t)=false:=by simpa using e
     simp only [this,Bool.false_and,Bool.false_eq_true,if_false];exact i1 h
   ·exact i1 h
  ·simp only [List.cons_append,lookS,hne,Bool.false_or,i2 h]
def ValOk (E:Env) (S:Nat->Bool) (R:List Rec) (tmps:List AV) (a:Act):Prop:=
 a.tmps.size=tmps.length/\∀ t v,a.tmps[t]?=some v->match lookS S t R with
  | some y=>VRel E y v
  | none=>∀ x,tmps[t]?=some x->VRel E x v
theorem ValOk.mono {E E':Env} (le:E.le E') {S:Nat->Bool} {R:List Rec} {tmps:List AV} (h:ValOk E S R tmps a):ValOk E' S R tmps a:=by
 refine ⟨h.1,fun t v hv=>?_⟩
 have:=h.2 t v hv
 cases hl:lookS S t R with
 | some y=>rw [hl] at this;exact this.mono le
 | none=>rw [hl] at this;exact fun x hx=>(this x hx).mono le
theorem ValOk.eval {E:Env} {S:Nat->Bool} (hc:Closed Ms S) {pre:List Rec} {R:List Rec} {r:Rec} {rest:List Rec} (hd:DstsOk dsts R) (he:R=pre++r::rest) (hS:S rest.length=false)
  (hanc:∀ k,(Ms.getD rest.length 0).testBit k=true->S k=true) (h:ValOk E S R σ.tmps a) (hev:∀ x,(∀ t,x≠.tmp t)->VRel E (ev Γ σ.tmps x) (a.eval x)) (x:Operand):
  VRel E (arho Γ Ms dsts σ.tmps rest rest.length x) (a.eval x):=by
 cases x with
 | tmp t=>
  simp only [arho,Act.eval]
  cases hr:areads Ms t rest.length dsts 0 with
  | false=>simp only [Bool.false_eq_true,if_false];exact .top _
  | true=>
   simp only [if_true]
   cases ht:σ.tmps[t]? with
   | none=>exact .top _
   | some x0=>
    have hlt:t<a.tmps.size:=by rw [h.1];exact (List.getElem?_eq_some_iff.1 ht).1
    have hv:a.tmps[t]?=some a.tmps[t]:=Array.getElem?_eq_getElem hlt
    have hd2:a.tmps.getD t undef=a.tmps[t]:=by rw [Array.getD_eq_getD_getElem?,hv];rfl
    rw [hd2]
    have:=h.2 t _ hv
    rw [lookS_read hc pre hd he hS hanc hr] at this
    cases hl:alast t rest with
    | some y=>rw [hl] at this;exact this
    | none=>rw [hl] at this;exact this x0 ht
 | const v=>exact hev (.const v) (fun t h=>by cases h)
 | global g=>exact hev (.global g) (fun t h=>by cases h)
 | func f=>exact hev (.func f) (fun t h=>by cases h)
theorem ValOk.put {E:Env} {S:Nat->Bool} (hc:Closed Ms S) (hw:awriters Ms dsts dsts 0=true) {pre:List Rec} {R:List Rec} {r:Rec} {rest:List Rec} (hd:DstsOk dsts R) (he:R=pre++r::rest) (hS:S rest.length=false)
  (h:ValOk E S R σ.tmps a) {v:Value} (hv:VRel E r.y v):ValOk E (fun k=>k==rest.length||S k) R σ.tmps (a.put r.o.dst v):=by
 have hsz:(a.put r.o.dst v).tmps.size=a.tmps.size:=by
  unfold Act.put;split<;>simp
 refine ⟨hsz.trans h.1,fun t u hu=>?_⟩
 obtain ⟨h1,h2⟩:=lookS_new (dsts:=dsts) hc hw (t:=t) pre hd he hS
 by_cases hdst:r.o.dst=some t
 ·rw [h1 hdst]
  have e:(a.put r.o.dst v).tmps=a.tmps.setIfInBounds t v:=by rw [hdst];rfl
  rw [e,Array.getElem?_setIfInBounds,if_pos rfl] at hu
  split at hu
  ·simp only [Option.some.injEq] at hu;subst hu;exact hv
  ·cases hu
 ·rw [h2 hdst]
  refine h.2 t u ?_
  unfold Act.put at hu
  split at hu
  ·rename_i d hd'
   simp only [Array.getElem?_setIfInBounds] at hu
   rw [if_neg (by rintro rfl;exact hdst hd')] at hu
   exact hu
  ·exact hu
end
end Go.Abs
end
noncomputable section
namespace Go.Abs
section
variable {P : Program} {Γ : Globs} {fs : Fns} {ops : Array Oper} {Ms : List Nat} {dsts : List (Option Tmp)} {σ : St} {F G : Nat → Prop} {i : Nat → Nat} {a : Act} {w : World} {H : Heap}
theorem recs_inj {R pre pre' rest rest':List Rec} {r r':Rec} (h:R=pre++r::rest) (h':R=pre'++r'::rest') (hl:rest.length=rest'.length):r=r'/\rest=rest':=by
 have:=List.append_inj' (h.symm.trans h') (by simp [hl])
 have:=this.2
 simp only [List.cons.injEq] at this
 exact this
theorem curH_below {H0:Heap} {S:Nat->Bool} {j:Nat}:∀ (rs:List Rec),rs.length<=j->curH H0 (fun k=>k==j||S k) rs=curH H0 S rs:=by
 intro rs
 induction rs with
 | nil=>intro _;rfl
 | cons q rs ih=>
  intro hl
  have hb:(rs.length==j)=false:=beq_eq_false_iff_ne.2 (by simp at hl;omega)
  simp only [curH,hb,Bool.false_or,ih (by simp at hl;omega)]
theorem curH_same {H0:Heap} {S:Nat->Bool}:∀ (pre:List Rec) {R:List Rec} {r:Rec} {rest:List Rec},R=pre++r::rest->r.add=false->curH H0 (fun k=>k==rest.length||S k) R=curH H0 S R:=by
 intro pre
 induction pre with
 | nil=>
  intro R r rest he ha
  subst he
  simp only [List.nil_append,curH,ha,Bool.false_and,Bool.false_eq_true,if_false]
  exact curH_below rest (Nat.le_refl _)
 | cons p pre ih=>
  intro R r rest he ha
  subst he
  have hne:((pre++r::rest).length==rest.length)=false:=beq_eq_false_iff_ne.2 (by simp;omega)
  simp only [List.cons_append,curH,hne,Bool.false_or,ih rfl ha]
theorem Ext.subG {K:Nat} {F F' G G':Nat->Prop} {i i':Nat->Nat} {w w':World} (h:Ext K F G' i w F' i' w') (hg:∀ b,G b->G' b):Ext K F G i w F' i' w':=
 { h with keep:=fun b hb=>h.keep b (hb.imp id (hg b)) }
theorem HRel.allocG (hH:HRel F G i H w.heap) (o:Obj):HRel F (fun b=>G b\/b=w.heap.size) i H (w.alloc o).heap:=by
 have old:∀ b,b<w.heap.size->(w.alloc o).heap[b]?=w.heap[b]?:=fun b hb=>by
  simp only [World.alloc,Array.getElem?_push];rw [if_neg (by omega)]
 have lt:∀ (r:Nat) (ro:ARow),H.get r=some ro->i r<w.heap.size:=fun r ro h=>by
  obtain ⟨o',ho,_⟩:=hH.row r ro h
  exact (Array.getElem?_eq_some_iff.1 ho).1
 have le:Env.le ⟨F,w.heap,i,H.n⟩ ⟨F,(w.alloc o).heap,i,H.n⟩:=
  ⟨fun _ h=>h,fun b hb=>old b (hH.old b (.inl hb)),Nat.le_refl _,fun _ _=>rfl,fun b c e z hc=>⟨c,e,z,by rw [old b (Array.getElem?_eq_some_iff.1 hc).1];exact hc,Nat.le_refl _⟩⟩
 refine ⟨fun r row hr=>?_,fun r row hr=>⟨(hH.out r row hr).1,fun hg=>?_⟩,hH.inj,fun b hb=>?_,fun b hb hg=>?_,hH.ok⟩
 ·obtain ⟨o',ho,hrel⟩:=hH.row r row hr
  exact ⟨o',by rw [old _ (lt r row hr)];exact ho,hrel.mono le⟩
 ·rcases hg with hg | hg
  ·exact (hH.out r row hr).2 hg
  ·have:=lt r row hr;omega
 ·simp only [World.size_alloc]
  rcases hb with hb | hb | hb
  ·have:=hH.old b (.inl hb);omega
  ·have:=hH.old b (.inr hb);omega
  ·omega
 ·rcases hg with hg | hg
  ·exact hH.apart b hb hg
  ·have:=hH.old b (.inl hb);omega
def flV:AV->Nat->Value
 | .slice _ _ l _,b=>.slice (some ⟨b,0,none⟩) l l
 | _,b=>.pointer (some ⟨b,0,none⟩)
def flFits (z:AV × List AV):Prop:=
 match z.1 with
 | .slice _ o l e=>o=0/\l*e<=z.2.length
 | _=>True
def Pend (R:List Rec) (S:Nat->Bool) (pend:Nat->Nat) (b:Nat):Prop:=∃ pre r rest,R=pre++r::rest/\r.fl.isSome=true/\S rest.length=true/\b=pend rest.length
structure PendOk (G:Nat->Prop) (R:List Rec) (S:Nat->Bool) (pend:Nat->Nat) (a:Act) (w:World):Prop where
 obj:∀ pre r rest z,R=pre++r::rest->r.fl=some z->S rest.length=true->flFits z/\∃ o,w.heap[pend rest.length]?=some o/\∀ E,RowRel E (.cells z.2) o
 tmp:∀ pre r rest z,R=pre++r::rest->r.fl=some z->S rest.length=true->∀ t v,r.o.dst=some t->a.tmps[t]?=some v->v=flV z.1 (pend rest.length)
 inj:∀ pre r rest pre' r' rest',R=pre++r::rest->R=pre'++r'::rest'->r.fl.isSome=true->r'.fl.isSome=true->S rest.length=true->S rest'.length=true->pend rest.length=pend rest'.length->rest.length=rest'.length
 out:∀ pre r rest,R=pre++r::rest->r.fl.isSome=true->S rest.length=true->¬ G (pend rest.length)
structure InvA (Γ:Globs) (Ms:List Nat) (σ:St) (R:List Rec) (F0 F G:Nat->Prop) (i0:Nat->Nat) (w0:World) (S:Nat->Bool) (pend i:Nat->Nat) (a:Act) (w:World):Prop where
 closed:Closed Ms S
 inA:∀ k,S k=true->k<R.length
 heap:HRel F (fun b=>G b\/Pend R S pend b) i (curH σ.H S R) w.heap
 val:ValOk ⟨F,w.heap,i,(curH σ.H S R).n⟩ S R σ.tmps a
 defers:a.defers=σ.defers.map (mark i0)
 globs:GlobsOk Γ F w.heap i (curH σ.H S R).n
 ext:Ext σ.H.n F0 G i0 w0 F i w
 le:σ.H.n<=(curH σ.H S R).n
 pend:PendOk G R S pend a w
theorem Closed.more {S:Nat->Bool} (hc:Closed Ms S) {j:Nat} (hanc:∀ k,(Ms.getD j 0).testBit k=true->S k=true):Closed Ms (fun k=>k==j||S k):=by
 refine ⟨fun l k hl hb=>?_⟩
 simp only [Bool.or_eq_true,beq_iff_eq] at hl ⊢
 rcases hl with rfl | hl
 ·exact .inr (hanc k hb)
 ·exact .inr (hc.down l k hl hb)
theorem ev_const (hg:GlobsOk Γ F w.heap i H.n) (tmps:List AV) (x:Operand) (hx:∀ t,x≠.tmp t):VRel ⟨F,w.heap,i,H.n⟩ (ev Γ tmps x) (a.eval x):=by
 have h:=ev_rel (Γ:=Γ) (F:=F) (h:=w.heap) (i:=i) (N:=H.n) (tmps:=[]) (a:={ tmps:=#[],defers:=[] }) (by simpa using VRels.nil) hg x
 cases x with
 | tmp t=>exact absurd rfl (hx t)
 | const v=>exact h
 | global g=>exact h
 | func f=>exact h
variable {R : List Rec} {F0 : Nat → Prop} {i0 : Nat → Nat} {w0 : World} {S : Nat → Bool} {pend : Nat → Nat}
theorem InvA.step (hI:InvA Γ Ms σ R F0 F G i0 w0 S pend i a w) (hd:DstsOk dsts R) (hw:awriters Ms dsts dsts 0=true) {pre:List Rec} {r:Rec} {rest:List Rec} (he:R=pre++r::rest) (hS:S rest.length=false)
  (hanc:∀ k,(Ms.getD rest.length 0).testBit k=true->S k=true) (hfl:r.fl=none) (hal:∀ pre' r' rest',R=pre'++r'::rest'->r'.fl.isSome=true->aalone r'.o.dst rest'.length dsts 0=true)
  {v:Value} {w':World} {F':Nat->Prop} {i':Nat->Nat} {H':Heap} (hcur:curH σ.H (fun k=>k==rest.length||S k) R=H') (hgv:Gives F (fun b=>G b\/Pend R S pend b) i (curH σ.H S R) w r.y H' v w' F' i'):
  InvA Γ Ms σ R F0 F' G i0 w0 (fun k=>k==rest.length||S k) pend i' (a.put r.o.dst v) w':=by
 have other:∀ pre' r' rest',R=pre'++r'::rest'->r'.fl.isSome=true->(rest'.length==rest.length||S rest'.length)=true->S rest'.length=true:=by
  intro pre' r' rest' he' hf' hs'
  simp only [Bool.or_eq_true,beq_iff_eq] at hs'
  rcases hs' with h | h
  ·have:=(recs_inj he' he h).1
   subst this
   rw [hfl] at hf';cases hf'
  ·exact h
 have hpe:(fun b=>G b\/Pend R (fun k=>k==rest.length||S k) pend b)=(fun b=>G b\/Pend R S pend b):=by
  funext b
  refine propext (or_congr Iff.rfl ⟨?_,?_⟩)
  ·rintro ⟨p',r',rs',h1,h2,h3,h4⟩
   exact ⟨p',r',rs',h1,h2,other _ _ _ h1 h2 h3,h4⟩
  ·rintro ⟨p',r',rs',h1,h2,h3,h4⟩
   exact ⟨p',r',rs',h1,h2,by simp [h3],h4⟩
 have le:Env.le ⟨F,w.heap,i,(curH σ.H S R).n⟩ ⟨F',w'.heap,i',H'.n⟩:=hgv.ext.le (Nat.le_refl _) hgv.le
 refine ⟨hI.closed.more hanc,?_,?_,?_,?_,?_,?_,?_,?_⟩
 ·intro k hk
  simp only [Bool.or_eq_true,beq_iff_eq] at hk
  rcases hk with rfl | hk
  ·rw [he];simp;omega
  ·exact hI.inA k hk
 ·rw [hpe,hcur];exact hgv.heap
 ·rw [hcur]
  exact (hI.val.mono le).put hI.closed hw hd he hS hgv.val
 ·rw [put_defers];exact hI.defers
 ·rw [hcur];exact hI.globs.mono le
 ·exact hI.ext.trans (hgv.ext.subG fun b h=>.inl h) hI.le
 ·rw [hcur];exact Nat.le_trans hI.le hgv.le
 ·refine ⟨fun pre' r' rest' z he' hf' hs'=>?_,fun pre' r' rest' z' he' hf' hs' t u ht hu=>?_,fun p1 r1 s1 p2 r2 s2 e1 e2 f1 f2 h1 h2 h=>?_,fun pre' r' rest' he' hf' hs'=>?_⟩
  ·have hS':=other _ _ _ he' (by simp [hf']) hs'
   obtain ⟨hfit,o,ho,hr⟩:=hI.pend.obj _ _ _ _ he' hf' hS'
   refine ⟨hfit,o,?_,hr⟩
   rw [hgv.ext.keep _ (.inr (.inr ⟨pre',r',rest',he',by simp [hf'],hS',rfl⟩))]
   exact ho
  ·have hS':=other _ _ _ he' (by simp [hf']) hs'
   refine hI.pend.tmp _ _ _ _ he' hf' hS' t u ht ?_
   have hne:r.o.dst≠some t:=by
    intro hrt
    have h1:=hal _ _ _ he' (by simp [hf'])
    rw [ht] at h1
    have h2:=hd _ _ _ he
    rw [hrt] at h2
    have:=aalone_spec _ _ h1 _ h2
    have:=(recs_inj he he' (by omega)).1
    subst this
    rw [hfl] at hf';cases hf'
   unfold Act.put at hu
   split at hu
   ·rename_i d hd'
    simp only [Array.getElem?_setIfInBounds] at hu
    rw [if_neg (by rintro rfl;exact hne hd')] at hu
    exact hu
   ·exact hu
  ·exact hI.pend.inj _ _ _ _ _ _ e1 e2 f1 f2 (other _ _ _ e1 f1 h1) (other _ _ _ e2 f2 h2) h
  ·exact hI.pend.out _ _ _ he' hf' (other _ _ _ he' hf' hs')
theorem InvA.float (hI:InvA Γ Ms σ R F0 F G i0 w0 S pend i a w) (hd:DstsOk dsts R) (hw:awriters Ms dsts dsts 0=true) {pre:List Rec} {r:Rec} {rest:List Rec} (he:R=pre++r::rest) (hS:S rest.length=false)
  (hanc:∀ k,(Ms.getD rest.length 0).testBit k=true->S k=true) {z:AV × List AV} (hfit:flFits z) (hfl:r.fl=some z) (hy:r.y=.top) (hadd:r.add=false) (hal:∀ pre' r' rest',R=pre'++r'::rest'->r'.fl.isSome=true->aalone r'.o.dst rest'.length dsts 0=true)
  {o:Obj} (ho:∀ E,RowRel E (.cells z.2) o):
  InvA Γ Ms σ R F0 F G i0 w0 (fun k=>k==rest.length||S k) (fun k=>if k=rest.length then w.heap.size else pend k) i (a.put r.o.dst (flV z.1 w.heap.size)) (w.alloc o):=by
 have hcur:=curH_same (H0:=σ.H) (S:=S) pre he hadd
 have old:∀ b,b<w.heap.size->(w.alloc o).heap[b]?=w.heap[b]?:=fun b hb=>by
  simp only [World.alloc,Array.getElem?_push];rw [if_neg (by omega)]
 have hext:∀ K,Ext K F (fun b=>G b\/Pend R S pend b) i w F i (w.alloc o):=by
  intro K
  refine ⟨fun _ h=>h,fun b hb=>old b (hI.heap.old b hb),by simp,fun b c e z hc=>⟨c,e,z,?_,Nat.le_refl _⟩,fun _ _=>rfl,rfl,rfl,rfl⟩
  rw [old b (Array.getElem?_eq_some_iff.1 hc).1];exact hc
 have le:Env.le ⟨F,w.heap,i,(curH σ.H S R).n⟩ ⟨F,(w.alloc o).heap,i,(curH σ.H S R).n⟩:=(hext _).le (Nat.le_refl _) (Nat.le_refl _)
 have pold:∀ pre' r' rest',R=pre'++r'::rest'->r'.fl.isSome=true->S rest'.length=true->pend rest'.length<w.heap.size:=by
  intro pre' r' rest' he' hf' hs'
  exact hI.heap.old _ (.inr (.inr ⟨_,_,_,he',hf',hs',rfl⟩))
 have hne:∀ {rest':List Rec},S rest'.length=true->rest'.length≠rest.length:=fun h e=>by rw [e,hS] at h;cases h
 have hpe:(fun b=>G b\/Pend R (fun k=>k==rest.length||S k) (fun k=>if k=rest.length then w.heap.size else pend k) b)=(fun b=>(G b\/Pend R S pend b)\/b=w.heap.size):=by
  funext b
  refine propext ⟨?_,?_⟩
  ·rintro (h | ⟨p',r',rs',h1,h2,h3,h4⟩)
   ·exact .inl (.inl h)
   ·simp only [Bool.or_eq_true,beq_iff_eq] at h3
    by_cases e:rs'.length=rest.length
    ·simp only [e,if_true] at h4;exact .inr h4
    ·simp only [e,if_false] at h4
     exact .inl (.inr ⟨p',r',rs',h1,h2,h3.resolve_left e,h4⟩)
  ·rintro ((h | ⟨p',r',rs',h1,h2,h3,h4⟩) | h)
   ·exact .inl h
   ·refine .inr ⟨p',r',rs',h1,h2,by simp [h3],?_⟩
    simp only [hne h3,if_false];exact h4
   ·exact .inr ⟨pre,r,rest,he,by simp [hfl],by simp,by simp [h]⟩
 refine ⟨hI.closed.more hanc,?_,?_,?_,?_,?_,?_,?_,?_⟩
 ·intro k hk
  simp only [Bool.or_eq_true,beq_iff_eq] at hk
  rcases hk with rfl | hk
  ·rw [he];simp;omega
  ·exact hI.inA k hk
 ·rw [hpe,hcur];exact hI.heap.allocG o
 ·rw [hcur]
  exact (hI.val.mono le).put hI.closed hw hd he hS (by rw [hy];exact .top _)
 ·rw [put_defers];exact hI.defers
 ·rw [hcur];exact hI.globs.mono le
 ·exact hI.ext.trans ((hext _).subG fun b h=>.inl h) (Nat.le_refl _)
 ·rw [hcur];exact hI.le
 ·refine ⟨fun pre' r' rest' z' he' hf' hs'=>?_,fun pre' r' rest' z' he' hf' hs' t u ht hu=>?_,fun p1 r1 s1 p2 r2 s2 e1 e2 f1 f2 h1 h2 h=>?_,fun pre' r' rest' he' hf' hs'=>?_⟩
  ·by_cases e:rest'.length=rest.length
   ·have hrr:=(recs_inj he' he e).1
    subst hrr
    rw [hfl] at hf';cases hf'
    refine ⟨hfit,o,?_,ho⟩
    simp only [e,if_true]
    exact World.alloc_heap_new _ _
   ·simp only [Bool.or_eq_true,beq_iff_eq] at hs'
    have hS':=hs'.resolve_left e
    obtain ⟨hfit',o',ho',hr'⟩:=hI.pend.obj _ _ _ _ he' hf' hS'
    refine ⟨hfit',o',?_,hr'⟩
    simp only [e,if_false]
    rw [old _ (pold _ _ _ he' (by simp [hf']) hS')];exact ho'
  ·by_cases e:rest'.length=rest.length
   ·have hrr:=(recs_inj he' he e).1
    subst hrr
    rw [hfl] at hf';cases hf'
    have e2:(a.put r'.o.dst (flV z.1 w.heap.size)).tmps=a.tmps.setIfInBounds t (flV z.1 w.heap.size):=by rw [ht];rfl
    rw [e2,Array.getElem?_setIfInBounds,if_pos rfl] at hu
    split at hu
    ·simp only [Option.some.injEq] at hu
     simp only [e,if_true];exact hu.symm
    ·cases hu
   ·simp only [Bool.or_eq_true,beq_iff_eq] at hs'
    have hS':=hs'.resolve_left e
    simp only [e,if_false]
    refine hI.pend.tmp _ _ _ _ he' hf' hS' t u ht ?_
    have hne2:r.o.dst≠some t:=by
     intro hrt
     have h1:=hal _ _ _ he' (by simp [hf'])
     rw [ht] at h1
     have h2:=hd _ _ _ he
     rw [hrt] at h2
     have:=aalone_spec _ _ h1 _ h2
     omega
    unfold Act.put at hu
    split at hu
    ·rename_i d hd'
     simp only [Array.getElem?_setIfInBounds] at hu
     rw [if_neg (by rintro rfl;exact hne2 hd')] at hu
     exact hu
    ·exact hu
  ·simp only [Bool.or_eq_true,beq_iff_eq] at h1 h2
   by_cases x1:s1.length=rest.length<;>by_cases x2:s2.length=rest.length
   ·omega
   ·simp only [x1,x2,if_true,if_false] at h
    have:=pold _ _ _ e2 f2 (h2.resolve_left x2);omega
   ·simp only [x1,x2,if_true,if_false] at h
    have:=pold _ _ _ e1 f1 (h1.resolve_left x1);omega
   ·simp only [x1,x2,if_false] at h
    exact hI.pend.inj _ _ _ _ _ _ e1 e2 f1 f2 (h1.resolve_left x1) (h2.resolve_left x2) h
  ·by_cases e:rest'.length=rest.length
   ·simp only [e,if_true]
    intro hg
    have:=hI.heap.old _ (.inr (.inl hg));omega
   ·simp only [Bool.or_eq_true,beq_iff_eq] at hs'
    simp only [e,if_false]
    exact hI.pend.out _ _ _ he' hf' (hs'.resolve_left e)
end
end Go.Abs
end
noncomputable section
namespace Go.Abs
section
variable {P : Program} {Γ : Globs} {fs : Fns} {ops : Array Oper} {Ms : List Nat} {dsts : List (Option Tmp)} {σ : St} {F G : Nat → Prop} {i : Nat → Nat} {a : Act} {w : World} {H : Heap}
theorem aput_length (tmps:List AV) (d:Option Tmp) (y:AV):(aput tmps d y).length=tmps.length:=by cases d<;>simp [aput]
theorem aputs_length (tmps:List AV):∀ (R:List Rec),(aputs tmps R).length=tmps.length:=by
 intro R
 induction R with
 | nil=>rfl
 | cons r rs ih=>simp only [aputs,aput_length,ih]
theorem aputs_get (tmps:List AV) {t:Nat} {x:AV}:∀ (R:List Rec),(aputs tmps R)[t]?=some x->alast t R=some x\/(alast t R=none/\tmps[t]?=some x):=by
 intro R
 induction R with
 | nil=>intro h;exact .inr ⟨rfl,h⟩
 | cons r rs ih=>
  intro h
  simp only [aputs] at h
  cases hd:r.o.dst with
  | none=>simp only [hd,aput,alast] at h ⊢;exact ih h
  | some u=>
   simp only [hd,aput,alast] at h ⊢
   by_cases e:u=t
   ·subst e
    rw [List.getElem?_set] at h
    simp only [if_true] at h
    split at h
    ·simp only [beq_self_eq_true,if_true];exact .inl h
    ·cases h
   ·have:(u==t)=false:=by simpa using e
    simp only [this,Bool.false_eq_true,if_false]
    rw [List.getElem?_set,if_neg e] at h
    exact ih h
theorem HRel.adopt {b:Nat} (hH:HRel F (fun c=>G c\/c=b) i H w.heap) {row:ARow} {o:Obj} (ho:w.heap[b]?=some o) (hr:∀ E,RowRel E row o) (hb:¬ G b):
  HRel F G (Abs.put i H.n b) (H.push row) w.heap:=by
 have le:Env.le ⟨F,w.heap,i,H.n⟩ ⟨F,w.heap,Abs.put i H.n b,H.n+1⟩:=
  ⟨fun _ h=>h,fun _ _=>rfl,Nat.le_succ _,fun s hs=>put_lt hs,fun _ c e z h=>⟨c,e,z,h,Nat.le_refl _⟩⟩
 refine ⟨fun r ro h=>?_,fun r ro h=>?_,fun r r' ro ro' h h' e=>?_,fun c hc=>hH.old c (hc.imp id .inl),fun c hf hg=>hH.apart c hf (.inl hg),by simp [Heap.push,hH.ok]⟩
 ·rcases Heap.get_push h with ⟨hl,h⟩ | ⟨rfl,rfl⟩
  ·obtain ⟨o',ho',hr'⟩:=hH.row r ro h
   exact ⟨o',by rw [put_lt hl];exact ho',hr'.mono le⟩
  ·exact ⟨o,by rw [put_self];exact ho,hr _⟩
 ·rcases Heap.get_push h with ⟨hl,h⟩ | ⟨rfl,rfl⟩
  ·rw [put_lt hl]
   have:=hH.out r ro h
   exact ⟨this.1,fun hg=>this.2 (.inl hg)⟩
  ·rw [put_self]
   exact ⟨fun hf=>hH.apart b hf (.inr rfl),hb⟩
 ·rcases Heap.get_push h with ⟨hl,k⟩ | ⟨k,k2⟩<;>rcases Heap.get_push h' with ⟨hl',k'⟩ | ⟨k',k2'⟩
  ·rw [put_lt hl,put_lt hl'] at e;exact hH.inj r r' ro ro' k k' e
  ·rw [put_lt hl,k',put_self] at e;exact absurd (.inr e) (hH.out r ro k).2
  ·rw [put_lt hl',k,put_self] at e;exact absurd (.inr e.symm) (hH.out r' ro' k').2
  ·omega
def PendUp (R:List Rec) (pend:Nat->Nat) (L:Nat) (b:Nat):Prop:=∃ pre r rest,R=pre++r::rest/\r.fl.isSome=true/\L<=rest.length/\b=pend rest.length
variable {R : List Rec} {S : Nat → Bool} {pend : Nat → Nat}
theorem flo_val {z:AV × List AV} (hfit:flFits z) {b n:Nat} {i1:Nat->Nat} {h:Array Obj} {o:Obj} (ho:h[b]?=some o) (hr:RowRel ⟨F,h,Abs.put i1 n b,n+1⟩ (.cells z.2) o):
  VRel ⟨F,h,Abs.put i1 n b,n+1⟩ (flAt z.1 n) (flV z.1 b):=by
 obtain ⟨x,cs⟩:=z
 have hp:VRel ⟨F,h,Abs.put i1 n b,n+1⟩ (.ptr n 0) (.pointer (some ⟨b,0,none⟩)):=by
  have hv:=VRel.ptr (E:=⟨F,h,Abs.put i1 n b,n+1⟩) n 0 (Nat.lt_succ_self _)
  simpa only [put_self] using hv
 cases x with
 | slice r o l e=>
  obtain ⟨rfl,hle⟩:=hfit
  cases hr with
  | cells _ vs t z hc=>
   have:=VRel.slice (E:=⟨F,h,Abs.put i1 n b,n+1⟩) n 0 l e l (Nat.lt_succ_self _) (Nat.le_refl _) ⟨vs,t,z,by show h[Abs.put i1 n b n]?=_;rw [put_self];exact ho,by have h1:cs.length<=vs.size:=hc.1;have h2:l*e<=cs.length:=hle;omega⟩
   simp only [put_self] at this
   exact this
 | _=>exact hp
theorem lay_ok (hp:PendOk G R S pend a w) (hS:∀ k,k<R.length->S k=true) {T0:List AV} {H0:Heap} {i:Nat->Nat} (hH:HRel F (fun b=>G b\/PendUp R pend 0 b) i H0 w.heap)
  (hT:VRels ⟨F,w.heap,i,H0.n⟩ T0 a.tmps.toList):∀ (rs pre:List Rec),R=pre++rs->
  ∃ i',HRel F (fun b=>G b\/PendUp R pend rs.length b) i' (alay rs T0 H0).2 w.heap/\VRels ⟨F,w.heap,i',(alay rs T0 H0).2.n⟩ (alay rs T0 H0).1 a.tmps.toList/\(∀ r,r<H0.n->i' r=i r)/\H0.n<=(alay rs T0 H0).2.n:=by
 intro rs
 induction rs with
 | nil=>intro pre he;exact ⟨i,hH,hT,fun _ _=>rfl,Nat.le_refl _⟩
 | cons r rs ih=>
  intro pre he
  obtain ⟨i1,h1,h2,h3,h4⟩:=ih (pre++[r]) (by simp [he])
  have hlt:rs.length<R.length:=by rw [he];simp;omega
  have hnext:∀ b,PendUp R pend (rs.length+1) b->PendUp R pend rs.length b:=by
   rintro b ⟨p,r',rest,e1,e2,e3,e4⟩;exact ⟨p,r',rest,e1,e2,by omega,e4⟩
  cases hfl:r.fl with
  | none=>
   simp only [alay,hfl,List.length_cons]
   have hsame:(fun b=>G b\/PendUp R pend (rs.length+1) b)=(fun b=>G b\/PendUp R pend rs.length b):=by
    funext b
    refine propext (or_congr Iff.rfl ⟨hnext b,?_⟩)
    rintro ⟨p,r',rest,e1,e2,e3,e4⟩
    refine ⟨p,r',rest,e1,e2,?_,e4⟩
    rcases Nat.lt_or_ge rs.length rest.length with h | h
    ·exact h
    ·have:=(recs_inj e1 he (by omega)).1
     subst this
     rw [hfl] at e2;cases e2
   rw [hsame]
   exact ⟨i1,h1,h2,h3,h4⟩
  | some z=>
   simp only [alay,hfl,List.length_cons]
   have hSr:=hS _ hlt
   obtain ⟨hfit,o,ho,hr⟩:=hp.obj _ _ _ _ he hfl hSr
   have hsplit:(fun b=>G b\/PendUp R pend rs.length b)=(fun b=>(G b\/PendUp R pend (rs.length+1) b)\/b=pend rs.length):=by
    funext b
    refine propext ⟨?_,?_⟩
    ·rintro (h | ⟨p,r',rest,e1,e2,e3,e4⟩)
     ·exact .inl (.inl h)
     ·rcases Nat.lt_or_ge rs.length rest.length with h | h
      ·exact .inl (.inr ⟨p,r',rest,e1,e2,h,e4⟩)
      ·have:rest.length=rs.length:=by omega
       rw [this] at e4;exact .inr e4
    ·rintro ((h | h) | h)
     ·exact .inl h
     ·exact .inr (hnext b h)
     ·exact .inr ⟨pre,r,rs,he,by simp [hfl],Nat.le_refl _,h⟩
   rw [hsplit] at h1
   have hb:¬ (G (pend rs.length)\/PendUp R pend (rs.length+1) (pend rs.length)):=by
    rintro (h | ⟨p,r',rest,e1,e2,e3,e4⟩)
    ·exact hp.out _ _ _ he (by simp [hfl]) hSr h
    ·have hS':S rest.length=true:=hS _ (by rw [e1];simp;omega)
     have:=hp.inj _ _ _ _ _ _ he e1 (by simp [hfl]) e2 hSr hS' e4
     omega
   have hA:=h1.adopt ho hr hb
   have le:Env.le ⟨F,w.heap,i1,(alay rs T0 H0).2.n⟩ ⟨F,w.heap,Abs.put i1 (alay rs T0 H0).2.n (pend rs.length),(alay rs T0 H0).2.n+1⟩:=
    ⟨fun _ h=>h,fun _ _=>rfl,Nat.le_succ _,fun s hs=>put_lt hs,fun _ c e z h=>⟨c,e,z,h,Nat.le_refl _⟩⟩
   refine ⟨_,hA,?_,fun s hs=>?_,by simp;omega⟩
   ·have hv:VRel ⟨F,w.heap,Abs.put i1 (alay rs T0 H0).2.n (pend rs.length),(alay rs T0 H0).2.n+1⟩ (flAt z.1 (alay rs T0 H0).2.n) (flV z.1 (pend rs.length)):=flo_val hfit ho (hr _)
    have hT2:=h2.mono le
    cases hd:r.o.dst with
    | none=>exact hT2
    | some t=>
     refine ⟨by rw [aput_length];exact hT2.1,fun j x v hx hv'=>?_⟩
     simp only [aput] at hx
     rw [List.getElem?_set] at hx
     by_cases e:t=j
     ·subst e
      simp only [if_true] at hx
      split at hx
      ·simp only [Option.some.injEq] at hx;subst hx
       rw [Array.getElem?_toList] at hv'
       rw [hp.tmp _ _ _ _ he hfl hSr t v hd hv']
       exact hv
      ·cases hx
     ·rw [if_neg e] at hx
      exact hT2.2 j x v hx hv'
   ·rw [put_lt (by omega)];exact h3 s hs
end
end Go.Abs
end
noncomputable section
namespace Go.Abs
section
variable {P : Program} {Γ : Globs} {fs : Fns} {ops : Array Oper} {Ms : List Nat} {σ : St} {F G : Nat → Prop} {i : Nat → Nat} {a : Act} {w : World} {H : Heap} {ro : Option Nat} {Q : Exit → Act → World → Prop}
def unl (l:List Bool):Nat:=l.countP (·==false)
theorem unl_set:∀ (l:List Bool) (j:Nat),l[j]?=some false->unl (l.set j true)+1=unl l:=by
 intro l
 induction l with
 | nil=>intro j h;simp at h
 | cons b l ih=>
  intro j h
  cases j with
  | zero=>simp only [List.getElem?_cons_zero,Option.some.injEq] at h;subst h;simp [unl]
  | succ j=>
   have:=ih j (by simpa using h)
   simp only [unl,List.set_cons_succ,List.countP_cons] at this ⊢
   omega
theorem unl_pos:∀ (l:List Bool) (j:Nat),l[j]?=some false->0<unl l:=by
 intro l j h
 have:=unl_set l j h
 omega
def Backward (ops:Array Oper):Prop:=∀ j o,ops[j]?=some o->∀ e∈o.after,Region.binds .any e=true->e.on<j
theorem exists_ready (hb:Backward ops) {listed:Array Bool} (hsz:listed.size=ops.size):∀ k,k<ops.size->listed.getD k true=false->∃ j,j∈Region.ready .any ops listed:=by
 intro k
 induction k using Nat.strongRecOn with
 | _ k ih=>
  intro hk hu
  have ho:ops[k]?=some ops[k]:=Array.getElem?_eq_getElem hk
  by_cases hall:∀ e∈ops[k].after,Region.binds .any e=true->listed.getD e.on false=true
  ·exact ⟨k,mem_ready.2 ⟨hu,_,ho,hall⟩⟩
  ·simp only [Classical.not_forall,not_imp] at hall
   obtain ⟨e,he,hbi,hne⟩:=hall
   have hlt:=hb k _ ho e he hbi
   refine ih e.on hlt (by omega) ?_
   have:e.on<listed.size:=by omega
   rw [Array.getD_eq_getD_getElem?,Array.getElem?_eq_getElem this] at hne ⊢
   simpa using hne
theorem getD_false_true {listed:Array Bool} {k:Nat} (h:listed.getD k true=false):listed.getD k false=false/\k<listed.size/\listed.toList[k]?=some false:=by
 rcases Nat.lt_or_ge k listed.size with hk | hk
 ·rw [Array.getD_eq_getD_getElem?,Array.getElem?_eq_getElem hk] at h ⊢
  refine ⟨by simpa using h,hk,?_⟩
  rw [Array.getElem?_toList,Array.getElem?_eq_getElem hk]
  simpa using h
 ·rw [Array.getD_eq_getD_getElem?,Array.getElem?_eq_none hk] at h;simp at h
theorem getD_set {listed:Array Bool} {j k:Nat} (hj:j<listed.size):(listed.setIfInBounds j true).getD k false=(k==j||listed.getD k false):=by
 rw [Array.getD_eq_getD_getElem?,Array.getD_eq_getD_getElem?,Array.getElem?_setIfInBounds]
 by_cases e:j=k
 ·subst e;simp [hj]
 ·have:(k==j)=false:=by simpa using fun h=>e h.symm
  simp [e,this]
theorem anc_lt (hm:∀ j o,ops[j]?=some o->MaskAt Ms j o):∀ j k,j<ops.size->(Ms.getD j 0).testBit k=true->k<j:=by
 intro j
 induction j using Nat.strongRecOn with
 | _ j ih=>
  intro k hj hb
  obtain ⟨h1,h2⟩:=hm j _ (Array.getElem?_eq_getElem hj)
  obtain ⟨e,he,hbi,h⟩:=(h2 k).1 hb
  have hlt:=h1 e he hbi
  rcases h with rfl | h
  ·exact hlt
  ·have:=ih e.on hlt k (by omega) h
   omega
theorem drawB (hfs:FnsOk P Γ fs) (hm:∀ j o,ops[j]?=some o->MaskAt Ms j o) {p:Nat} (hp:∀ j,p<=j->j<ops.size->Ms.getD j 0=2 ^ j-1):
  ∀ (os:List Oper) (j:Nat) (σ σ':St) (F:Nat->Prop) (i:Nat->Nat) (a:Act) (w:World) (listed:Array Bool) (fuel:Nat),os=ops.toList.drop j->p<=j->listed.size=ops.size->(∀ k,listed.getD k false=decide (k<j))->j<=ops.size->
   ops.size-j<=fuel->aops P Γ fs ops os σ=some σ'->SRel Γ F G i σ a w->(∀ F' i' a' w',SRel Γ F' G i' σ' a' w'->Ext σ.H.n F G i w F' i' w'->σ.H.n<=σ'.H.n->Q .normal a' w')->
   wpAnyIn (W ro) 0 P .any ops Q fuel listed a w:=by
 intro os
 induction os with
 | nil=>
  intro j σ σ' F i a w listed fuel hos hpj hsz hl hj hfuel h hs hq
  simp only [aops,Option.some.injEq] at h;subst h
  have hge:ops.size<=j:=by
   have:=congrArg List.length hos
   simp at this;omega
  refine wpAnyIn_done ?_ (hq F i a w hs (Ext.refl _ _ _ _ _) (Nat.le_refl _)) fuel
  refine List.eq_nil_iff_forall_not_mem.2 fun k hk=>?_
  have h1:=getD_false_true (mem_ready.1 hk).1
  have h2:=hl k
  rw [h1.1] at h2
  have:=of_decide_eq_false h2.symm
  have:=h1.2.1
  omega
 | cons o os ih=>
  intro j σ σ' F i a w listed fuel hos hpj hsz hl hj hfuel h hs hq
  have ho:ops[j]?=some o:=by
   have:(ops.toList.drop j)[0]?=some o:=by rw [←hos];rfl
   simpa using this
  have hjlt:j<ops.size:=(Array.getElem?_eq_some_iff.1 ho).1
  have hos':os=ops.toList.drop (j+1):=by
   have:os=(ops.toList.drop j).drop 1:=by rw [←hos];rfl
   rw [this,List.drop_drop]
  obtain ⟨fuel,rfl⟩:∃ f,fuel=f+1:=⟨fuel-1,by omega⟩
  simp only [aops] at h
  split at h
  ·rename_i y H' hst
   have hready:j∈Region.ready .any ops listed:=by
    refine mem_ready.2 ⟨?_,o,ho,fun e he hb=>?_⟩
    ·have:=hl j
     simp only [Nat.lt_irrefl,decide_false] at this
     rw [Array.getD_eq_getD_getElem?,Array.getElem?_eq_getElem (by omega)] at this ⊢
     simpa using this
    ·have:=(hm j o ho).1 e he hb
     rw [hl];simpa using this
   refine ⟨fun h0=>(by rw [h0] at hready;cases hready),fun k hk=>?_⟩
   obtain ⟨hk1,ok,hok,hall⟩:=mem_ready.1 hk
   obtain ⟨hk2,hk3,_⟩:=getD_false_true hk1
   have hkj:¬ k<j:=by
    have:=hl k;rw [hk2] at this
    exact of_decide_eq_false this.symm
   have hkeq:k=j:=by
    rcases Nat.lt_or_ge j k with hlt | hge
    ·exfalso
     have hbit:(Ms.getD k 0).testBit j=true:=by
      rw [hp k (by omega) (by omega),Nat.testBit_two_pow_sub_one];simpa using hlt
     obtain ⟨e,he,hb,hx⟩:=((hm k ok hok).2 j).1 hbit
     have hel:=hall e he hb
     rw [hl] at hel
     have hel:=of_decide_eq_true hel
     rcases hx with hx | hx
     ·omega
     ·have:=anc_lt hm e.on j (by omega) hx
      omega
    ·omega
   subst hkeq
   unfold wpOpIn
   simp only [ho]
   refine astep_wp hfs hs.heap hs.globs (ev_rel hs.tmps hs.globs) hst fun v w' F' i' hgv=>?_
   refine ih (k+1) _ σ' F' i' _ w' _ fuel hos' (by omega) (by simp [hsz]) (fun l=>?_) (by omega) (by omega) h (hs.step hgv o.dst) fun F'' i'' a'' w'' hs' he hle=>hq F'' i'' a'' w'' hs' (hgv.ext.trans he hgv.le) (Nat.le_trans hgv.le hle)
   rw [getD_set hk3,hl l]
   by_cases e:l=k
   ·subst e;simp
   ·have:(l==k)=false:=by simpa using e
    rw [this,Bool.false_or]
    exact decide_eq_decide.2 (by omega)
  ·cases h
end
end Go.Abs
end
noncomputable section
namespace Go.Abs
section
variable {chk : Chk} {P : Program} {Γ : Globs} {fs : Fns} {ops : Array Oper} {Ms : List Nat} {dsts : List (Option Tmp)} {σ : St} {F G : Nat → Prop} {i : Nat → Nat} {a : Act} {w : World} {H : Heap} {ro : Option Nat} {Q : Exit → Act → World → Prop} {R : List Rec}
theorem good_at:∀ (pre:List Rec) {R:List Rec} {r:Rec} {rest:List Rec},Good chk P Γ fs ops Ms dsts σ R->R=pre++r::rest->GoodRec chk P Γ fs ops Ms dsts σ r rest:=by
 intro pre
 induction pre with
 | nil=>intro R r rest hg he;subst he;exact hg.1
 | cons p pre ih=>intro R r rest hg he;subst he;exact ih hg.2 rfl
theorem rec_at:∀ (R:List Rec) (j:Nat),j<R.length->∃ pre r rest,R=pre++r::rest/\rest.length=j:=by
 intro R
 induction R with
 | nil=>intro j h;simp at h
 | cons r rs ih=>
  intro j h
  rcases Nat.lt_or_ge j rs.length with hl | hl
  ·obtain ⟨pre,r',rest,he,hr⟩:=ih j hl
   exact ⟨r::pre,r',rest,by simp [he],hr⟩
  ·exact ⟨[],r,rs,rfl,by simp at h;omega⟩
theorem unl_ge (l:List Bool) (p:Nat) (h:∀ k,p<=k->k<l.length->l[k]?=some false):l.length-p<=unl l:=by
 have h1:unl l=unl (l.take p)+unl (l.drop p):=by
  unfold unl
  rw [←List.countP_append,List.take_append_drop]
 have h2:unl (l.drop p)=(l.drop p).length:=by
  refine List.countP_eq_length.2 fun b hb=>?_
  obtain ⟨k,hk⟩:=List.mem_iff_getElem?.1 hb
  rw [List.getElem?_drop] at hk
  have hlt:p+k<l.length:=(List.getElem?_eq_some_iff.1 hk).1
  rw [h (p+k) (by omega) hlt] at hk
  simp only [Option.some.injEq] at hk;subst hk;rfl
 rw [h1,h2];simp
theorem alloc_run {t:TypeId} {z:AV} (hz:zeroOf P t=some z) (w:World):∃ o,(Instr.alloc t true (.tuple #[])).run P w=.ok (.pointer (some ⟨w.heap.size,0,none⟩)) (w.alloc o)/\∀ E,RowRel E (.cells z.cells) o:=by
 obtain ⟨zv,hzv,hr,hk⟩:=zeroOf_run hz ⟨fun _=>False,#[],id,0⟩ w
 refine ⟨.cells zv.cells t,?_,fun E=>?_⟩
 ·simp only [Instr.alloc,Sem.run_bind,hzv,Result.andThen_ok,newVar,newRow,run_newObj,Sem.run_pure]
  rfl
 ·obtain ⟨zv',hzv',hr',hk'⟩:=zeroOf_run hz E w
  have:zv'=zv:=by
   rw [hzv] at hzv'
   simp at hzv';exact hzv'.symm
  subst this
  have hc:=hr'.cells hk'
  refine .cells _ _ _ _ ⟨by rw [hc.1];simp,fun j x v h1 h2=>hc.2 j x v h1 (by simpa using h2),fun j hj hz=>?_⟩
  simp at hz
theorem float_spec {j:Nat} {o:Oper} {z:AV} (h:afloat P Ms j o=some z):∃ t,o.op=.alloc t/\o.guard=none/\zeroOf P t=some z:=by
 unfold afloat at h
 split at h
 ·rename_i t ho
  split at h
  ·rename_i hg
   split at h
   ·exact ⟨t,ho,hg,h⟩
   ·cases h
  ·cases h
 ·cases h
theorem alaid_spec {j:Nat} {o:Oper} {ρ:Operand->AV} {z:AV × List AV} (h:alaid P fs Ms j o ρ=some z):o.guard=none/\((∃ t x,o.op=.alloc t/\zeroOf P t=some x/\z=(.ptr 0 0,x.cells))\/
  ∃ t n ps,∃ H:Nat × Nat,o.op=.buildSlice t n ps/\fs.fz t=false/\abuildSlice P { rev:=[],n:=0,lim:=0 } t n (ps.toList.map fun p=>(p.1,ρ p.2))=some (z.1,⟨[some (.cells z.2)],H.1,H.2⟩)/\z.2.all rigid=true):=by
 unfold alaid at h
 split at h
 ·rename_i x hx
  obtain ⟨t,h1,h2,h3⟩:=float_spec hx
  simp only [Option.some.injEq] at h
  exact ⟨h2,.inl ⟨t,x,h1,h3,h.symm⟩⟩
 ·unfold afloatS at h
  split at h
  ·rename_i t n ps ho
   split at h
   ·rename_i hg
    split at h
    ·rename_i hc
     simp only [Bool.and_eq_true,Bool.not_eq_true'] at hc
     split at h
     ·rename_i y cs m l hb
      split at h
      ·rename_i hr
       simp only [Option.some.injEq] at h
       subst h
       exact ⟨hg,.inr ⟨t,n,ps,(m,l),ho,hc.2,hb,hr⟩⟩
      ·cases h
     ·cases h
    ·cases h
   ·cases h
  ·cases h
theorem flo_run {j:Nat} {o:Oper} {ρ:Operand->AV} {z:AV × List AV} (h:alaid P fs Ms j o ρ=some z) {E:Env} (hev:∀ x,VRel E (ρ x) (a.eval x)) (w:World):
  ∃ ob,o.guard=none/\(∀ c,o.op≠.defer c)/\flFits z/\(execOp a.eval o).run P w=.ok (.value (flV z.1 w.heap.size)) (w.alloc ob)/\∀ E,RowRel E (.cells z.2) ob:=by
 obtain ⟨hg,⟨t,x,ho,hz,rfl⟩ | ⟨t,n,ps,H,ho,_,hb,hr⟩⟩:=alaid_spec h
 ·obtain ⟨ob,hrun,hrow⟩:=alloc_run hz w
  refine ⟨ob,hg,fun c hc=>(by rw [ho] at hc;cases hc),trivial,?_,hrow⟩
  simp only [execOp,ho,Sem.run_bind,hrun,Result.andThen_ok,Sem.run_pure]
  rfl
 ·obtain ⟨hl,hp⟩:=parts_rel hev ps
  obtain ⟨e,esz,cs,vs,h1,h2,h3,h4,h5⟩:=buildSlice_run (ps':=ps.map fun p=>(p.1,a.eval p.2)) hb hl hp w
  obtain ⟨x,cs'⟩:=z
  simp only at h1 h2 hr hb
  have h2':cs'=cs:=by simp [Heap.push] at h2;exact h2.1
  subst h1;subst h2'
  refine ⟨.cells vs e,hg,fun c hc=>(by rw [ho] at hc;cases hc),⟨rfl,h3⟩,?_,fun E'=>?_⟩
  ·simp only [execOp,ho,Sem.run_bind,h5,Result.andThen_ok,Sem.run_pure]
   rfl
  ·refine .cells _ _ _ _ ⟨by rw [h4.1];simp,fun j x v a b=>?_,fun j hj hz=>?_⟩
   ·have hv:=h4.2 j x v a (by simpa using b)
    have hrx:=List.all_eq_true.1 hr x (List.mem_of_getElem? a)
    cases x<;>simp [rigid] at hrx<;>cases hv<;>first | exact .bool _ | exact .int _ _ | exact .float _ _ | exact .string _ | exact .nan _ _ (by assumption)
   ·have:=h4.1;simp at this;omega
theorem drawA (hk:ChkOk P fs ops chk) (hfs:FnsOk P Γ fs) {Mf:List Nat} (hm:∀ j o,ops[j]?=some o->MaskAt Mf j o) {p:Nat} (hp:∀ j,p<=j->j<ops.size->Mf.getD j 0=2 ^ j-1) (hpn:p<=ops.size)
  (hMs:∀ j,j<p->Ms.getD j 0=Mf.getD j 0) (hg:Good chk P Γ fs ops Ms dsts σ R) (hlen:R.length=p) (hd:DstsOk dsts R) (hw:awriters Ms dsts dsts 0=true) {F0:Nat->Prop} {i0:Nat->Nat} {w0:World} {σ':St}
  (hdlt:∀ r∈σ.defers,r<σ.H.n)
  (hB:aops P Γ fs ops (ops.toList.drop p) { σ with tmps:=(alay R (aputs σ.tmps R) (atop σ.H R)).1,H:=(alay R (aputs σ.tmps R) (atop σ.H R)).2 }=some σ')
  (hq:∀ F' i' a' w',SRel Γ F' G i' σ' a' w'->Ext σ.H.n F0 G i0 w0 F' i' w'->σ.H.n<=σ'.H.n->Q .normal a' w'):
  ∀ (fuel:Nat) (listed:Array Bool) (F:Nat->Prop) (pend i:Nat->Nat) (a:Act) (w:World),listed.size=ops.size->unl listed.toList<=fuel->InvA Γ Ms σ R F0 F G i0 w0 (fun k=>listed.getD k false) pend i a w->
   wpAnyIn (W ro) 0 P .any ops Q fuel listed a w:=by
 have hback:Backward ops:=fun j o ho=>(hm j o ho).1
 have hal:∀ pre' r' rest',R=pre'++r'::rest'->r'.fl.isSome=true->aalone r'.o.dst rest'.length dsts 0=true:=by
  intro pre' r' rest' he hf
  obtain ⟨_,h⟩:=good_at pre' hg he
  cases hfl:r'.fl with
  | none=>rw [hfl] at hf;cases hf
  | some z=>simp only [hfl] at h;exact h.2.2.2.2
 have finish:∀ (fuel:Nat) (listed:Array Bool) (F:Nat->Prop) (pend i:Nat->Nat) (a:Act) (w:World),listed.size=ops.size->unl listed.toList<=fuel->InvA Γ Ms σ R F0 F G i0 w0 (fun k=>listed.getD k false) pend i a w->
   (∀ k,k<p->listed.getD k false=true)->wpAnyIn (W ro) 0 P .any ops Q fuel listed a w:=by
  intro fuel listed F pend i a w hsz hun hI hall
  have hl:∀ k,listed.getD k false=decide (k<p):=by
   intro k
   by_cases hk:k<p
   ·rw [hall k hk];simp [hk]
   ·cases hc:listed.getD k false with
    | false=>simp [hk]
    | true=>
     have:=hI.inA k hc
     omega
  have hcur:curH σ.H (fun k=>listed.getD k false) R=atop σ.H R:=curH_all R fun pre r rest he _=>hall _ (by rw [←hlen,he];simp;omega)
  have hpe:(fun b=>G b\/Pend R (fun k=>listed.getD k false) pend b)=(fun b=>G b\/PendUp R pend 0 b):=by
   funext b
   refine propext (or_congr Iff.rfl ⟨?_,?_⟩)
   ·rintro ⟨p1,r1,s1,h1,h2,h3,h4⟩;exact ⟨p1,r1,s1,h1,h2,Nat.zero_le _,h4⟩
   ·rintro ⟨p1,r1,s1,h1,h2,h3,h4⟩;exact ⟨p1,r1,s1,h1,h2,hall _ (by rw [←hlen,h1];simp;omega),h4⟩
  have hH:=hI.heap
  rw [hpe,hcur] at hH
  have hT:VRels ⟨F,w.heap,i,(atop σ.H R).n⟩ (aputs σ.tmps R) a.tmps.toList:=by
   refine ⟨by rw [aputs_length];simpa using hI.val.1.symm,fun t x v hx hv=>?_⟩
   have hv':=hI.val.2 t v (by simpa using hv)
   rw [lookS_all R fun pre r rest he _=>hall _ (by rw [←hlen,he];simp;omega),hcur] at hv'
   rcases aputs_get σ.tmps R hx with h | ⟨h,h2⟩
   ·rw [h] at hv';exact hv'
   ·rw [h] at hv';exact hv' x h2
  obtain ⟨i',k1,k2,k3,k4⟩:=lay_ok hI.pend (fun k hk=>hall k (by omega)) hH hT R [] rfl
  have hG:(fun b=>G b\/PendUp R pend R.length b)=G:=by
   funext b
   refine propext ⟨?_,.inl⟩
   rintro (h | ⟨p1,r1,s1,h1,h2,h3,h4⟩)
   ·exact h
   ·have:s1.length<R.length:=by rw [h1];simp;omega
    omega
  rw [hG] at k1
  have hle:=hI.le
  rw [hcur] at hle
  have hext:Ext σ.H.n F0 G i0 w0 F i' w:={ hI.ext with same:=fun r hr=>(k3 r (by omega)).trans (hI.ext.same r hr) }
  have hglobs:=hI.globs
  rw [hcur] at hglobs
  have le:Env.le ⟨F,w.heap,i,(atop σ.H R).n⟩ ⟨F,w.heap,i',(alay R (aputs σ.tmps R) (atop σ.H R)).2.n⟩:=
   ⟨fun _ h=>h,fun _ _=>rfl,k4,k3,fun _ c e z h=>⟨c,e,z,h,Nat.le_refl _⟩⟩
  have hs:SRel Γ F G i' { σ with tmps:=(alay R (aputs σ.tmps R) (atop σ.H R)).1,H:=(alay R (aputs σ.tmps R) (atop σ.H R)).2 } a w:=by
   refine ⟨k2,?_,fun r hr=>Nat.lt_of_lt_of_le (hdlt r hr) (Nat.le_trans hle k4),k1,hglobs.mono le⟩
   rw [hI.defers]
   refine List.map_congr_left fun r hr=>?_
   unfold mark
   rw [hext.same r (hdlt r hr)]
  refine drawB hfs hm hp (ops.toList.drop p) p _ σ' F i' a w listed fuel rfl (Nat.le_refl _) hsz hl hpn ?_ hB hs fun F'' i'' a'' w'' hs' he hle'=>hq F'' i'' a'' w'' hs' (hext.trans he (Nat.le_trans hle k4)) (Nat.le_trans (Nat.le_trans hle k4) hle')
  have hge:=unl_ge listed.toList p fun k hk hkl=>by
   have hk2:k<listed.size:=by simpa using hkl
   have:=hl k
   rw [Array.getD_eq_getD_getElem?,Array.getElem?_eq_getElem hk2] at this
   rw [Array.getElem?_toList,Array.getElem?_eq_getElem hk2]
   have h3:¬ k<p:=by omega
   simp only [Option.getD_some,h3,decide_false] at this
   rw [this]
  have:listed.toList.length=ops.size:=by simpa using hsz
  omega
 intro fuel
 induction fuel with
 | zero=>
  intro listed F pend i a w hsz hun hI
  refine finish 0 listed F pend i a w hsz hun hI fun k hk=>?_
  cases hc:listed.getD k false with
  | true=>rfl
  | false=>
   exfalso
   have hk2:k<listed.size:=by omega
   rw [Array.getD_eq_getD_getElem?,Array.getElem?_eq_getElem hk2] at hc
   have:=unl_pos listed.toList k (by rw [Array.getElem?_toList,Array.getElem?_eq_getElem hk2];simpa using hc)
   omega
 | succ fuel ih=>
  intro listed F pend i a w hsz hun hI
  by_cases hall:∀ k,k<p->listed.getD k false=true
  ·exact finish (fuel+1) listed F pend i a w hsz hun hI hall
  simp only [Classical.not_forall,not_imp,Bool.not_eq_true] at hall
  obtain ⟨k0,hk0,hu0⟩:=hall
  have hu1:listed.getD k0 true=false:=by
   have hk2:k0<listed.size:=by omega
   rw [Array.getD_eq_getD_getElem?,Array.getElem?_eq_getElem hk2] at hu0 ⊢
   exact hu0
  obtain ⟨j0,hj0⟩:=exists_ready hback hsz k0 (by omega) hu1
  refine ⟨fun h0=>(by rw [h0] at hj0;cases hj0),fun j hj=>?_⟩
  obtain ⟨hj1,oj,hoj,hdirect⟩:=mem_ready.1 hj
  obtain ⟨hj2,hj3,hj4⟩:=getD_false_true hj1
  have hjn:j<ops.size:=by omega
  have hancf:∀ k,(Mf.getD j 0).testBit k=true->listed.getD k false=true:=by
   intro k hb
   obtain ⟨e,he,hbi,h⟩:=((hm j oj hoj).2 k).1 hb
   have hel:=hdirect e he hbi
   rcases h with rfl | h
   ·exact hel
   ·refine hI.closed.down e.on k hel ?_
    rw [hMs e.on (by rw [←hlen];exact hI.inA _ hel)]
    exact h
  have hjp:j<p:=by
   rcases Nat.lt_or_ge j p with h | h
   ·exact h
   ·exfalso
    have hb:(Mf.getD j 0).testBit k0=true:=by
     rw [hp j h hjn,Nat.testBit_two_pow_sub_one];simp;omega
    rw [hancf k0 hb] at hu0;cases hu0
  have hanc:∀ k,(Ms.getD j 0).testBit k=true->listed.getD k false=true:=fun k hb=>hancf k (by rw [←hMs j hjp];exact hb)
  obtain ⟨pre,r,rest,he,hrl⟩:=rec_at R j (by omega)
  subst hrl
  obtain ⟨hro,hrec⟩:=good_at pre hg he
  rw [hro] at hoj
  simp only [Option.some.injEq] at hoj;subst hoj
  have hfun:(fun k=>(listed.setIfInBounds rest.length true).getD k false)=(fun k=>k==rest.length||listed.getD k false):=funext fun k=>getD_set hj3
  have hunl:unl (listed.setIfInBounds rest.length true).toList<=fuel:=by
   have:=unl_set listed.toList rest.length hj4
   rw [Array.toList_setIfInBounds]
   omega
  have next:∀ F' pend' i' a' w',InvA Γ Ms σ R F0 F' G i0 w0 (fun k=>k==rest.length||listed.getD k false) pend' i' a' w'->wpAnyIn (W ro) 0 P .any ops Q fuel (listed.setIfInBounds rest.length true) a' w':=
   fun F' pend' i' a' w' hI'=>ih _ F' pend' i' a' w' (by simpa using hsz) hunl (by rw [hfun];exact hI')
  unfold wpOpIn
  simp only [hro]
  cases hfl:r.fl with
  | some z=>
   simp only [hfl] at hrec
   obtain ⟨hρ,hy,hadd,hflt,_⟩:=hrec
   have hev:∀ x,VRel ⟨F,w.heap,i,(curH σ.H (fun k=>listed.getD k false) R).n⟩ (r.ρ x) (a.eval x):=by
    intro x
    rw [hρ]
    exact hI.val.eval hI.closed hd he hj2 hanc (ev_const hI.globs σ.tmps) x
   obtain ⟨o,hgu,hnd,hfit,hrun,hrow⟩:=flo_run hflt hev w
   have hwant:Region.wanted r.o (yielded ops a.tmps)=true:=by simp [Region.wanted,hgu]
   rw [if_pos hwant]
   refine ⟨fun _ _=>trivial,?_⟩
   rw [Oper.semAt_eq _ _ _ hnd]
   rw [hrun]
   exact next _ _ _ _ _ (hI.float hd hw he hj2 hanc hfit hfl hy hadd hal hrow)
  | none=>
   simp only [hfl] at hrec
   obtain ⟨hρ,H',hst,hkind⟩:=hrec
   have hev:∀ x,VRel ⟨F,w.heap,i,(curH σ.H (fun k=>listed.getD k false) R).n⟩ (r.ρ x) (a.eval x):=by
    intro x
    rw [hρ]
    exact hI.val.eval hI.closed hd he hj2 hanc (ev_const hI.globs σ.tmps) x
   rcases hkind with ⟨hadd,_⟩ | ⟨hadd,hH',hch,hup⟩
   ·have h2:=curH_quiet hk hI.closed hg pre he hfl hadd hj2 hanc
    exact astep_wp hfs hI.heap hI.globs hev h2 fun v w' F' i' hgv=>next _ _ _ _ _ (hI.step hd hw he hj2 hanc hfl hal (curH_same pre he hadd) hgv)
   ·obtain ⟨c1,c2⟩:=curH_add hI.closed hg pre he hadd hj2 hanc
    rw [←c1,hH'] at hst
    exact astep_wp hfs hI.heap hI.globs hev hst fun v w' F' i' hgv=>next _ _ _ _ _ (hI.step hd hw he hj2 hanc hfl hal c2 hgv)
theorem good_grow (hfs:FnsOk P Γ fs) (hok:σ.H.rev.length=σ.H.n):∀ (R:List Rec),Good chk P Γ fs ops Ms dsts σ R->Grow σ.H (atop σ.H R):=by
 intro R
 induction R with
 | nil=>intro _;exact Grow.refl hok
 | cons r rs ih=>
  intro hg
  have h1:=ih hg.2
  obtain ⟨⟨_,h⟩,_⟩:=hg
  simp only [atop]
  cases hadd:r.add with
  | false=>simp only [Bool.false_eq_true,if_false];exact h1
  | true=>
   simp only [if_true]
   cases hfl:r.fl with
   | some z=>simp only [hfl] at h;rw [h.2.2.1] at hadd;cases hadd
   | none=>
    simp only [hfl] at h
    obtain ⟨_,H',hst,hk⟩:=h
    rcases hk with ⟨hk,_⟩ | ⟨_,hk,_⟩
    ·rw [hadd] at hk;cases hk
    ·subst hk
     exact h1.trans (astep_grow hfs h1.ok hst)
theorem alay_grow {T:List AV} {H:Heap} (hok:H.rev.length=H.n):∀ (R:List Rec),Grow H (alay R T H).2:=by
 intro R
 induction R with
 | nil=>exact Grow.refl hok
 | cons r rs ih=>
  simp only [alay]
  cases hfl:r.fl with
  | none=>exact ih
  | some z=>exact ih.trans ((Turn.push _).grow ih.ok)
theorem curH_none {H0:Heap} {S:Nat->Bool} (hS:∀ k,S k=false):∀ (R:List Rec),curH H0 S R=H0:=by
 intro R
 induction R with
 | nil=>rfl
 | cons r rs ih=>simp only [curH,hS,Bool.and_false,Bool.false_eq_true,if_false,ih]
theorem lookS_none {S:Nat->Bool} (hS:∀ k,S k=false) {t:Tmp}:∀ (R:List Rec),lookS S t R=none:=by
 intro R
 induction R with
 | nil=>rfl
 | cons r rs ih=>
  simp only [lookS,hS,Bool.and_false,Bool.false_eq_true,if_false,ih]
  split<;>rfl
theorem adrawC_ok (hk:ChkOk P fs ops chk) (hfs:FnsOk P Γ fs) {σ':St} (h:adrawC chk P Γ fs ops σ=some σ'):DrawOk P Γ ops σ σ':=by
 unfold adrawC at h
 split at h
 ·rename_i Mf hMf
  simp only at h
  split at h
  ·rename_i hw
   split at h
   ·rename_i R hR
    have hB:aops P Γ fs ops (ops.toList.drop (asplit Mf 0 0)) { σ with tmps:=(alay R (aputs σ.tmps R) (atop σ.H R)).1,H:=(alay R (aputs σ.tmps R) (atop σ.H R)).2 }=some σ':=h
    clear h
    obtain ⟨m1,_,m3⟩:=amasks_spec _ _ _ _ hMf rfl
    have hm:∀ j o,ops[j]?=some o->MaskAt Mf j o:=fun j o ho=>by
     have:=m3 j o (by simpa using ho)
     rwa [Nat.zero_add] at this
    obtain ⟨p1,_,p3⟩:=asplit_spec Mf 0 0 (Nat.le_refl _)
    have hmlen:Mf.length=ops.size:=by simpa using m1
    generalize hpp:asplit Mf 0 0=p at *
    have hpn:p<=ops.size:=by omega
    have hp:∀ j,p<=j->j<ops.size->Mf.getD j 0=2 ^ j-1:=by
     intro j hj hjn
     have:=p3 j Mf[j] (List.getElem?_eq_getElem (by omega)) (by omega)
     rw [List.getD_eq_getElem?_getD,List.getElem?_eq_getElem (by omega:j<Mf.length)]
     simpa using this
    have hMs:∀ j,j<p->(Mf.take p).getD j 0=Mf.getD j 0:=by
     intro j hj
     rw [List.getD_eq_getElem?_getD,List.getD_eq_getElem?_getD,List.getElem?_take,if_pos hj]
    obtain ⟨g1,g2⟩:=arec_good (ops.toList.take p) [] R hR trivial (fun t o ht=>by
     rw [List.getElem?_take] at ht
     split at ht
     ·simpa using ht
     ·cases ht)
    have hlen:R.length=p:=by
     rw [g2]
     have:ops.toList.length=ops.size:=by simp
     simp only [List.length_nil,List.length_take];omega
    have hd:DstsOk ((ops.toList.take p).map (·.dst)) R:=by
     intro pre r rest he
     have ho:=(good_at pre g1 he).1
     have hlt:rest.length<p:=by rw [←hlen,he];simp;omega
     rw [List.getElem?_map,List.getElem?_take,if_pos hlt,Array.getElem?_toList,ho]
     rfl
    refine ⟨fun hok=>?_,fun ro F G i a w Q hs hq=>?_⟩
    ·have t1:=good_grow hfs hok R g1
     have t2:=alay_grow (T:=aputs σ.tmps R) t1.ok R
     exact (t1.trans t2).trans (aops_grow hfs _ _ _ t2.ok hB).1
    ·have hS:∀ k,(Array.replicate ops.size false).getD k false=false:=by
      intro k
      rw [Array.getD_eq_getD_getElem?,Array.getElem?_replicate]
      split<;>rfl
     have hN:∀ {C:Prop} k,(fun k=>(Array.replicate ops.size false).getD k false) k=true->C:=fun k h=>by
      have h2:(Array.replicate ops.size false).getD k false=true:=h
      rw [hS] at h2;cases h2
     have hun:unl (Array.replicate ops.size false).toList<=ops.size:=by
      have:=List.countP_le_length (p:=(·==false)) (l:=(Array.replicate ops.size false).toList)
      simp only [Array.length_toList,Array.size_replicate] at this
      exact this
     have hc:curH σ.H (fun k=>(Array.replicate ops.size false).getD k false) R=σ.H:=curH_none hS R
     refine drawA hk hfs hm hp hpn hMs g1 hlen hd hw hs.dlt hB hq ops.size _ F (fun _=>0) i a w (by simp) hun ?_
     refine ⟨⟨fun j k hj _=>?_⟩,fun k hk=>?_,?_,?_,hs.defers,?_,Ext.refl _ _ _ _ _,?_,⟨?_,?_,?_,?_⟩⟩
     ·exact hN _ hj
     ·exact hN _ hk
     ·rw [hc]
      have hG:(fun b=>G b\/Pend R (fun k=>(Array.replicate ops.size false).getD k false) (fun _=>0) b)=G:=by
       funext b
       refine propext ⟨?_,.inl⟩
       rintro (h | ⟨_,_,_,_,_,h,_⟩)
       ·exact h
       ·exact hN _ h
      rw [hG];exact hs.heap
     ·rw [hc]
      refine ⟨by have:=hs.tmps.1;simpa using this.symm,fun t v hv=>?_⟩
      rw [lookS_none hS]
      exact fun x hx=>hs.tmps.2 t x v hx (by simpa using hv)
     ·rw [hc];exact hs.globs
     ·rw [hc];exact Nat.le_refl _
     ·intro _ _ _ _ _ _ h;exact hN _ h
     ·intro _ _ _ _ _ _ h;exact hN _ h
     ·intro _ _ _ _ _ _ _ _ _ _ h;exact hN _ h
     ·intro _ _ _ _ _ h;exact hN _ h
   ·cases h
  ·cases h
 ·cases h
theorem adraw_ok (hfs:FnsOk P Γ fs) {σ':St} (h:adraw P Γ fs ops σ=some σ'):DrawOk P Γ ops σ σ':=adrawC_ok achkAt_ok hfs h
end
end Go.Abs
end
noncomputable section
namespace Go.Abs
inductive Pure:AV->Prop
 | top:Pure .top
 | bool (b:Bool):Pure (.bool b)
 | int (k:IntKind) (n:Int):Pure (.int k n)
 | float (k:FloatKind) (n:Nat):Pure (.float k n)
 | nan (k:FloatKind):Pure (.nan k)
 | string (s:ByteArray):Pure (.string s)
 | nilptr:Pure .nilptr
 | cptr (cells:List AV) (off:Nat) (h:∀ x∈cells,Pure x):Pure (.cptr cells off)
 | nilslice:Pure .nilslice
 | list (len:Nat) (cells:List AV) (h:∀ x∈cells,Pure x):Pure (.list len cells)
 | nl (len:Nat) (cells:List AV) (h:∀ x∈cells,Pure x):Pure (.nl len cells)
 | nilmap:Pure .nilmap
 | func (f:FuncId) (first captured:List AV) (h1:∀ x∈first,Pure x) (h2:∀ x∈captured,Pure x):Pure (.func f first captured)
 | nilFunc:Pure .nilFunc
 | iface (t:TypeId) (x:AV) (h:Pure x):Pure (.iface t x)
 | nilIface:Pure .nilIface
 | agg (cells:List AV) (h:∀ x∈cells,Pure x):Pure (.agg cells)
 | tuple (cells:List AV) (h:∀ x∈cells,Pure x):Pure (.tuple cells)
theorem VRel.pure {E:Env} {x:AV} {v:Value} (h:VRel E x v) (hp:Pure x) (i:Nat->Nat) (N:Nat):VRel ⟨E.F,E.h,i,N⟩ x v:=by
 induction h with
 | top v=>exact .top v
 | bool b=>exact .bool b
 | int k n=>exact .int k n
 | float k n=>exact .float k n
 | nan k n h=>exact .nan k n h
 | string s=>exact .string s
 | nilptr=>exact .nilptr
 | ptr r off hr=>cases hp
 | cptr cells off b o vs hF hm hl _ ih=>cases hp with | cptr _ _ hc=>exact .cptr cells off b o vs hF hm hl fun j x v h1 h2=>ih j x v h1 h2 (hc x (List.mem_of_getElem? h1))
 | nilslice=>exact .nilslice
 | slice r off len esz cap hr hc hb=>cases hp
 | listNil len cap a hc=>exact .listNil len cap a hc
 | nlNil=>exact .nlNil
 | nl len cap cells b o vs h0 hc hF hm hl _ ih=>cases hp with | nl _ _ hcs=>exact .nl len cap cells b o vs h0 hc hF hm hl fun j x v h1 h2=>ih j x v h1 h2 (hcs x (List.mem_of_getElem? h1))
 | list len cap cells b o vs hc hF hm hl _ ih=>cases hp with | list _ _ hcs=>exact .list len cap cells b o vs hc hF hm hl fun j x v h1 h2=>ih j x v h1 h2 (hcs x (List.mem_of_getElem? h1))
 | map r hr=>cases hp
 | nilmap=>exact .nilmap
 | func f first captured first' captured' h1 h2 _ _ ih1 ih2=>
  cases hp with
  | func _ _ _ p1 p2=>exact .func f first captured first' captured' h1 h2 (fun j x v a b=>ih1 j x v a b (p1 x (List.mem_of_getElem? a))) (fun j x v a b=>ih2 j x v a b (p2 x (List.mem_of_getElem? a)))
 | yield r hr=>cases hp
 | nilFunc=>exact .nilFunc
 | iface t x v _ ih=>cases hp with | iface _ _ h=>exact .iface t x v (ih h)
 | nilIface=>exact .nilIface
 | agg cells vs hl _ ih=>cases hp with | agg _ hc=>exact .agg cells vs hl fun j x v h1 h2=>ih j x v h1 h2 (hc x (List.mem_of_getElem? h1))
 | tuple cells vs hl _ ih=>cases hp with | tuple _ hc=>exact .tuple cells vs hl fun j x v h1 h2=>ih j x v h1 h2 (hc x (List.mem_of_getElem? h1))
def Heap.empty:Heap:={ rev:=[],n:=0,lim:=0 }
theorem Heap.get_empty (r:Nat):Heap.empty.get r=none:=by simp [Heap.get,Heap.empty]
section
variable {P : Program} {Γ : Globs} {g : FuncId} {args : List AV} {y : AV} {H' : Heap} {F G : Nat → Prop} {i : Nat → Nat} {w : World} {H : Heap}
def Held (G:Nat->Prop) (i:Nat->Nat) (H:Heap) (b:Nat):Prop:=G b\/∃ r row,H.get r=some row/\b=i r
theorem HRel.none (hH:HRel F G i H w.heap):HRel F (Held G i H) i Heap.empty w.heap:=by
 refine ⟨fun r row h=>?_,fun r row h=>?_,fun r r' a b h=>?_,fun b hb=>?_,fun b hf hg=>?_,rfl⟩
 ·rw [Heap.get_empty] at h;cases h
 ·rw [Heap.get_empty] at h;cases h
 ·rw [Heap.get_empty] at h;cases h
 ·rcases hb with hb | hb | ⟨r,row,hr,rfl⟩
  ·exact hH.old b (.inl hb)
  ·exact hH.old b (.inr hb)
  ·obtain ⟨o,ho,_⟩:=hH.row r row hr
   exact (Array.getElem?_eq_some_iff.1 ho).1
 ·rcases hg with hg | ⟨r,row,hr,rfl⟩
  ·exact hH.apart b hf hg
  ·exact (hH.out r row hr).1 hf
theorem HRel.back (hH:HRel F G i H w.heap) {w':World} {F':Nat->Prop} {i':Nat->Nat} {K:Nat} {H':Heap} (hN:HRel F' (Held G i H) i' H' w'.heap) (he:Ext K F (Held G i H) i w F' i' w'):HRel F' G i H w'.heap/\Ext H.n F G i w F' i w':=by
 have le:Env.le ⟨F,w.heap,i,H.n⟩ ⟨F',w'.heap,i,H.n⟩:=⟨he.grow,fun b hb=>he.keep b (.inl hb),Nat.le_refl _,fun _ _=>rfl,he.cells⟩
 refine ⟨⟨fun r row h=>?_,fun r row h=>⟨fun hF=>hN.apart _ hF (.inr ⟨r,row,h,rfl⟩),(hH.out r row h).2⟩,hH.inj,fun b hb=>hb.elim (fun hF=>hN.old b (.inl hF)) (fun hG=>hN.old b (.inr (.inl hG))),fun b hF hG=>hN.apart b hF (.inl hG),hH.ok⟩,⟨he.grow,fun b hb=>he.keep b (hb.imp id .inl),he.size,he.cells,fun _ _=>rfl,he.os,he.output,he.tape⟩⟩
 obtain ⟨o,ho,hr⟩:=hH.row r row h
 exact ⟨o,by rw [he.keep _ (.inr (.inr ⟨r,row,h,rfl⟩))];exact ho,hr.mono le⟩
theorem VRels.pure {E:Env} {xs:List AV} {vs:List Value} (h:VRels E xs vs) (hp:∀ x∈xs,Pure x) (i:Nat->Nat) (N:Nat):VRels ⟨E.F,E.h,i,N⟩ xs vs:=
 ⟨h.1,fun j x v h1 h2=>(h.2 j x v h1 h2).pure (hp x (List.mem_of_getElem? h1)) i N⟩
def PureGlobs (Γ:Globs):Prop:=∀ g cells,Γ g=some cells->∀ x∈cells,Pure x
theorem GlobsOk.pure {h:Array Obj} {N:Nat} (hg:GlobsOk Γ F h i N) (hp:PureGlobs Γ) (i':Nat->Nat) (N':Nat):GlobsOk Γ F h i' N':=
 ⟨fun g cells e=>(hg.at_ g cells e).pure (.cptr _ _ (hp g cells e)) i' N'⟩
theorem CallOk.anywhere (hΓ:PureGlobs Γ) (h:CallOk P Γ g args Heap.empty y H') (hargs:∀ x∈args,Pure x) (hy:Pure y) (H:Heap):CallOk P Γ g args H y H:=by
 refine ⟨fun hok=>Grow.refl hok,h.fn,fun F G i w args' hH hg hA=>?_⟩
 refine CallsIn.mono (h.does F (Held G i H) i w args' hH.none (hg.pure hΓ _ _) (hA.pure hargs _ _)) fun e w' he=>?_
 cases e with
 | panicked c=>exact he.elim
 | outgrown=>exact he.elim
 | returned v=>
  obtain ⟨F',i',hgv⟩:=he
  obtain ⟨k1,k2⟩:=hH.back hgv.heap hgv.ext
  exact ⟨F',i,hgv.val.pure hy i H.n,k1,k2,Nat.le_refl _⟩
theorem CallOk.fresh (hΓ:PureGlobs Γ) {r off len esz:Nat} {cs:List AV} (h:CallOk P Γ g args Heap.empty (.slice r off len esz) H') (hargs:∀ x∈args,Pure x) (hr:H'.get r=some (.cells cs)) (hcs:∀ x∈cs,Pure x) (H:Heap):
  CallOk P Γ g args H (.slice H.n off len esz) (H.push (.cells cs)):=by
 refine ⟨fun hok=>(Turn.push _).grow hok,h.fn,fun F G i w args' hH hg hA=>?_⟩
 refine CallsIn.mono (h.does F (Held G i H) i w args' hH.none (hg.pure hΓ _ _) (hA.pure hargs _ _)) fun e w' he=>?_
 cases e with
 | panicked c=>exact he.elim
 | outgrown=>exact he.elim
 | returned v=>
  obtain ⟨F',i',hgv⟩:=he
  obtain ⟨k1,k2⟩:=hH.back hgv.heap hgv.ext
  obtain ⟨o,ho,hro⟩:=hgv.heap.row r _ hr
  have hout:=hgv.heap.out r _ hr
  cases hro with
  | cells _ c e z hc=>
   have le:Env.le ⟨F',w'.heap,i,H.n⟩ ⟨F',w'.heap,Abs.put i H.n (i' r),H.n+1⟩:=
    ⟨fun _ h=>h,fun _ _=>rfl,Nat.le_succ _,fun s hs=>put_lt hs,fun _ c e z h=>⟨c,e,z,h,Nat.le_refl _⟩⟩
   have hnew:CellsOk ⟨F',w'.heap,Abs.put i H.n (i' r),H.n+1⟩ cs c z:=⟨hc.len,fun j x v p q=>(hc.val j x v p q).pure (hcs x (List.mem_of_getElem? p)) _ _,hc.free⟩
   refine ⟨F',Abs.put i H.n (i' r),?_,⟨fun s row hs=>?_,fun s row hs=>?_,fun s s' ro ro' h1 h2 e=>?_,k1.old,k1.apart,by simp [Heap.push,hH.ok]⟩,?_,by simp⟩
   ·have hv:=hgv.val
    cases hv with
    | slice _ _ _ _ cap hr' hcap hb=>
     have:=VRel.slice (E:=⟨F',w'.heap,Abs.put i H.n (i' r),H.n+1⟩) H.n off len esz cap (Nat.lt_succ_self _) hcap (by
      obtain ⟨c2,e2,z2,h1,h2⟩:=hb
      exact ⟨c2,e2,z2,by simp only [put_self];exact h1,h2⟩)
     simp only [put_self] at this
     exact this
   ·rcases Heap.get_push hs with ⟨hl,hs⟩ | ⟨rfl,rfl⟩
    ·obtain ⟨o',ho',hr'⟩:=k1.row s row hs
     exact ⟨o',by rw [put_lt hl];exact ho',hr'.mono le⟩
    ·exact ⟨_,by rw [put_self];exact ho,.cells _ _ _ _ hnew⟩
   ·rcases Heap.get_push hs with ⟨hl,hs⟩ | ⟨rfl,rfl⟩
    ·rw [put_lt hl];exact k1.out s row hs
    ·rw [put_self];exact ⟨hout.1,fun hG=>hout.2 (.inl hG)⟩
   ·rcases Heap.get_push h1 with ⟨hl,a1⟩ | ⟨a1,a2⟩<;>rcases Heap.get_push h2 with ⟨hl',b1⟩ | ⟨b1,b2⟩
    ·rw [put_lt hl,put_lt hl'] at e;exact k1.inj s s' ro ro' a1 b1 e
    ·rw [put_lt hl,b1,put_self] at e
     exact absurd (.inr ⟨s,ro,a1,e.symm⟩) hout.2
    ·rw [put_lt hl',a1,put_self] at e
     exact absurd (.inr ⟨s',ro',b1,e⟩) hout.2
    ·omega
   ·exact { k2 with same:=fun s hs=>put_lt hs }
end
end Go.Abs
end
noncomputable section
namespace Go.Abs
structure RunS where
  run:St->Option (Exit × St)
structure OpS where
  run:(Operand->AV)->Heap->Option (AV × Heap)
def lget (l:List AV):Nat->AV:=
  List.rec (motive:=fun _=>Nat->AV) (fun _=>.top) (fun x _ ih n=>Nat.rec (motive:=fun _=>AV) x (fun m _=>ih m) n) l
def lset (l:List AV) (y:AV):Nat->List AV:=
  List.rec (motive:=fun _=>Nat->List AV) (fun _=>[]) (fun x xs ih n=>Nat.rec (motive:=fun _=>List AV) (y::xs) (fun m _=>x::ih m) n) l
theorem lget_eq (l:List AV) (n:Nat):lget l n=(l[n]?).getD .top:=by
  induction l generalizing n with
  | nil=>rfl
  | cons x xs ih=>cases n with
    | zero=>rfl
    | succ n=>rw [List.getElem?_cons_succ,←ih n];rfl
theorem lset_eq (l:List AV) (y:AV) (n:Nat):lset l y n=l.set n y:=by
  induction l generalizing n with
  | nil=>rfl
  | cons x xs ih=>cases n with
    | zero=>rfl
    | succ n=>simp only [List.set_cons_succ,←ih n];rfl
def evF (Γ:Globs) (tmps:List AV):Operand->AV
  | .tmp t=>lget tmps t
  | .const v=>ofV v
  | .global g=>match Γ g with
    | some cells=>.cptr cells 0
    | none=>.top
  | .func f=>.func f [] []
theorem evF_eq (Γ:Globs) (tmps:List AV):evF Γ tmps=ev Γ tmps:=by
  funext x;cases x<;>first | exact lget_eq _ _ | rfl
def vH (x:Option AV) (H:Heap):Option (AV × Heap):=
  match x with
  | some y=>some (y,H)
  | none=>none
def aoperS (P:Program) (fs:Fns) (o:Oper):OpS:=
  match o.op with
  | .move x=>⟨fun ρ H=>some (ρ x,H)⟩
  | .assign x=>⟨fun ρ H=>some (ρ x,H)⟩
  | .load t a=>⟨fun ρ H=>vH (aload P H t (ρ a)) H⟩
  | .nilCheck x=>⟨fun ρ H=>vH (anilCheck (ρ x)) H⟩
  | .binOp op t x y _=>⟨fun ρ H=>vH (abinOp P op t (isConst x) (isConst y) (ρ x) (ρ y)) H⟩
  | .unOp op _ x=>⟨fun ρ H=>vH (aunary op (ρ x)) H⟩
  | .fieldAddr s x f=>⟨fun ρ H=>vH (afieldAddr P s (ρ x) f) H⟩
  | .field t x f=>⟨fun ρ H=>vH (afield P t (ρ x) f) H⟩
  | .indexAddr t x ix=>⟨fun ρ H=>vH (aindexAddr P t (ρ x) (ρ ix)) H⟩
  | .index t x ix=>⟨fun ρ H=>vH (aindex P t (ρ x) (ρ ix)) H⟩
  | .extract x k=>⟨fun ρ H=>vH (aextract (ρ x) k) H⟩
  | _=>⟨fun ρ H=>aoper P fs ρ H o⟩
theorem aoperS_run (P:Program) (fs:Fns) (o:Oper) (ρ:Operand->AV) (H:Heap):(aoperS P fs o).run ρ H=aoper P fs ρ H o:=by
  unfold aoperS
  split<;>rename_i ho<;>first
    | rfl
    | (simp only [aoper,aop,ho,vH];done)
    | (simp only [aoper,aop,ho,vH];rfl)
def astepS (P:Program) (fs:Fns) (ops:Array Oper) (o:Oper):OpS:=
  match o.guard with
  | none=>aoperS P fs o
  | some _=>⟨fun ρ H=>astep P fs ops ρ H o⟩
theorem astepS_run (P:Program) (fs:Fns) (ops:Array Oper) (o:Oper) (ρ:Operand->AV) (H:Heap):(astepS P fs ops o).run ρ H=astep P fs ops ρ H o:=by
  unfold astepS
  split
  · rename_i hg
    rw [aoperS_run]
    simp only [astep,awanted,hg]
  · rfl
def aopsS (P:Program) (Γ:Globs) (fs:Fns) (ops:Array Oper) (l:List Oper):St->Option St:=
  List.rec (motive:=fun _=>St->Option St) (fun σ=>some σ)
    (fun o _ ih σ=>match (astepS P fs ops o).run (evF Γ σ.tmps) σ.H with
      | some (y,H')=>match o.dst with
        | some d=>ih { σ with tmps:=lset σ.tmps y d,H:=H' }
        | none=>ih { σ with H:=H' }
      | none=>none) l
theorem aopsS_run (P:Program) (Γ:Globs) (fs:Fns) (ops:Array Oper) (l:List Oper):∀ σ,aopsS P Γ fs ops l σ=aops P Γ fs ops l σ:=by
  induction l with
  | nil=>intro σ;rfl
  | cons o l ih=>
    intro σ
    have e:aopsS P Γ fs ops (o::l) σ=(match (astepS P fs ops o).run (evF Γ σ.tmps) σ.H with
      | some (y,H')=>match o.dst with
        | some d=>aopsS P Γ fs ops l { σ with tmps:=lset σ.tmps y d,H:=H' }
        | none=>aopsS P Γ fs ops l { σ with H:=H' }
      | none=>none):=rfl
    rw [e,astepS_run,evF_eq]
    simp only [aops]
    cases hst:astep P fs ops (ev Γ σ.tmps) σ.H o with
    | none=>rfl
    | some r=>
      obtain ⟨y,H'⟩:=r
      cases hd:o.dst with
      | none=>simp only [ih,aput]
      | some d=>simp only [ih,aput,lset_eq]
def acodeS (P:Program) (Γ:Globs) (fs:Fns) (dr:Array Oper->St->Option St) (lf:Nat) (ro:Option Nat):Code->RunS
  | .skip=>⟨fun σ=>some (.normal,σ)⟩
  | .label _=>⟨fun σ=>some (.normal,σ)⟩
  | .region _ ops d=>match d with
    | true=>⟨fun σ=>match dr ops σ with
      | some σ'=>some (.normal,σ')
      | none=>none⟩
    | false=>⟨fun σ=>match aopsS P Γ fs ops ops.toList σ with
      | some σ'=>some (.normal,σ')
      | none=>none⟩
  | .seq x y=>⟨fun σ=>match (acodeS P Γ fs dr lf ro x).run σ with
    | some (.normal,σ')=>(acodeS P Γ fs dr lf ro y).run σ'
    | r=>r⟩
  | .cond c x y=>⟨fun σ=>match evF Γ σ.tmps c with
    | .bool true=>(acodeS P Γ fs dr lf ro x).run σ
    | .bool false=>(acodeS P Γ fs dr lf ro y).run σ
    | _=>none⟩
  | .block id x=>⟨fun σ=>match (acodeS P Γ fs dr lf ro x).run σ with
    | some (.exit k,σ')=>if k=id then some (.normal,σ') else some (.exit k,σ')
    | r=>r⟩
  | .loop x=>⟨aloop (acodeS P Γ fs dr lf ro x).run lf⟩
  | .rangeFunc g ps as bd=>⟨arange Γ fs ro g ps as bd⟩
  | .exit id=>⟨fun σ=>some (.exit id,σ)⟩
  | .goto l=>⟨fun σ=>some (.goto l,σ)⟩
  | .ret=>⟨fun σ=>some (.ret,σ)⟩
  | .scope x=>⟨fun σ=>match (acodeS P Γ fs dr lf ro x).run σ with
    | some (.goto _,_)=>none
    | r=>r⟩
  | _=>⟨fun _=>none⟩
theorem acodeS_run (P:Program) (Γ:Globs) (fs:Fns) (dr:Array Oper->St->Option St) (lf:Nat) (ro:Option Nat):∀ (c:Code),(acodeS P Γ fs dr lf ro c).run=acode P Γ fs dr lf ro c:=by
  intro c
  induction c with
  | region id ops d=>
    funext σ
    cases d with
    | true=>rfl
    | false=>simp only [acodeS,acode,aopsS_run]<;>rfl
  | seq x y ihx ihy=>funext σ;simp only [acodeS,acode,ihx,ihy]<;>rfl
  | cond c x y ihx ihy=>funext σ;simp only [acodeS,acode,ihx,ihy,evF_eq]<;>rfl
  | block id x ih=>funext σ;simp only [acodeS,acode,ih]<;>rfl
  | loop x ih=>funext σ;simp only [acodeS,acode,ih]
  | scope x ih=>funext σ;simp only [acodeS,acode,ih]<;>rfl
  | _=>rfl
def apure:Nat->AV->Bool
  | 0,_=>false
  | k+1,x=>match x with
    | .ptr .. | .slice .. | .map _ | .yield _=>false
    | .cptr c _ | .list _ c | .nl _ c | .agg c | .tuple c=>c.all (apure k)
    | .func _ a b=>a.all (apure k)&&b.all (apure k)
    | .iface _ v=>apure k v
    | _=>true
theorem apure_pure:∀ (k:Nat) (x:AV),apure k x=true->Pure x:=by
  intro k
  induction k with
  | zero=>intro x h;simp [apure] at h
  | succ k ih=>
    intro x h
    cases x<;>simp only [apure,Bool.and_eq_true,List.all_eq_true,Bool.false_eq_true] at h<;>first
      | (constructor;done)
      | (rename_i k' o;cases o;exact .nan _;exact .float _ _)
      | exact .cptr _ _ fun x hx=>ih x (h x hx)
      | exact .list _ _ fun x hx=>ih x (h x hx)
      | exact .nl _ _ fun x hx=>ih x (h x hx)
      | exact .agg _ fun x hx=>ih x (h x hx)
      | exact .tuple _ fun x hx=>ih x (h x hx)
      | exact .func _ _ _ (fun x hx=>ih x (h.1 x hx)) (fun x hx=>ih x (h.2 x hx))
      | exact .iface _ _ (ih _ h)
abbrev Tab:=FuncId->List (List AV × AV)
def tfind (args:List AV):List (List AV × AV)->Option AV
  | []=>none
  | (xs,y)::rest=>if asame.all 16 xs args then some y else tfind args rest
def callP (call:FuncId->List AV->Heap->Option (AV × Heap)) (sel:FuncId->Nat) (T:Tab) (g:FuncId) (args:List AV) (H:Heap):Option (AV × Heap):=
  match sel g with
  | 0=>call g args H
  | k+1=>match args.all (apure 8) with
    | false=>call g args H
    | true=>match tfind args (T g) with
      | some y=>some (y,H)
      | none=>match call g args Heap.empty with
        | some (y,H')=>match apure 8 y with
          | true=>some (y,H)
          | false=>match y with
            | .slice r off len esz=>match H'.get r with
              | some (.cells cs)=>if cs.all (apure 8) then some (.slice H.n off len esz,H.push (.cells cs)) else none
              | _=>none
            | _=>none
        | none=>none
def TabOk (P:Program) (Γ:Globs) (T:Tab):Prop:=∀ g args y,(args,y)∈T g->Pure y/\∃ H',CallOk P Γ g args Heap.empty y H'
theorem tfind_mem {args:List AV} {y:AV}:∀ (l:List (List AV × AV)),tfind args l=some y->(args,y)∈l:=by
  intro l
  induction l with
  | nil=>intro h;simp [tfind] at h
  | cons e l ih=>
    obtain ⟨xs,z⟩:=e
    intro h
    simp only [tfind] at h
    split at h
    · rename_i hs
      simp only [Option.some.injEq] at h;subst h
      have:=(asame_eq 16).2 _ _ hs
      subst this
      exact List.mem_cons_self
    · exact List.mem_cons_of_mem _ (ih h)
theorem callP_ok {P:Program} {Γ:Globs} (hΓ:PureGlobs Γ) {call:FuncId->List AV->Heap->Option (AV × Heap)} (hc:∀ g args H y H',call g args H=some (y,H')->CallOk P Γ g args H y H') {sel:FuncId->Nat} {T:Tab} (hT:TabOk P Γ T)
    {g:FuncId} {args:List AV} {H H':Heap} {y:AV} (h:callP call sel T g args H=some (y,H')):CallOk P Γ g args H y H':=by
  unfold callP at h
  split at h
  · exact hc _ _ _ _ _ h
  · split at h
    · exact hc _ _ _ _ _ h
    · rename_i hp
      have hargs:∀ x∈args,Pure x:=fun x hx=>apure_pure 8 x (List.all_eq_true.1 hp x hx)
      split at h
      · rename_i y' hy
        simp only [Option.some.injEq,Prod.mk.injEq] at h
        obtain ⟨rfl,rfl⟩:=h
        obtain ⟨h1,H2,h2⟩:=hT _ _ _ (tfind_mem _ hy)
        exact h2.anywhere hΓ hargs h1 H
      · split at h
        · rename_i y' H2 hcall
          split at h
          · rename_i hy
            simp only [Option.some.injEq,Prod.mk.injEq] at h
            obtain ⟨rfl,rfl⟩:=h
            exact (hc _ _ _ _ _ hcall).anywhere hΓ hargs (apure_pure 8 _ hy) H
          · split at h
            · rename_i r off len esz _
              split at h
              · rename_i cs hr
                split at h
                · rename_i hcs
                  simp only [Option.some.injEq,Prod.mk.injEq] at h
                  obtain ⟨rfl,rfl⟩:=h
                  exact (hc _ _ _ _ _ hcall).fresh hΓ hargs hr (fun x hx=>apure_pure 8 x (List.all_eq_true.1 hcs x hx)) H
                · cases h
              · cases h
            · cases h
        · cases h
end Go.Abs
end
noncomputable section
namespace Go.Abs
inductive TT where
 | leaf
 | node (v:AV) (l r:TT)
def way:Nat->Nat->List Bool
 | 0,_=>[]
 | k+1,n=>match n with
  | 0=>[]
  | m+1=>(m%2==0)::way k (m / 2)
def unway:List Bool->Nat
 | []=>0
 | true::p=>2*unway p+1
 | false::p=>2*unway p+2
theorem unway_way:∀ (k n:Nat),n<2 ^ k-1->unway (way k n)=n:=by
 intro k
 induction k with
 | zero=>intro n h;simp at h
 | succ k ih=>
  intro n h
  cases n with
  | zero=>rfl
  | succ m=>
   have hp:2 ^ (k+1)=2*2 ^ k:=by rw [Nat.pow_succ];omega
   have hi:=ih (m / 2) (by omega)
   simp only [way]
   cases hm:(m%2==0) with
   | true=>
    have:=beq_iff_eq.1 hm
    simp only [unway,hi];omega
   | false=>
    have:=beq_eq_false_iff_ne.1 hm
    simp only [unway,hi];omega
theorem way_inj {k n m:Nat} (hn:n<2 ^ k-1) (hm:m<2 ^ k-1) (h:way k n=way k m):n=m:=by
 rw [←unway_way k n hn,←unway_way k m hm,h]
def tgetW (p:List Bool):TT->AV:=
 List.rec (motive:=fun _=>TT->AV) (fun t=>TT.casesOn (motive:=fun _=>AV) t .top (fun v _ _=>v))
  (fun b _ ih=>Bool.rec (motive:=fun _=>TT->AV) (fun t=>TT.casesOn (motive:=fun _=>AV) t .top (fun _ _ r=>ih r)) (fun t=>TT.casesOn (motive:=fun _=>AV) t .top (fun _ l _=>ih l)) b) p
def tsetW (p:List Bool):AV->TT->TT:=
 List.rec (motive:=fun _=>AV->TT->TT) (fun y t=>TT.casesOn (motive:=fun _=>TT) t .leaf (fun _ l r=>.node y l r))
  (fun b _ ih=>Bool.rec (motive:=fun _=>AV->TT->TT) (fun y t=>TT.casesOn (motive:=fun _=>TT) t .leaf (fun v l r=>.node v l (ih y r))) (fun y t=>TT.casesOn (motive:=fun _=>TT) t .leaf (fun v l r=>.node v (ih y l) r)) b) p
def has:List Bool->TT->Bool
 | _,.leaf=>false
 | [],.node ..=>true
 | true::p,.node _ l _=>has p l
 | false::p,.node _ _ r=>has p r
theorem tget_hasnt:∀ (p:List Bool) (t:TT),has p t=false->tgetW p t=.top:=by
 intro p
 induction p with
 | nil=>intro t h;cases t with
  | leaf=>rfl
  | node=>simp [has] at h
 | cons b p ih=>
  intro t h
  cases t with
  | leaf=>cases b<;>rfl
  | node v l r=>cases b with
   | true=>exact ih l (by simpa [has] using h)
   | false=>exact ih r (by simpa [has] using h)
theorem has_set (y:AV):∀ (q p:List Bool) (t:TT),has p (tsetW q y t)=has p t:=by
 intro q
 induction q with
 | nil=>intro p t;cases t with
  | leaf=>rfl
  | node v l r=>cases p with
   | nil=>rfl
   | cons b p=>cases b<;>rfl
 | cons c q ih=>
  intro p t
  cases t with
  | leaf=>cases c<;>rfl
  | node v l r=>
   cases p with
   | nil=>cases c<;>rfl
   | cons b p=>
    cases c<;>cases b
    ·exact ih p r
    ·rfl
    ·rfl
    ·exact ih p l
theorem tget_set (y:AV):∀ (q p:List Bool) (t:TT),tgetW p (tsetW q y t)=if p=q/\has q t=true then y else tgetW p t:=by
 intro q
 induction q with
 | nil=>intro p t;cases t with
  | leaf=>simp [has];rfl
  | node v l r=>cases p with
   | nil=>simp [has];rfl
   | cons b p=>simp;cases b<;>rfl
 | cons c q ih=>
  intro p t
  cases t with
  | leaf=>simp [has];cases c<;>rfl
  | node v l r=>
   cases p with
   | nil=>simp;cases c<;>rfl
   | cons b p=>
    cases c<;>cases b
    ·have:=ih p r
     simp only [has,List.cons.injEq,true_and]
     exact this
    ·simp;rfl
    ·simp;rfl
    ·have:=ih p l
     simp only [has,List.cons.injEq,true_and]
     exact this
def tfill (y:AV):Nat->Nat->TT
 | 0,_=>.leaf
 | k+1,n=>match n with
  | 0=>.leaf
  | m+1=>.node y (tfill y k ((m+1) / 2)) (tfill y k (m / 2))
theorem tfill_has (y:AV):∀ (k n j:Nat),n<2 ^ k->j<2 ^ k-1->has (way k j) (tfill y k n)=decide (j<n):=by
 intro k
 induction k with
 | zero=>intro n j hn hj;simp at hj
 | succ k ih=>
  intro n j hn hj
  have hp:2 ^ (k+1)=2*2 ^ k:=by rw [Nat.pow_succ];omega
  cases n with
  | zero=>simp only [tfill];cases way (k+1) j<;>simp [has]
  | succ m=>
   cases j with
   | zero=>simp [way,tfill,has]
   | succ j=>
    simp only [way,tfill]
    cases hm:(j%2==0) with
    | true=>
     have:=beq_iff_eq.1 hm
     simp only [has,ih ((m+1) / 2) (j / 2) (by omega) (by omega)]
     exact decide_eq_decide.2 (by omega)
    | false=>
     have:=beq_eq_false_iff_ne.1 hm
     simp only [has,ih (m / 2) (j / 2) (by omega) (by omega)]
     exact decide_eq_decide.2 (by omega)
theorem tfill_get (y:AV):∀ (k:Nat) (p:List Bool) (n:Nat),has p (tfill y k n)=true->tgetW p (tfill y k n)=y:=by
 intro k
 induction k with
 | zero=>intro p n h;cases p<;>simp [tfill,has] at h
 | succ k ih=>
  intro p n h
  cases n with
  | zero=>cases p<;>simp [tfill,has] at h
  | succ m=>
   cases p with
   | nil=>rfl
   | cons b p=>cases b with
    | true=>exact ih p _ (by simpa [tfill,has] using h)
    | false=>exact ih p _ (by simpa [tfill,has] using h)
structure Holds (t:TT) (l:List AV):Prop where
 n:l.length<2 ^ 16
 has:∀ k,k<65535->Go.Abs.has (way 16 k) t=decide (k<l.length)
 get:∀ k,k<65535->tgetW (way 16 k) t=(l[k]?).getD .top
theorem Holds.set {t:TT} {l:List AV} (h:Holds t l) (d:Nat) (hd:d<65535) (y:AV):Holds (tsetW (way 16 d) y t) (l.set d y):=by
 refine ⟨by simpa using h.n,fun k hk=>?_,fun k hk=>?_⟩
 ·rw [has_set,h.has k hk,List.length_set]
 ·rw [tget_set,h.get k hk,h.has d hd,List.getElem?_set]
  by_cases e:k=d
  ·subst e
   simp only [true_and,if_true]
   by_cases hl:k<l.length
   ·simp [hl]
   ·simp [hl]
  ·have:¬ way 16 k=way 16 d:=fun hw=>e (way_inj (k:=16) (by omega) (by omega) hw)
   rw [if_neg (fun h=>this h.1),if_neg (fun h=>e h.symm)]
theorem holds_fill (y:AV) (n:Nat) (hn:n<2 ^ 16):Holds (tfill y 16 n) (List.replicate n y):=by
 refine ⟨by simpa using hn,fun k hk=>?_,fun k hk=>?_⟩
 ·rw [tfill_has y 16 n k hn (by omega)];simp
 ·rw [List.getElem?_replicate]
  cases hh:has (way 16 k) (tfill y 16 n) with
  | true=>
   rw [tfill_get y 16 _ n hh]
   rw [tfill_has y 16 n k hn (by omega)] at hh
   rw [if_pos (of_decide_eq_true hh)];rfl
  | false=>
   rw [tget_hasnt _ _ hh]
   rw [tfill_has y 16 n k hn (by omega)] at hh
   rw [if_neg (of_decide_eq_false hh)];rfl
def toL (t:TT):Nat->Nat->List AV
 | 0,_=>[]
 | m+1,k=>tgetW (way 16 k) t::toL t m (k+1)
theorem toL_eq {t:TT} {l:List AV} (h:Holds t l):∀ (m k:Nat),m+k=l.length->m+k<=65535->toL t m k=l.drop k:=by
 intro m
 induction m with
 | zero=>intro k hk _;simp [toL,List.drop_of_length_le (by omega:l.length<=k)]
 | succ m ih=>
  intro k hk hb
  have hlt:k<l.length:=by omega
  rw [toL,ih (k+1) (by omega) (by omega),h.get k (by omega),List.getElem?_eq_getElem hlt,List.drop_eq_getElem_cons hlt]
  rfl
end Go.Abs
end
noncomputable section
namespace Go.Abs
structure StT where
 t:TT
 n:Nat
 H:Heap
 d:List Nat
structure GetS where
 run:TT->AV
structure SetS where
 run:AV->TT->TT
structure RunT where
 run:Fns->StT->Option (Exit × StT)
structure OpT where
 run:Fns->TT->Heap->Option (AV × Heap)
def evT (Γ:Globs):Operand->GetS
 | .tmp t=>match Nat.blt t 65535 with
  | true=>⟨tgetW (way 16 t)⟩
  | false=>⟨fun _=>.top⟩
 | .const v=>⟨fun _=>ofV v⟩
 | .global g=>⟨fun _=>match Γ g with
  | some cells=>.cptr cells 0
  | none=>.top⟩
 | .func f=>⟨fun _=>.func f [] []⟩
def setT:Option Tmp->SetS
 | some d=>match Nat.blt d 65535 with
  | true=>⟨tsetW (way 16 d)⟩
  | false=>⟨fun _ t=>t⟩
 | none=>⟨fun _ t=>t⟩
def aoperT (P:Program) (Γ:Globs) (o:Oper):OpT:=
 match o.op with
 | .move x=>⟨fun fs t H=>some ((evT Γ x).run t,H)⟩
 | .assign x=>⟨fun fs t H=>some ((evT Γ x).run t,H)⟩
 | .load ty a=>⟨fun fs t H=>vH (aload P H ty ((evT Γ a).run t)) H⟩
 | .nilCheck x=>⟨fun fs t H=>vH (anilCheck ((evT Γ x).run t)) H⟩
 | .binOp op ty x y _=>⟨fun fs t H=>vH (abinOp P op ty (isConst x) (isConst y) ((evT Γ x).run t) ((evT Γ y).run t)) H⟩
 | .unOp op _ x=>⟨fun fs t H=>vH (aunary op ((evT Γ x).run t)) H⟩
 | .fieldAddr s x f=>⟨fun fs t H=>vH (afieldAddr P s ((evT Γ x).run t) f) H⟩
 | .field ty x f=>⟨fun fs t H=>vH (afield P ty ((evT Γ x).run t) f) H⟩
 | .indexAddr ty x ix=>⟨fun fs t H=>vH (aindexAddr P ty ((evT Γ x).run t) ((evT Γ ix).run t)) H⟩
 | .index ty x ix=>⟨fun fs t H=>vH (aindex P ty ((evT Γ x).run t) ((evT Γ ix).run t)) H⟩
 | .extract x k=>⟨fun fs t H=>vH (aextract ((evT Γ x).run t) k) H⟩
 | _=>⟨fun fs t H=>aoper P fs (fun x=>(evT Γ x).run t) H o⟩
def astepT (P:Program) (Γ:Globs) (ops:Array Oper) (o:Oper):OpT:=
 match o.guard with
 | none=>aoperT P Γ o
 | some _=>⟨fun fs t H=>astep P fs ops (fun x=>(evT Γ x).run t) H o⟩
def aopsT (P:Program) (Γ:Globs) (ops:Array Oper) (l:List Oper):Fns->StT->Option StT:=
 List.rec (motive:=fun _=>Fns->StT->Option StT) (fun _ σ=>some σ)
  (fun o _ ih fs σ=>match (astepT P Γ ops o).run fs σ.t σ.H with
   | some (y,H')=>ih fs { σ with t:=(setT o.dst).run y σ.t,H:=H' }
   | none=>none) l
def tputs (t:TT):List Rec->TT
 | []=>t
 | r::rs=>(setT r.o.dst).run r.y (tputs t rs)
def tlay:List Rec->TT->Heap->TT × Heap
 | [],t,H=>(t,H)
 | r::rs,t,H=>match r.fl with
  | some z=>((setT r.o.dst).run (flAt z.1 (tlay rs t H).2.n) (tlay rs t H).1,(tlay rs t H).2.push (.cells z.2))
  | none=>tlay rs t H
structure PlanT where
 run:Option (List Nat × Nat)
def planT (ops:Array Oper):PlanT:=
 ⟨match amasks ops.toList 0 [] with
 | some Ms=>match awriters (Ms.take (asplit Ms 0 0)) ((ops.toList.take (asplit Ms 0 0)).map (·.dst)) ((ops.toList.take (asplit Ms 0 0)).map (·.dst)) 0 with
  | true=>some (Ms.take (asplit Ms 0 0),asplit Ms 0 0)
  | false=>none
 | none=>none⟩
def StT.down (σ:StT):St:={ tmps:=toL σ.t σ.n 0,H:=σ.H,defers:=σ.d }
def adrawT (P:Program) (Γ:Globs) (fs:Fns) (ops:Array Oper) (σ:StT):Option StT:=
 match (planT ops).run with
 | some (Ms,p)=>match arecC (achkAt P fs ops) P Γ fs ops Ms ((ops.toList.take p).map (·.dst)) σ.down (ops.toList.take p) 0 [] with
  | some acc=>aopsT P Γ ops (ops.toList.drop p) fs { σ with t:=(tlay acc (tputs σ.t acc) (atop σ.H acc)).1,H:=(tlay acc (tputs σ.t acc) (atop σ.H acc)).2 }
  | none=>none
 | none=>none
def aloopT (step:StT->Option (Exit × StT)):Nat->StT->Option (Exit × StT)
 | 0,_=>none
 | n+1,σ=>match step σ with
  | some (.normal,σ')=>aloopT step n σ'
  | r=>r
def acodeT (P:Program) (Γ:Globs) (lf:Nat) (ro:Option Nat):Code->RunT
 | .skip=>⟨fun fs σ=>some (.normal,σ)⟩
 | .label _=>⟨fun fs σ=>some (.normal,σ)⟩
 | .region _ ops d=>match d with
  | true=>⟨fun fs σ=>match adrawT P Γ fs ops σ with
   | some σ'=>some (.normal,σ')
   | none=>none⟩
  | false=>⟨fun fs σ=>match aopsT P Γ ops ops.toList fs σ with
   | some σ'=>some (.normal,σ')
   | none=>none⟩
 | .seq x y=>⟨fun fs σ=>match (acodeT P Γ lf ro x).run fs σ with
  | some (.normal,σ')=>(acodeT P Γ lf ro y).run fs σ'
  | r=>r⟩
 | .cond c x y=>⟨fun fs σ=>match (evT Γ c).run σ.t with
  | .bool true=>(acodeT P Γ lf ro x).run fs σ
  | .bool false=>(acodeT P Γ lf ro y).run fs σ
  | _=>none⟩
 | .block id x=>⟨fun fs σ=>match (acodeT P Γ lf ro x).run fs σ with
  | some (.exit k,σ')=>if k=id then some (.normal,σ') else some (.exit k,σ')
  | r=>r⟩
 | .loop x=>⟨fun fs=>aloopT ((acodeT P Γ lf ro x).run fs) lf⟩
 | .rangeFunc g ps as bd=>⟨fun fs σ=>match arange Γ fs ro g ps as bd σ.down with
  | some (e,τ)=>some (e,{ σ with H:=τ.H,d:=τ.defers })
  | none=>none⟩
 | .exit id=>⟨fun fs σ=>some (.exit id,σ)⟩
 | .goto l=>⟨fun fs σ=>some (.goto l,σ)⟩
 | .ret=>⟨fun fs σ=>some (.ret,σ)⟩
 | .scope x=>⟨fun fs σ=>match (acodeT P Γ lf ro x).run fs σ with
  | some (.goto _,_)=>none
  | r=>r⟩
 | _=>⟨fun _ _=>none⟩
structure TRel (σ:StT) (τ:St):Prop where
 n:σ.n=τ.tmps.length
 t:Holds σ.t τ.tmps
 H:σ.H=τ.H
 d:σ.d=τ.defers
variable {P : Program} {Γ : Globs} {fs : Fns} {ops : Array Oper} {σ σ' : StT} {τ : St} {e : Exit}
theorem TRel.down (h:TRel σ τ):σ.down=τ:=by
 obtain ⟨hn,ht,hH,hd⟩:=h
 have:=toL_eq ht σ.n 0 (by omega) (by have:=ht.n;omega)
 unfold StT.down
 rw [this,hH,hd]
 rfl
theorem blt_lt {a b:Nat} (h:Nat.blt a b=true):a<b:=by
 have:=Nat.le_of_ble_eq_true h
 omega
theorem blt_ge {a b:Nat} (h:Nat.blt a b=false):b<=a:=by
 rcases Nat.lt_or_ge a b with hl | hl
 ·have:Nat.blt a b=true:=Nat.ble_eq_true_of_le hl
  rw [this] at h;cases h
 ·exact hl
theorem evT_eq {t:TT} {l:List AV} (h:Holds t l) (x:Operand):(evT Γ x).run t=ev Γ l x:=by
 cases x with
 | tmp k=>
  simp only [evT,ev]
  cases hk:Nat.blt k 65535 with
  | true=>exact h.get k (blt_lt hk)
  | false=>
   have:l.length<=k:=Nat.le_trans (Nat.le_of_lt_succ h.n) (blt_ge hk)
   simp [List.getElem?_eq_none this]
 | const v=>rfl
 | global g=>rfl
 | func f=>rfl
theorem setT_holds {t:TT} {l:List AV} (h:Holds t l) (d:Option Tmp) (y:AV):Holds ((setT d).run y t) (aput l d y):=by
 cases d with
 | none=>exact h
 | some d=>
  simp only [setT,aput]
  cases hk:Nat.blt d 65535 with
  | true=>exact h.set d (blt_lt hk) y
  | false=>
   have:l.length<=d:=Nat.le_trans (Nat.le_of_lt_succ h.n) (blt_ge hk)
   rw [List.set_eq_of_length_le this]
   exact h
theorem aoperT_run {t:TT} {l:List AV} (h:Holds t l) (H:Heap) (o:Oper):(aoperT P Γ o).run fs t H=aoper P fs (ev Γ l) H o:=by
 have e:(fun x=>(evT Γ x).run t)=ev Γ l:=funext fun x=>evT_eq h x
 unfold aoperT
 split<;>rename_i ho<;>first
  | (simp only [aoper,aop,ho,vH,evT_eq h];done)
  | (simp only [aoper,aop,ho,vH,evT_eq h];rfl)
  | (simp only [e])
theorem astepT_run {t:TT} {l:List AV} (h:Holds t l) (H:Heap) (o:Oper):(astepT P Γ ops o).run fs t H=astep P fs ops (ev Γ l) H o:=by
 have e:(fun x=>(evT Γ x).run t)=ev Γ l:=funext fun x=>evT_eq h x
 unfold astepT
 split
 ·rename_i hg
  rw [aoperT_run h]
  simp only [astep,awanted,hg]
 ·simp only [e]
theorem aopsT_ok:∀ (l:List Oper) (σ σ':StT) (τ:St),TRel σ τ->aopsT P Γ ops l fs σ=some σ'->∃ τ',TRel σ' τ'/\aops P Γ fs ops l τ=some τ':=by
 intro l
 induction l with
 | nil=>intro σ σ' τ h hr;simp only [aopsT,Option.some.injEq] at hr;subst hr;exact ⟨τ,h,rfl⟩
 | cons o l ih=>
  intro σ σ' τ h hr
  have e1:aopsT P Γ ops (o::l) fs σ=(match (astepT P Γ ops o).run fs σ.t σ.H with
   | some (y,H')=>aopsT P Γ ops l fs { σ with t:=(setT o.dst).run y σ.t,H:=H' }
   | none=>none):=rfl
  rw [e1,astepT_run h.t,h.H] at hr
  simp only [aops]
  cases hst:astep P fs ops (ev Γ τ.tmps) τ.H o with
  | none=>rw [hst] at hr;cases hr
  | some r=>
   obtain ⟨y,H'⟩:=r
   rw [hst] at hr
   exact ih { σ with t:=(setT o.dst).run y σ.t,H:=H' } σ' { τ with tmps:=aput τ.tmps o.dst y,H:=H' } ⟨by show σ.n=_;rw [h.n];exact (aput_length _ _ _).symm,setT_holds h.t o.dst y,rfl,h.d⟩ hr
theorem tputs_holds {t:TT} {l:List AV} (h:Holds t l):∀ (R:List Rec),Holds (tputs t R) (aputs l R):=by
 intro R
 induction R with
 | nil=>exact h
 | cons r rs ih=>exact setT_holds ih r.o.dst r.y
theorem tlay_holds {t:TT} {l:List AV} {H:Heap} (h:Holds t l):∀ (R:List Rec),Holds (tlay R t H).1 (alay R l H).1/\(tlay R t H).2=(alay R l H).2/\(alay R l H).1.length=l.length:=by
 intro R
 induction R with
 | nil=>exact ⟨h,rfl,rfl⟩
 | cons r rs ih=>
  obtain ⟨i1,i2,i3⟩:=ih
  cases hfl:r.fl with
  | none=>simp only [tlay,alay,hfl];exact ⟨i1,i2,i3⟩
  | some z=>
   simp only [tlay,alay,hfl,i2]
   exact ⟨setT_holds i1 _ _,trivial,by rw [aput_length];exact i3⟩
theorem adrawT_ok (h:TRel σ τ) (hr:adrawT P Γ fs ops σ=some σ'):∃ τ',TRel σ' τ'/\adraw P Γ fs ops τ=some τ':=by
 unfold adrawT planT at hr
 unfold adraw adrawC
 split at hr
 ·rename_i Ms p hp
  simp only at hp
  split at hp
  ·rename_i Mf hMf
   split at hp
   ·rename_i hw
    simp only [Option.some.injEq,Prod.mk.injEq] at hp
    obtain ⟨rfl,rfl⟩:=hp
    simp only [hMf,hw]
    rw [h.down] at hr
    cases hacc:arecC (achkAt P fs ops) P Γ fs ops (List.take (asplit Mf 0 0) Mf) ((ops.toList.take (asplit Mf 0 0)).map (·.dst)) τ (ops.toList.take (asplit Mf 0 0)) 0 [] with
    | none=>rw [hacc] at hr;cases hr
    | some acc=>
     rw [hacc] at hr
     simp only at hr ⊢
     have hp:=tputs_holds h.t acc
     obtain ⟨k1,k2,k3⟩:=tlay_holds (H:=atop σ.H acc) hp acc
     rw [h.H] at k1 k2 k3
     refine aopsT_ok _ { σ with t:=(tlay acc (tputs σ.t acc) (atop σ.H acc)).1,H:=(tlay acc (tputs σ.t acc) (atop σ.H acc)).2 } σ' { τ with tmps:=(alay acc (aputs τ.tmps acc) (atop τ.H acc)).1,H:=(alay acc (aputs τ.tmps acc) (atop τ.H acc)).2 } ⟨?_,?_,?_,h.d⟩ hr
     ·show σ.n=_
      rw [h.n,k3,aputs_length]
     ·show Holds (tlay acc (tputs σ.t acc) (atop σ.H acc)).1 _
      rw [h.H];exact k1
     ·show (tlay acc (tputs σ.t acc) (atop σ.H acc)).2=_
      rw [h.H];exact k2
   ·cases hp
  ·cases hp
 ·cases hr
theorem aloopT_ok {f:StT->Option (Exit × StT)} {g:St->Option (Exit × St)} (hf:∀ σ τ e σ',TRel σ τ->f σ=some (e,σ')->∃ τ',TRel σ' τ'/\g τ=some (e,τ')):
  ∀ (n:Nat) (σ:StT) (τ:St) (e:Exit) (σ':StT),TRel σ τ->aloopT f n σ=some (e,σ')->∃ τ',TRel σ' τ'/\aloop g n τ=some (e,τ'):=by
 intro n
 induction n with
 | zero=>intro σ τ e σ' _ h;simp [aloopT] at h
 | succ n ih=>
  intro σ τ e σ' hr h
  simp only [aloopT] at h
  split at h
  ·rename_i σ1 h1
   obtain ⟨τ1,r1,g1⟩:=hf _ _ _ _ hr h1
   obtain ⟨τ2,r2,g2⟩:=ih _ _ _ _ r1 h
   exact ⟨τ2,r2,by simp only [aloop,g1,g2]⟩
  ·rename_i hne
   obtain ⟨τ1,r1,g1⟩:=hf _ _ _ _ hr h
   refine ⟨τ1,r1,?_⟩
   simp only [aloop,g1]
   cases e<;>first | exact absurd h (hne _) | rfl
end Go.Abs
end
noncomputable section
namespace Go.Abs
variable {P : Program} {Γ : Globs} {fs : Fns} {ops : Array Oper} {σ σ' : StT} {τ : St} {e : Exit} {lf : Nat} {ro : Option Nat}
theorem ajump_same {j:Option Code} {τ τ':St} (h:ajump j τ=some (e,τ')):τ'=τ:=by
  unfold ajump at h
  split at h<;>first
    | (cases h;done)
    | (simp only [Option.some.injEq,Prod.mk.injEq] at h;exact h.2.symm)
theorem arange_tmps {g:Operand} {ps:Array Tmp} {as bd:Code} {τ':St} (h:arange Γ fs ro g ps as bd τ=some (e,τ')):τ'.tmps=τ.tmps:=by
  unfold arange at h
  split at h
  · split at h
    · split at h
      · split at h
        · split at h
          · cases h
          · split at h
            · have:=ajump_same h;rw [this]
            · cases h
        · cases h
      · cases h
    · cases h
  · cases h
theorem acodeT_ok:∀ (c:Code) (σ:StT) (τ:St) (e:Exit) (σ':StT),TRel σ τ->(acodeT P Γ lf ro c).run fs σ=some (e,σ')->∃ τ',TRel σ' τ'/\acode P Γ fs (fun ops=>adraw P Γ fs ops) lf ro c τ=some (e,τ'):=by
  intro c
  induction c with
  | skip=>intro σ τ e σ' h hr;simp only [acodeT,Option.some.injEq,Prod.mk.injEq] at hr;obtain ⟨rfl,rfl⟩:=hr;exact ⟨τ,h,rfl⟩
  | label l=>intro σ τ e σ' h hr;simp only [acodeT,Option.some.injEq,Prod.mk.injEq] at hr;obtain ⟨rfl,rfl⟩:=hr;exact ⟨τ,h,rfl⟩
  | exit id=>intro σ τ e σ' h hr;simp only [acodeT,Option.some.injEq,Prod.mk.injEq] at hr;obtain ⟨rfl,rfl⟩:=hr;exact ⟨τ,h,rfl⟩
  | goto l=>intro σ τ e σ' h hr;simp only [acodeT,Option.some.injEq,Prod.mk.injEq] at hr;obtain ⟨rfl,rfl⟩:=hr;exact ⟨τ,h,rfl⟩
  | ret=>intro σ τ e σ' h hr;simp only [acodeT,Option.some.injEq,Prod.mk.injEq] at hr;obtain ⟨rfl,rfl⟩:=hr;exact ⟨τ,h,rfl⟩
  | refuse s=>intro σ τ e σ' h hr;simp [acodeT] at hr
  | scope b ih=>
    intro σ τ e σ' h hr
    simp only [acodeT] at hr
    split at hr
    · cases hr
    · rename_i hne
      obtain ⟨τ1,r1,g1⟩:=ih _ _ _ _ h hr
      refine ⟨τ1,r1,?_⟩
      simp only [acode,g1]
      cases e<;>first | rfl | exact absurd hr (hne _ _)
  | region id ops d=>
    intro σ τ e σ' h hr
    cases d with
    | true=>
      simp only [acodeT] at hr
      split at hr
      · rename_i σ1 h1
        simp only [Option.some.injEq,Prod.mk.injEq] at hr;obtain ⟨rfl,rfl⟩:=hr
        obtain ⟨τ1,r1,g1⟩:=adrawT_ok h h1
        exact ⟨τ1,r1,by simp only [acode,g1]⟩
      · cases hr
    | false=>
      simp only [acodeT] at hr
      split at hr
      · rename_i σ1 h1
        simp only [Option.some.injEq,Prod.mk.injEq] at hr;obtain ⟨rfl,rfl⟩:=hr
        obtain ⟨τ1,r1,g1⟩:=aopsT_ok _ _ _ _ h h1
        exact ⟨τ1,r1,by simp only [acode,g1]⟩
      · cases hr
  | seq x y ihx ihy=>
    intro σ τ e σ' h hr
    simp only [acodeT] at hr
    split at hr
    · rename_i σ1 h1
      obtain ⟨τ1,r1,g1⟩:=ihx _ _ _ _ h h1
      obtain ⟨τ2,r2,g2⟩:=ihy _ _ _ _ r1 hr
      exact ⟨τ2,r2,by simp only [acode,g1,g2]⟩
    · rename_i hne
      obtain ⟨τ1,r1,g1⟩:=ihx _ _ _ _ h hr
      refine ⟨τ1,r1,?_⟩
      simp only [acode,g1]
      cases e<;>first | exact absurd hr (hne _) | rfl
  | cond c x y ihx ihy=>
    intro σ τ e σ' h hr
    simp only [acodeT,evT_eq h.t] at hr
    split at hr
    · rename_i hc
      obtain ⟨τ1,r1,g1⟩:=ihx _ _ _ _ h hr
      exact ⟨τ1,r1,by simp only [acode,hc,g1]⟩
    · rename_i hc
      obtain ⟨τ1,r1,g1⟩:=ihy _ _ _ _ h hr
      exact ⟨τ1,r1,by simp only [acode,hc,g1]⟩
    · cases hr
  | block id x ih=>
    intro σ τ e σ' h hr
    simp only [acodeT] at hr
    split at hr
    · rename_i k σ1 h1
      obtain ⟨τ1,r1,g1⟩:=ih _ _ _ _ h h1
      split at hr
      · rename_i hk
        simp only [Option.some.injEq,Prod.mk.injEq] at hr;obtain ⟨rfl,rfl⟩:=hr
        exact ⟨τ1,r1,by simp only [acode,g1];rw [if_pos hk]⟩
      · rename_i hk
        simp only [Option.some.injEq,Prod.mk.injEq] at hr;obtain ⟨rfl,rfl⟩:=hr
        exact ⟨τ1,r1,by simp only [acode,g1];rw [if_neg hk]⟩
    · rename_i hne
      obtain ⟨τ1,r1,g1⟩:=ih _ _ _ _ h hr
      refine ⟨τ1,r1,?_⟩
      simp only [acode,g1]
      cases e<;>first | exact absurd hr (hne _ _) | rfl
  | loop x ih=>
    intro σ τ e σ' h hr
    exact aloopT_ok (fun σ τ e σ' h hr=>ih σ τ e σ' h hr) lf σ τ e σ' h hr
  | rangeFunc g ps as bd _ _=>
    intro σ τ e σ' h hr
    simp only [acodeT] at hr
    rw [h.down] at hr
    split at hr
    · rename_i e1 τ1 h1
      simp only [Option.some.injEq,Prod.mk.injEq] at hr;obtain ⟨rfl,rfl⟩:=hr
      have ht:=arange_tmps h1
      exact ⟨τ1,⟨by rw [ht];exact h.n,by rw [ht];exact h.t,rfl,rfl⟩,h1⟩
    · cases hr
def targs:List AV->Nat->TT->TT
  | [],_,t=>t
  | x::xs,k,t=>targs xs (k+1) ((setT (some k)).run x t)
def largs:List AV->Nat->List AV->List AV
  | [],_,l=>l
  | x::xs,k,l=>largs xs (k+1) (aput l (some k) x)
theorem targs_holds:∀ (xs:List AV) (k:Nat) (t:TT) (l:List AV),Holds t l->Holds (targs xs k t) (largs xs k l):=by
  intro xs
  induction xs with
  | nil=>intro k t l h;exact h
  | cons x xs ih=>intro k t l h;exact ih (k+1) _ _ (setT_holds h (some k) x)
theorem largs_eq (u:AV) (m:Nat):∀ (xs pre:List AV),largs xs pre.length (pre++List.replicate (xs.length+m) u)=pre++xs++List.replicate m u:=by
  intro xs
  induction xs with
  | nil=>intro pre;simp [largs]
  | cons x xs ih=>
    intro pre
    have e:aput (pre++List.replicate ((x::xs).length+m) u) (some pre.length) x=(pre++[x])++List.replicate (xs.length+m) u:=by
      have:(x::xs).length+m=(xs.length+m)+1:=by simp;omega
      rw [this,List.replicate_succ]
      simp only [aput,List.set_append_right _ _ (Nat.le_refl _),Nat.sub_self,List.set_cons_zero,List.append_assoc,List.singleton_append]
    have h:=ih (pre++[x])
    simp only [largs,e]
    simpa using h
def acallT (P:Program) (Γ:Globs) (fs:Fns) (lf:Nat) (g:FuncId) (args:List AV) (H:Heap):Option (AV × Heap):=
  match P.funcs[g]? with
  | some fn=>match fn.body with
    | some c=>match Nat.blt (args.length+(fn.ntmps-args.length)) 65536 with
      | true=>match (acodeT P Γ lf none c).run fs { t:=targs args 0 (tfill (ofV undef) 16 (args.length+(fn.ntmps-args.length))),n:=args.length+(fn.ntmps-args.length),H:=H,d:=[] } with
        | some (.normal,σ)=>aleave P fn σ.down
        | some (.ret,σ)=>aleave P fn σ.down
        | _=>none
      | false=>none
    | none=>none
  | none=>none
theorem acallT_eq {g:FuncId} {args:List AV} {H:Heap} {r:AV × Heap} (h:acallT P Γ fs lf g args H=some r):acall P (acode P Γ fs (fun ops=>adraw P Γ fs ops) lf none) g args H=some r:=by
  unfold acallT at h
  unfold acall
  split at h
  · rename_i fn hfn
    split at h
    · rename_i c hc
      split at h
      · rename_i hb
        have hlt:=blt_lt hb
        try simp only [hfn,hc]
        have hh:=targs_holds args 0 _ _ (holds_fill (ofV undef) (args.length+(fn.ntmps-args.length)) hlt)
        have hl:=largs_eq (ofV undef) (fn.ntmps-args.length) args []
        simp only [List.nil_append,List.length_nil] at hl
        rw [hl] at hh
        have h0:TRel { t:=targs args 0 (tfill (ofV undef) 16 (args.length+(fn.ntmps-args.length))),n:=args.length+(fn.ntmps-args.length),H:=H,d:=[] }
            { tmps:=args++List.replicate (fn.ntmps-args.length) (ofV undef),H:=H,defers:=[] }:=⟨by simp,hh,rfl,rfl⟩
        split at h
        · rename_i σ hr
          obtain ⟨τ1,r1,g1⟩:=acodeT_ok c _ _ _ _ h0 hr
          simp only [g1]
          rw [r1.down] at h
          exact h
        · rename_i σ hr
          obtain ⟨τ1,r1,g1⟩:=acodeT_ok c _ _ _ _ h0 hr
          simp only [g1]
          rw [r1.down] at h
          exact h
        · cases h
      · cases h
    · cases h
  · cases h
def fnsT (P:Program) (Γ:Globs) (ext:FuncId->List AV->Option AV) (sel:FuncId->Nat) (T:Tab) (lf:Nat):Nat->Fns
  | 0=>{ call:=fun _ _ _=>none,yield:=fun _ _ _=>none,ext:=ext }
  | k+1=>
    { call:=callP (acallT P Γ (fnsT P Γ ext sel T lf k) lf) sel T,
      yield:=ayield fun r c=>(acodeS P Γ (fnsT P Γ ext sel T lf k) (adraw P Γ (fnsT P Γ ext sel T lf k)) lf (some r) c).run,ext:=ext }
theorem acallT_ok (hm:P.follows .mixedOrders=true) (hnum:NoNum P) (hfs:FnsOk P Γ fs) {g:FuncId} {args:List AV} {H H':Heap} {y:AV} (h:acallT P Γ fs lf g args H=some (y,H')):CallOk P Γ g args H y H':=
  acall_ok hnum (fun c σ e σ' h=>acode_ok hm hfs (fun ops σ σ' h=>adraw_ok hfs h) c σ e σ' h) (acallT_eq h)
theorem fnsT_ok (hm:P.follows .mixedOrders=true) (hnum:NoNum P) {ext:FuncId->List AV->Option AV} (hext:ExtOk P ext) (hΓ:PureGlobs Γ) {sel:FuncId->Nat} {T:Tab} (hT:TabOk P Γ T) {lf:Nat}:
    ∀ k,FnsOk P Γ (fnsT P Γ ext sel T lf k):=by
  intro k
  induction k with
  | zero=>exact ⟨fun _ _ _ _ _ h=>by simp [fnsT] at h,fun _ _ _ _ _ h=>by simp [fnsT] at h,hext⟩
  | succ k ih=>
    refine ⟨fun g args H y H' h=>callP_ok hΓ (fun g args H y H' h=>acallT_ok hm hnum ih h) hT h,fun r args H y H' h=>?_,hext⟩
    have h':ayield (fun r c=>(acodeS P Γ (fnsT P Γ ext sel T lf k) (adraw P Γ (fnsT P Γ ext sel T lf k)) lf (some r) c).run) r args H=some (y,H'):=h
    refine ayield_ok (fun r c σ e σ' h=>?_) h'
    rw [acodeS_run] at h
    exact acode_ok hm ih (fun ops σ σ' h=>adraw_ok ih h) c σ e σ' h
end Go.Abs
end
noncomputable section
namespace Go.Abs
section
variable {chk : Chk} {P : Program} {Γ : Globs} {fs : Fns} {ops : Array Oper} {Ms : List Nat} {dsts : List (Option Tmp)} {σ : St} {F G : Nat → Prop} {i : Nat → Nat} {a : Act} {w : World} {H : Heap} {ro : Option Nat} {Q : Exit → Act → World → Prop} {R : List Rec}
def lateOk (P:Program) (m:Nat) (dsts:List (Option Tmp)):List Oper->Nat->Bool
 | [],_=>true
 | o::os,k=>(m.testBit k||(pureOp o.op&&quietAt P o&&aalone o.dst k dsts 0))&&lateOk P m dsts os (k+1)
theorem lateOk_spec {m:Nat}:∀ (os:List Oper) (k:Nat),lateOk P m dsts os k=true->∀ t o,os[t]?=some o->m.testBit (k+t)=true\/(pureOp o.op=true/\quietAt P o=true/\aalone o.dst (k+t) dsts 0=true)
 | [],k,h,t,o,ht=>by simp at ht
 | o'::os,k,h,t,o,ht=>by
  simp only [lateOk,Bool.and_eq_true,Bool.or_eq_true] at h
  cases t with
  | zero=>
   simp only [List.getElem?_cons_zero,Option.some.injEq] at ht;subst ht
   rcases h.1 with h1 | h1
   ·exact .inl h1
   ·exact .inr ⟨h1.1.1,h1.1.2,h1.2⟩
  | succ t=>
   have:=lateOk_spec os (k+1) h.2 t o (by simpa using ht)
   rwa [show k+1+t=k+(t+1) by omega] at this
theorem arec_adds:∀ (os:List Oper) (j:Nat) (acc R:List Rec),arecC chk P Γ fs ops Ms dsts σ os j acc=some R->(∀ r∈acc,r.add=true->quietAt P r.o=false)->∀ r∈R,r.add=true->quietAt P r.o=false
 | [],j,acc,R,h,ha=>by simp only [arecC,Option.some.injEq] at h;subst h;exact ha
 | o::os,j,acc,R,h,ha=>by
  simp only [arecC] at h
  split at h
  ·split at h
   ·refine arec_adds os _ _ R h fun r hr hd=>?_
    rcases List.mem_cons.1 hr with rfl | hr
    ·cases hd
    ·exact ha r hr hd
   ·cases h
  ·split at h
   ·split at h
    ·split at h
     ·refine arec_adds os _ _ R h fun r hr hd=>?_
      rcases List.mem_cons.1 hr with rfl | hr
      ·cases hd
      ·exact ha r hr hd
     ·cases h
    ·rename_i hq
     split at h
     ·refine arec_adds os _ _ R h fun r hr hd=>?_
      rcases List.mem_cons.1 hr with rfl | hr
      ·cases hd
      ·exact ha r hr hd
     split at h
     ·refine arec_adds os _ _ R h fun r hr hd=>?_
      rcases List.mem_cons.1 hr with rfl | hr
      ·exact hq
      ·exact ha r hr hd
     ·split at h
      ·split at h
       ·refine arec_adds os _ _ R h fun r hr hd=>?_
        rcases List.mem_cons.1 hr with rfl | hr
        ·cases hd
        ·exact ha r hr hd
       ·cases h
      ·cases h
   ·cases h
theorem drawG (hk:ChkOk P fs ops chk) (hfs:FnsOk P Γ fs) {Mf:List Nat} (hm:∀ j o,ops[j]?=some o->MaskAt Mf j o) {p:Nat} (hpn:p<=ops.size)
  (hMs:∀ j,j<p->Ms.getD j 0=Mf.getD j 0) (hg:Good chk P Γ fs ops Ms dsts σ R) (hlen:R.length=p) (hd:DstsOk dsts R) (hw:awriters Ms dsts dsts 0=true) {F0:Nat->Prop} {i0:Nat->Nat} {w0:World}
  (hfin:∀ (fuel:Nat) (listed:Array Bool) (F:Nat->Prop) (pend i:Nat->Nat) (a:Act) (w:World),listed.size=ops.size->unl listed.toList<=fuel->InvA Γ Ms σ R F0 F G i0 w0 (fun k=>listed.getD k false) pend i a w->
   (∀ k,k<p->listed.getD k false=true)->wpAnyIn (W ro) 0 P .any ops Q fuel listed a w)
  (hnext:∀ (fuel:Nat) (listed:Array Bool) (F:Nat->Prop) (pend i:Nat->Nat) (a:Act) (w:World),listed.size=ops.size->unl listed.toList<=fuel+1->InvA Γ Ms σ R F0 F G i0 w0 (fun k=>listed.getD k false) pend i a w->
   ∀ j,j∈Region.ready .any ops listed->p<=j->(∀ k,(Mf.getD j 0).testBit k=true->listed.getD k false=true)->wpOpIn (W ro) 0 P ops Q j (wpAnyIn (W ro) 0 P .any ops Q fuel (listed.setIfInBounds j true)) a w):
  ∀ (fuel:Nat) (listed:Array Bool) (F:Nat->Prop) (pend i:Nat->Nat) (a:Act) (w:World),listed.size=ops.size->unl listed.toList<=fuel->InvA Γ Ms σ R F0 F G i0 w0 (fun k=>listed.getD k false) pend i a w->
   wpAnyIn (W ro) 0 P .any ops Q fuel listed a w:=by
 have hback:Backward ops:=fun j o ho=>(hm j o ho).1
 have hal:∀ pre' r' rest',R=pre'++r'::rest'->r'.fl.isSome=true->aalone r'.o.dst rest'.length dsts 0=true:=by
  intro pre' r' rest' he hf
  obtain ⟨_,h⟩:=good_at pre' hg he
  cases hfl:r'.fl with
  | none=>rw [hfl] at hf;cases hf
  | some z=>simp only [hfl] at h;exact h.2.2.2.2
 intro fuel
 induction fuel with
 | zero=>
  intro listed F pend i a w hsz hun hI
  refine hfin 0 listed F pend i a w hsz hun hI fun k hk=>?_
  cases hc:listed.getD k false with
  | true=>rfl
  | false=>
   exfalso
   have hk2:k<listed.size:=by omega
   rw [Array.getD_eq_getD_getElem?,Array.getElem?_eq_getElem hk2] at hc
   have:=unl_pos listed.toList k (by rw [Array.getElem?_toList,Array.getElem?_eq_getElem hk2];simpa using hc)
   omega
 | succ fuel ih=>
  intro listed F pend i a w hsz hun hI
  by_cases hall:∀ k,k<p->listed.getD k false=true
  ·exact hfin (fuel+1) listed F pend i a w hsz hun hI hall
  simp only [Classical.not_forall,not_imp,Bool.not_eq_true] at hall
  obtain ⟨k0,hk0,hu0⟩:=hall
  have hu1:listed.getD k0 true=false:=by
   have hk2:k0<listed.size:=by omega
   rw [Array.getD_eq_getD_getElem?,Array.getElem?_eq_getElem hk2] at hu0 ⊢
   exact hu0
  obtain ⟨j0,hj0⟩:=exists_ready hback hsz k0 (by omega) hu1
  refine ⟨fun h0=>(by rw [h0] at hj0;cases hj0),fun j hj=>?_⟩
  obtain ⟨hj1,oj,hoj,hdirect⟩:=mem_ready.1 hj
  obtain ⟨hj2,hj3,hj4⟩:=getD_false_true hj1
  have hjn:j<ops.size:=by omega
  have hancf:∀ k,(Mf.getD j 0).testBit k=true->listed.getD k false=true:=by
   intro k hb
   obtain ⟨e,he,hbi,h⟩:=((hm j oj hoj).2 k).1 hb
   have hel:=hdirect e he hbi
   rcases h with rfl | h
   ·exact hel
   ·refine hI.closed.down e.on k hel ?_
    rw [hMs e.on (by rw [←hlen];exact hI.inA _ hel)]
    exact h
  rcases Nat.lt_or_ge j p with hjp | hjp
  case inr=>exact hnext fuel listed F pend i a w hsz hun hI j hj hjp hancf
  have hanc:∀ k,(Ms.getD j 0).testBit k=true->listed.getD k false=true:=fun k hb=>hancf k (by rw [←hMs j hjp];exact hb)
  obtain ⟨pre,r,rest,he,hrl⟩:=rec_at R j (by omega)
  subst hrl
  obtain ⟨hro,hrec⟩:=good_at pre hg he
  rw [hro] at hoj
  simp only [Option.some.injEq] at hoj;subst hoj
  have hfun:(fun k=>(listed.setIfInBounds rest.length true).getD k false)=(fun k=>k==rest.length||listed.getD k false):=funext fun k=>getD_set hj3
  have hunl:unl (listed.setIfInBounds rest.length true).toList<=fuel:=by
   have:=unl_set listed.toList rest.length hj4
   rw [Array.toList_setIfInBounds]
   omega
  have next:∀ F' pend' i' a' w',InvA Γ Ms σ R F0 F' G i0 w0 (fun k=>k==rest.length||listed.getD k false) pend' i' a' w'->wpAnyIn (W ro) 0 P .any ops Q fuel (listed.setIfInBounds rest.length true) a' w':=
   fun F' pend' i' a' w' hI'=>ih _ F' pend' i' a' w' (by simpa using hsz) hunl (by rw [hfun];exact hI')
  unfold wpOpIn
  simp only [hro]
  cases hfl:r.fl with
  | some z=>
   simp only [hfl] at hrec
   obtain ⟨hρ,hy,hadd,hflt,_⟩:=hrec
   have hev:∀ x,VRel ⟨F,w.heap,i,(curH σ.H (fun k=>listed.getD k false) R).n⟩ (r.ρ x) (a.eval x):=by
    intro x
    rw [hρ]
    exact hI.val.eval hI.closed hd he hj2 hanc (ev_const hI.globs σ.tmps) x
   obtain ⟨o,hgu,hnd,hfit,hrun,hrow⟩:=flo_run hflt hev w
   have hwant:Region.wanted r.o (yielded ops a.tmps)=true:=by simp [Region.wanted,hgu]
   rw [if_pos hwant]
   refine ⟨fun _ _=>trivial,?_⟩
   rw [Oper.semAt_eq _ _ _ hnd]
   rw [hrun]
   exact next _ _ _ _ _ (hI.float hd hw he hj2 hanc hfit hfl hy hadd hal hrow)
  | none=>
   simp only [hfl] at hrec
   obtain ⟨hρ,H',hst,hkind⟩:=hrec
   have hev:∀ x,VRel ⟨F,w.heap,i,(curH σ.H (fun k=>listed.getD k false) R).n⟩ (r.ρ x) (a.eval x):=by
    intro x
    rw [hρ]
    exact hI.val.eval hI.closed hd he hj2 hanc (ev_const hI.globs σ.tmps) x
   rcases hkind with ⟨hadd,_⟩ | ⟨hadd,hH',hch,hup⟩
   ·have h2:=curH_quiet hk hI.closed hg pre he hfl hadd hj2 hanc
    exact astep_wp hfs hI.heap hI.globs hev h2 fun v w' F' i' hgv=>next _ _ _ _ _ (hI.step hd hw he hj2 hanc hfl hal (curH_same pre he hadd) hgv)
   ·obtain ⟨c1,c2⟩:=curH_add hI.closed hg pre he hadd hj2 hanc
    rw [←c1,hH'] at hst
    exact astep_wp hfs hI.heap hI.globs hev hst fun v w' F' i' hgv=>next _ _ _ _ _ (hI.step hd hw he hj2 hanc hfl hal c2 hgv)
def LateT (R:List Rec) (S:Nat->Bool) (t:Nat):Prop:=∃ pre r rest,R=pre++r::rest/\S rest.length=false/\r.o.dst=some t
open Classical in
def hidT (p:Nat->Prop) (T:List AV):List AV:=T.mapIdx fun t x=>if p t then .top else x
theorem hidT_get {p:Nat->Prop} {T:List AV} {t:Nat} {x:AV} (h:(hidT p T)[t]?=some x):(p t/\x=.top)\/(¬ p t/\T[t]?=some x):=by
 unfold hidT at h
 rw [List.getElem?_mapIdx] at h
 cases hT:T[t]? with
 | none=>rw [hT] at h;simp at h
 | some y=>
  rw [hT] at h
  simp only [Option.map_some,Option.some.injEq] at h
  by_cases hp:p t
  ·rw [if_pos hp] at h;exact .inl ⟨hp,h.symm⟩
  ·rw [if_neg hp] at h;exact .inr ⟨hp,by rw [h]⟩
theorem hidT_length {p:Nat->Prop} {T:List AV}:(hidT p T).length=T.length:=by simp [hidT]
theorem alay_get {t:Nat}:∀ (R:List Rec) (T:List AV) (H:Heap),(∀ r∈R,r.fl.isSome=true->r.o.dst≠some t)->(alay R T H).1[t]?=T[t]?
 | [],T,H,h=>rfl
 | r::R,T,H,h=>by
  have ih:=alay_get R T H fun r' hr=>h r' (List.mem_cons_of_mem _ hr)
  simp only [alay]
  split
  ·rename_i z hz
   have hne:=h r List.mem_cons_self (by rw [hz];rfl)
   cases hd:r.o.dst with
   | none=>simp only [aput];exact ih
   | some d=>
    simp only [aput]
    rw [List.getElem?_set]
    have:d≠t:=by rintro rfl;exact hne hd
    rw [if_neg this];exact ih
  ·exact ih
theorem alay_len:∀ (R:List Rec) (T:List AV) (H:Heap),(alay R T H).1.length=T.length
 | [],T,H=>rfl
 | r::R,T,H=>by
  simp only [alay]
  split
  ·rw [aput_length,alay_len R T H]
  ·exact alay_len R T H
theorem alay_swap {t:Nat} {T T':List AV} {H:Heap} (hl:T.length=T'.length):∀ (R:List Rec),(alay R T H).2=(alay R T' H).2/\(T[t]?=T'[t]?->(alay R T H).1[t]?=(alay R T' H).1[t]?)
 | []=>⟨rfl,fun h=>h⟩
 | r::R=>by
  obtain ⟨h1,h2⟩:=alay_swap (t:=t) hl R
  simp only [alay]
  split
  ·refine ⟨by rw [h1],fun h=>?_⟩
   rw [h1]
   cases hd:r.o.dst with
   | none=>exact h2 h
   | some d=>
    simp only [aput,List.getElem?_set,alay_len,hl,h2 h]
  ·exact ⟨h1,h2⟩
theorem alast_alone {t:Nat} {r:Rec} {rest:List Rec} (hr:r.o.dst=some t):∀ (pre:List Rec),(∀ q∈pre,q.o.dst≠some t)->alast t (pre++r::rest)=some r.y
 | [],_=>by simp [alast,hr]
 | q::pre,h=>by
  have ih:=alast_alone (rest:=rest) hr pre fun q' hq=>h q' (List.mem_cons_of_mem _ hq)
  have hq:=h q List.mem_cons_self
  simp only [List.cons_append,alast]
  split
  ·rename_i u hu
   have:(u==t)=false:=beq_eq_false_iff_ne.2 (by rintro rfl;exact hq hu)
   rw [this];exact ih
  ·exact ih
structure LateI (Γ:Globs) (Ms:List Nat) (σ:St) (R:List Rec) (F0 F G:Nat->Prop) (i0:Nat->Nat) (w0:World) (S:Nat->Bool) (T:List AV) (H1:Heap) (i:Nat->Nat) (a:Act) (w:World):Prop where
 closed:Closed Ms S
 srel:SRel Γ F G i { σ with tmps:=hidT (LateT R S) T,H:=H1 } a w
 val:ValOk ⟨F,w.heap,i,H1.n⟩ S R σ.tmps a
 ext:Ext σ.H.n F0 G i0 w0 F i w
 le:σ.H.n<=H1.n
structure Lates (Mf:List Nat) (R:List Rec) (q:Nat):Prop where
 pure:∀ pre r rest,R=pre++r::rest->(Mf.getD q 0).testBit rest.length=false->pureOp r.o.op=true/\r.add=false/\r.fl=none
 alone:∀ pre r rest,R=pre++r::rest->(Mf.getD q 0).testBit rest.length=false->∀ t,r.o.dst=some t->∀ pre' r' rest',R=pre'++r'::rest'->r'.o.dst=some t->rest'.length=rest.length
theorem drawL (hfs:FnsOk P Γ fs) {Mf:List Nat} (hm:∀ j o,ops[j]?=some o->MaskAt Mf j o) {q:Nat} (hq:q<ops.size) (hfull:∀ j,q<j->j<ops.size->Mf.getD j 0=2 ^ j-1)
  (hMs:∀ j,j<q->Ms.getD j 0=Mf.getD j 0) (hg:Good chk P Γ fs ops Ms dsts σ R) (hlen:R.length=q) (hd:DstsOk dsts R) (hw:awriters Ms dsts dsts 0=true) (hlate:Lates Mf R q)
  {F0:Nat->Prop} {i0:Nat->Nat} {w0:World} {σ':St} {T:List AV} {H1:Heap}
  (hT:∀ pre r rest t x,R=pre++r::rest->(Mf.getD q 0).testBit rest.length=false->r.o.dst=some t->T[t]?=some x->x=r.y)
  (hdlt:∀ r∈σ.defers,r<σ.H.n)
  (hB:aops P Γ fs ops (ops.toList.drop (q+1)) { σ with tmps:=T,H:=H1 }=some σ')
  (hQ:∀ F' i' a' w',SRel Γ F' G i' σ' a' w'->Ext σ.H.n F0 G i0 w0 F' i' w'->σ.H.n<=σ'.H.n->Q .normal a' w'):
  ∀ (fuel:Nat) (listed:Array Bool) (S:Nat->Bool) (F:Nat->Prop) (i:Nat->Nat) (a:Act) (w:World),listed.size=ops.size->unl listed.toList<=fuel->(∀ k,listed.getD k false=(k==q||S k))->(∀ k,S k=true->k<q)->
   (∀ k,(Mf.getD q 0).testBit k=true->S k=true)->LateI Γ Ms σ R F0 F G i0 w0 S T H1 i a w->wpAnyIn (W ro) 0 P .any ops Q fuel listed a w:=by
 have hback:Backward ops:=fun j o ho=>(hm j o ho).1
 have finish:∀ (fuel:Nat) (listed:Array Bool) (S:Nat->Bool) (F:Nat->Prop) (i:Nat->Nat) (a:Act) (w:World),listed.size=ops.size->unl listed.toList<=fuel->(∀ k,listed.getD k false=(k==q||S k))->(∀ k,S k=true->k<q)->
   LateI Γ Ms σ R F0 F G i0 w0 S T H1 i a w->(∀ k,k<q->S k=true)->wpAnyIn (W ro) 0 P .any ops Q fuel listed a w:=by
  intro fuel listed S F i a w hsz hun hl hS hI hall
  have hl2:∀ k,listed.getD k false=decide (k<q+1):=by
   intro k
   rw [hl]
   by_cases hk:k<q
   ·rw [hall k hk];simp;omega
   ·by_cases hk2:k=q
    ·subst hk2;simp
    ·have:S k=false:=by
      cases hc:S k with
      | false=>rfl
      | true=>exact absurd (hS k hc) hk
     rw [this,Bool.or_false,beq_eq_false_iff_ne.2 hk2]
     exact (decide_eq_false (by omega)).symm
  have hTT:hidT (LateT R S) T=T:=by
   refine List.ext_getElem? fun t=>?_
   unfold hidT
   rw [List.getElem?_mapIdx]
   have hno:¬ LateT R S t:=by
    rintro ⟨pre,r,rest,he,hs,_⟩
    rw [hall rest.length (by rw [←hlen,he];simp;omega)] at hs
    cases hs
   cases T[t]? with
   | none=>rfl
   | some x=>simp [hno]
  have hs:=hI.srel
  rw [hTT] at hs
  refine drawB hfs hm (p:=q+1) (fun j hj hjn=>hfull j (by omega) hjn) (ops.toList.drop (q+1)) (q+1) _ σ' F i a w listed fuel rfl (Nat.le_refl _) hsz hl2 (by omega) ?_ hB hs fun F'' i'' a'' w'' hs' he hle'=>hQ F'' i'' a'' w'' hs' (hI.ext.trans he hI.le) (Nat.le_trans hI.le hle')
  have hge:=unl_ge listed.toList (q+1) fun k hk hkl=>by
   have hk2:k<listed.size:=by simpa using hkl
   have:=hl2 k
   rw [Array.getD_eq_getD_getElem?,Array.getElem?_eq_getElem hk2] at this
   rw [Array.getElem?_toList,Array.getElem?_eq_getElem hk2]
   have h3:¬ k<q+1:=by omega
   simp only [Option.getD_some,h3,decide_false] at this
   rw [this]
  have:listed.toList.length=ops.size:=by simpa using hsz
  omega
 intro fuel
 induction fuel with
 | zero=>
  intro listed S F i a w hsz hun hl hS hbits hI
  refine finish 0 listed S F i a w hsz hun hl hS hI fun k hk=>?_
  cases hc:S k with
  | true=>rfl
  | false=>
   exfalso
   have hlk:listed.getD k false=false:=by rw [hl,hc,beq_eq_false_iff_ne.2 (by omega)];rfl
   have hk2:k<listed.size:=by omega
   rw [Array.getD_eq_getD_getElem?,Array.getElem?_eq_getElem hk2] at hlk
   have:=unl_pos listed.toList k (by rw [Array.getElem?_toList,Array.getElem?_eq_getElem hk2];simpa using hlk)
   omega
 | succ fuel ih=>
  intro listed S F i a w hsz hun hl hS hbits hI
  by_cases hall:∀ k,k<q->S k=true
  ·exact finish (fuel+1) listed S F i a w hsz hun hl hS hI hall
  simp only [Classical.not_forall,not_imp,Bool.not_eq_true] at hall
  obtain ⟨k0,hk0,hu0⟩:=hall
  have hl0:listed.getD k0 false=false:=by rw [hl,hu0,beq_eq_false_iff_ne.2 (by omega)];rfl
  have hu1:listed.getD k0 true=false:=by
   have hk2:k0<listed.size:=by omega
   rw [Array.getD_eq_getD_getElem?,Array.getElem?_eq_getElem hk2] at hl0 ⊢
   exact hl0
  obtain ⟨j0,hj0⟩:=exists_ready hback hsz k0 (by omega) hu1
  refine ⟨fun h0=>(by rw [h0] at hj0;cases hj0),fun j hj=>?_⟩
  obtain ⟨hj1,oj,hoj,hdirect⟩:=mem_ready.1 hj
  obtain ⟨hj2,hj3,hj4⟩:=getD_false_true hj1
  have hjn:j<ops.size:=by omega
  have hjq:j≠q:=by rintro rfl;rw [hl] at hj2;simp at hj2
  have hjp:j<q:=by
   rcases Nat.lt_or_ge j q with h | h
   ·exact h
   ·exfalso
    have hb:(Mf.getD j 0).testBit k0=true:=by
     rw [hfull j (by omega) hjn,Nat.testBit_two_pow_sub_one];simp;omega
    obtain ⟨e,he,hbi,h⟩:=((hm j oj hoj).2 k0).1 hb
    have hel:=hdirect e he hbi
    rcases h with rfl | h
    ·rw [hl0] at hel;cases hel
    ·rw [hl] at hel
     rcases Bool.or_eq_true_iff.1 hel with h2 | h2
     ·have h2:=beq_iff_eq.1 h2
      rw [h2] at h
      rw [hbits k0 h] at hu0;cases hu0
     ·have:=hI.closed.down e.on k0 h2 (by rw [hMs _ (hS _ h2)];exact h)
      rw [this] at hu0;cases hu0
  have hSj:S j=false:=by
   cases hc:S j with
   | false=>rfl
   | true=>rw [hl,hc] at hj2;simp at hj2
  have hanc:∀ k,(Ms.getD j 0).testBit k=true->S k=true:=by
   intro k hb
   rw [hMs j hjp] at hb
   obtain ⟨e,he,hbi,h⟩:=((hm j oj hoj).2 k).1 hb
   have hel:=hdirect e he hbi
   have hlt:=(hm j oj hoj).1 e he hbi
   have hSe:S e.on=true:=by
    rw [hl,beq_eq_false_iff_ne.2 (by omega)] at hel;simpa using hel
   rcases h with rfl | h
   ·exact hSe
   ·exact hI.closed.down e.on k hSe (by rw [hMs e.on (by omega)];exact h)
  obtain ⟨pre,r,rest,he,hrl⟩:=rec_at R j (by omega)
  subst hrl
  obtain ⟨hro,hrec⟩:=good_at pre hg he
  rw [hro] at hoj
  simp only [Option.some.injEq] at hoj;subst hoj
  have hnb:(Mf.getD q 0).testBit rest.length=false:=by
   cases hc:(Mf.getD q 0).testBit rest.length with
   | false=>rfl
   | true=>rw [hbits _ hc] at hSj;cases hSj
  obtain ⟨hpure,hadd,hfl⟩:=hlate.pure pre r rest he hnb
  simp only [hfl] at hrec
  obtain ⟨hρ,H',hst,_⟩:=hrec
  have hst:=astep_pure hpure hst H1
  have hev:∀ x,VRel ⟨F,w.heap,i,H1.n⟩ (r.ρ x) (a.eval x):=by
   intro x
   rw [hρ]
   exact hI.val.eval hI.closed hd he hSj hanc (ev_const hI.srel.globs σ.tmps) x
  have hunl:unl (listed.setIfInBounds rest.length true).toList<=fuel:=by
   have:=unl_set listed.toList rest.length hj4
   rw [Array.toList_setIfInBounds]
   omega
  unfold wpOpIn
  simp only [hro]
  refine astep_wp hfs hI.srel.heap hI.srel.globs hev hst fun v w' F' i' hgv=>?_
  refine ih _ (fun k=>k==rest.length||S k) F' i' _ w' (by simpa using hsz) hunl (fun k=>?_) (fun k hk=>?_) (fun k hk=>?_) ?_
  ·rw [getD_set hj3,hl]
   cases (k==rest.length)<;>cases (k==q)<;>simp
  ·simp only [Bool.or_eq_true,beq_iff_eq] at hk
   rcases hk with rfl | hk
   ·exact hjp
   ·exact hS k hk
  ·simp only [hbits k hk,Bool.or_true]
  ·have le:Env.le ⟨F,w.heap,i,H1.n⟩ ⟨F',w'.heap,i',H1.n⟩:=hgv.ext.le (Nat.le_refl _) hgv.le
   refine ⟨hI.closed.more hanc,?_,(hI.val.mono le).put hI.closed hw hd he hSj hgv.val,hI.ext.trans hgv.ext hI.le,hI.le⟩
   have hs2:=hI.srel.step hgv r.o.dst
   refine { hs2 with tmps:=⟨?_,fun t x u hx hu=>?_⟩ }
   ·have:=hs2.tmps.1
    rw [aput_length,hidT_length] at this
    rw [hidT_length];exact this
   ·rcases hidT_get hx with ⟨_,rfl⟩ | ⟨hn,hTx⟩
    ·exact .top _
    ·have htl:t<T.length:=(List.getElem?_eq_some_iff.1 hTx).1
     by_cases hdt:r.o.dst=some t
     ·have hxy:=hT pre r rest t x he hnb hdt hTx
      subst hxy
      refine hs2.tmps.2 t r.y u ?_ hu
      rw [hdt]
      simp only [aput]
      rw [List.getElem?_set,if_pos rfl,if_pos (by rw [hidT_length];exact htl)]
     ·refine hs2.tmps.2 t x u ?_ hu
      have hno:¬ LateT R S t:=by
       rintro ⟨pre',r',rest',he',hs',hd'⟩
       refine hn ⟨pre',r',rest',he',?_,hd'⟩
       have hne:rest'.length≠rest.length:=fun hc=>by
        have:=(recs_inj he' he hc).1
        subst this;exact hdt hd'
       show (rest'.length==rest.length||S rest'.length)=false
       rw [hs',beq_eq_false_iff_ne.2 hne];rfl
      have hh:(hidT (LateT R S) T)[t]?=some x:=by
       unfold hidT
       rw [List.getElem?_mapIdx,hTx]
       simp [hno]
      cases hd2:r.o.dst with
      | none=>exact hh
      | some d=>
       simp only [aput]
       rw [List.getElem?_set,if_neg (by rintro rfl;exact hdt hd2)]
       exact hh
def lateCond (P:Program) (Mf:List Nat) (os:List Oper) (q:Nat) (o:Oper):Bool:=
 (match o.dst with | none=>lateOk P (Mf.getD q 0) ((os.take q).map (·.dst)) (os.take q) 0 | some _=>false)&&awriters (Mf.take q) ((os.take q).map (·.dst)) ((os.take q).map (·.dst)) 0&&Nat.blt q (asplit Mf 0 0)
def adrawL (chk:Chk) (P:Program) (Γ:Globs) (fs:Fns) (ops:Array Oper) (σ:St):Option St:=
 match amasks ops.toList 0 [] with
 | some Mf=>
  let q:=asplit Mf 0 0-1
  let dsts:=(ops.toList.take q).map (·.dst)
  match ops.toList[q]? with
  | some o=>match lateCond P Mf ops.toList q o with
   | true=>match arecC chk P Γ fs ops (Mf.take q) dsts σ (ops.toList.take q) 0 [] with
    | some acc=>match astep P fs ops (arho Γ (Mf.take (q+1)) dsts (alay acc (aputs σ.tmps acc) (atop σ.H acc)).1 [] q) (alay acc (aputs σ.tmps acc) (atop σ.H acc)).2 o with
     | some (_,H')=>aops P Γ fs ops (ops.toList.drop (q+1)) { σ with tmps:=(alay acc (aputs σ.tmps acc) (atop σ.H acc)).1,H:=H' }
     | none=>none
    | none=>none
   | false=>none
  | none=>none
 | none=>none
theorem pure_quiet {o:Oper} (h:pureOp o.op=true):quietAt P o=true/\(∀ t,o.op≠.alloc t):=by
 unfold pureOp at h
 unfold quietAt
 split at h
 all_goals first
  | (rename_i heq;rw [heq];exact ⟨rfl,fun t ht=>by cases ht⟩)
  | (rename_i heq;rw [heq];split at h<;>first | exact ⟨rfl,fun t ht=>by cases ht⟩ | cases h)
  | cases h
theorem adrawL_ok (hk:ChkOk P fs ops chk) (hfs:FnsOk P Γ fs) {σ':St} (h:adrawL chk P Γ fs ops σ=some σ'):DrawOk P Γ ops σ σ':=by
 unfold adrawL at h
 split at h
 case h_2=>cases h
 rename_i Mf hMf
 simp only at h
 split at h
 case h_2=>cases h
 rename_i oq hoq
 split at h
 case h_2=>cases h
 rename_i hcond
 split at h
 case h_2=>cases h
 rename_i R hR
 split at h
 case h_2=>cases h
 rename_i yq Hq hstq
 obtain ⟨m1,_,m3⟩:=amasks_spec _ _ _ _ hMf rfl
 have hm:∀ j o,ops[j]?=some o->MaskAt Mf j o:=fun j o ho=>by
  have:=m3 j o (by simpa using ho)
  rwa [Nat.zero_add] at this
 obtain ⟨p1,p2,p3⟩:=asplit_spec Mf 0 0 (Nat.le_refl _)
 have hmlen:Mf.length=ops.size:=by simpa using m1
 simp only [lateCond,Bool.and_eq_true] at hcond
 obtain ⟨⟨hc1,hw⟩,hc3⟩:=hcond
 rw [Nat.blt_eq] at hc3
 generalize hqq:asplit Mf 0 0-1=q at *
 have hps:asplit Mf 0 0=q+1:=by omega
 have hqn:q<ops.size:=by omega
 have hdst:oq.dst=none:=by
  cases hd:oq.dst with
  | none=>rfl
  | some d=>rw [hd] at hc1;cases hc1
 rw [hdst] at hc1
 simp only at hc1
 have hoq':ops[q]?=some oq:=by simpa using hoq
 have hfull:∀ j,q<j->j<ops.size->Mf.getD j 0=2 ^ j-1:=by
  intro j hj hjn
  have:=p3 j Mf[j] (List.getElem?_eq_getElem (by omega)) (by omega)
  rw [List.getD_eq_getElem?_getD,List.getElem?_eq_getElem (by omega:j<Mf.length)]
  simpa using this
 have hMs:∀ j,j<q->(Mf.take q).getD j 0=Mf.getD j 0:=by
  intro j hj
  rw [List.getD_eq_getElem?_getD,List.getD_eq_getElem?_getD,List.getElem?_take,if_pos hj]
 obtain ⟨g1,g2⟩:=arec_good (ops.toList.take q) [] R hR trivial (fun t o ht=>by
  rw [List.getElem?_take] at ht
  split at ht
  ·simpa using ht
  ·cases ht)
 have hlen:R.length=q:=by
  rw [g2]
  have:ops.toList.length=ops.size:=by simp
  simp only [List.length_nil,List.length_take];omega
 have hd:DstsOk ((ops.toList.take q).map (·.dst)) R:=by
  intro pre r rest he
  have ho:=(good_at pre g1 he).1
  have hlt:rest.length<q:=by rw [←hlen,he];simp;omega
  rw [List.getElem?_map,List.getElem?_take,if_pos hlt,Array.getElem?_toList,ho]
  rfl
 have hadds:=arec_adds _ _ _ _ hR (fun r hr=>by cases hr)
 have hal:∀ pre' r' rest',R=pre'++r'::rest'->r'.fl.isSome=true->aalone r'.o.dst rest'.length ((ops.toList.take q).map (·.dst)) 0=true:=by
  intro pre' r' rest' he hf
  obtain ⟨_,h⟩:=good_at pre' g1 he
  cases hfl:r'.fl with
  | none=>rw [hfl] at hf;cases hf
  | some z=>simp only [hfl] at h;exact h.2.2.2.2
 have hlt:∀ {pre:List Rec} {r:Rec} {rest:List Rec},R=pre++r::rest->rest.length<q:=fun he=>by rw [←hlen,he];simp;omega
 have hlo:∀ pre r rest,R=pre++r::rest->(Mf.getD q 0).testBit rest.length=false->pureOp r.o.op=true/\aalone r.o.dst rest.length ((ops.toList.take q).map (·.dst)) 0=true:=by
  intro pre r rest he hb
  have ho:=(good_at pre g1 he).1
  have:=lateOk_spec _ _ hc1 rest.length r.o (by rw [List.getElem?_take,if_pos (hlt he),Array.getElem?_toList,ho])
  rw [Nat.zero_add,hb] at this
  rcases this with h | ⟨h1,_,h3⟩
  ·cases h
  ·exact ⟨h1,h3⟩
 have hlates:Lates Mf R q:=by
  refine ⟨fun pre r rest he hb=>?_,fun pre r rest he hb t ht pre' r' rest' he' ht'=>?_⟩
  ·obtain ⟨h1,h2⟩:=hlo pre r rest he hb
   refine ⟨h1,?_,?_⟩
   ·cases ha:r.add with
    | false=>rfl
    | true=>have h5:=(pure_quiet (P:=P) h1).1;rw [hadds r (by rw [he];simp) ha] at h5;cases h5
   ·cases hf:r.fl with
    | none=>rfl
    | some z=>
     have hgr:=(good_at pre g1 he).2
     simp only [hf] at hgr
     obtain ⟨_,⟨t,_,ht,_⟩ | ⟨t,n,ps,_,ht,_⟩⟩:=alaid_spec hgr.2.2.2.1
     ·exact absurd ht ((pure_quiet (P:=P) h1).2 t)
     ·rw [ht] at h1;cases h1
  ·obtain ⟨h1,h2⟩:=hlo pre r rest he hb
   rw [ht] at h2
   have h3:=hd _ _ _ he'
   rw [ht'] at h3
   have:=aalone_spec _ _ h2 _ h3
   omega
 have hfloatS:∀ {S:Nat->Bool},(∀ k,(Mf.getD q 0).testBit k=true->S k=true)->∀ pre r rest,R=pre++r::rest->r.fl.isSome=true\/r.add=true->S rest.length=true:=by
  intro S hS pre r rest he hf
  cases hb:(Mf.getD q 0).testBit rest.length with
  | true=>exact hS _ hb
  | false=>
   obtain ⟨h1,h2,h3⟩:=hlates.pure pre r rest he hb
   rw [h2,h3] at hf
   rcases hf with hf | hf<;>cases hf
 have hdne:∀ pre r rest t,R=pre++r::rest->(Mf.getD q 0).testBit rest.length=false->r.o.dst=some t->∀ r'∈R,r'.fl.isSome=true->r'.o.dst≠some t:=by
  intro pre r rest t he hb ht r' hr' hf ht'
  obtain ⟨p',s',e'⟩:=List.append_of_mem hr'
  have:=hlates.alone pre r rest he hb t ht p' r' s' e' ht'
  have:=(recs_inj e' he this).1
  subst this
  rw [(hlates.pure pre r' rest he hb).2.2] at hf;cases hf
 have hT:∀ pre r rest t x,R=pre++r::rest->(Mf.getD q 0).testBit rest.length=false->r.o.dst=some t->(alay R (aputs σ.tmps R) (atop σ.H R)).1[t]?=some x->x=r.y:=by
  intro pre r rest t x he hb ht hx
  rw [alay_get R _ _ (hdne pre r rest t he hb ht)] at hx
  have hl:alast t R=some r.y:=by
   rw [he]
   refine alast_alone ht pre fun r' hr' ht'=>?_
   obtain ⟨p',s',e'⟩:=List.append_of_mem hr'
   have:=hlates.alone pre r rest he hb t ht p' r' (s'++r::rest) (by rw [he,e'];simp) ht'
   simp at this;omega
  rcases aputs_get σ.tmps R hx with h1 | ⟨h1,_⟩
  ·rw [hl] at h1;simpa using h1.symm
  ·rw [hl] at h1;cases h1
 refine ⟨fun hok=>?_,fun ro F G i a w Q hs hQ=>?_⟩
 ·have t1:=good_grow hfs hok R g1
  have t2:=alay_grow (T:=aputs σ.tmps R) t1.ok R
  have t3:=astep_grow hfs (t1.trans t2).ok hstq
  exact ((t1.trans t2).trans t3).trans (aops_grow hfs _ _ _ t3.ok h).1
 ·have hS:∀ k,(Array.replicate ops.size false).getD k false=false:=by
   intro k
   rw [Array.getD_eq_getD_getElem?,Array.getElem?_replicate]
   split<;>rfl
  have hN:∀ {C:Prop} k,(fun k=>(Array.replicate ops.size false).getD k false) k=true->C:=fun k h=>by
   have h2:(Array.replicate ops.size false).getD k false=true:=h
   rw [hS] at h2;cases h2
  have hun:unl (Array.replicate ops.size false).toList<=ops.size:=by
   have:=List.countP_le_length (p:=(·==false)) (l:=(Array.replicate ops.size false).toList)
   simp only [Array.length_toList,Array.size_replicate] at this
   exact this
  have hc:curH σ.H (fun k=>(Array.replicate ops.size false).getD k false) R=σ.H:=curH_none hS R
  have hcl:∀ (listed:Array Bool) (F1:Nat->Prop) (pend i1:Nat->Nat) (a1:Act) (w1:World),InvA Γ (Mf.take q) σ R F F1 G i w (fun k=>listed.getD k false) pend i1 a1 w1->listed.getD q false=false:=by
   intro listed F1 pend i1 a1 w1 hI
   cases hc:listed.getD q false with
   | false=>rfl
   | true=>have:=hI.inA q hc;omega
  have stepQ:∀ (fuel:Nat) (listed:Array Bool) (F1:Nat->Prop) (pend i1:Nat->Nat) (a1:Act) (w1:World),listed.size=ops.size->unl listed.toList<=fuel+1->InvA Γ (Mf.take q) σ R F F1 G i w (fun k=>listed.getD k false) pend i1 a1 w1->
    (∀ k,(Mf.getD q 0).testBit k=true->listed.getD k false=true)->wpOpIn (W ro) 0 P ops Q q (wpAnyIn (W ro) 0 P .any ops Q fuel (listed.setIfInBounds q true)) a1 w1:=by
   intro fuel listed F1 pend i1 a1 w1 hsz hun1 hI hbits
   have hlq:=hcl _ _ _ _ _ _ hI
   have hq2:q<listed.size:=by omega
   have hlq2:listed.toList[q]?=some false:=by
    rw [Array.getD_eq_getD_getElem?,Array.getElem?_eq_getElem hq2] at hlq
    rw [Array.getElem?_toList,Array.getElem?_eq_getElem hq2];simpa using hlq
   have hSR:=hfloatS (S:=fun k=>listed.getD k false) hbits
   have hcur:curH σ.H (fun k=>listed.getD k false) R=atop σ.H R:=curH_all R fun pre r rest he ha=>hSR pre r rest he (.inr ha)
   have hpe:(fun b=>G b\/Pend R (fun k=>listed.getD k false) pend b)=(fun b=>G b\/PendUp R pend 0 b):=by
    funext b
    refine propext (or_congr Iff.rfl ⟨?_,?_⟩)
    ·rintro ⟨p1,r1,s1,h1,h2,h3,h4⟩;exact ⟨p1,r1,s1,h1,h2,Nat.zero_le _,h4⟩
    ·rintro ⟨p1,r1,s1,h1,h2,h3,h4⟩;exact ⟨p1,r1,s1,h1,h2,hSR _ _ _ h1 (.inl h2),h4⟩
   have hH:=hI.heap
   rw [hpe,hcur] at hH
   have hp':PendOk G R (fun _=>true) pend a1 w1:=
    ⟨fun pre r rest z he hf _=>hI.pend.obj pre r rest z he hf (hSR _ _ _ he (.inl (by rw [hf];rfl))),
     fun pre r rest z he hf _=>hI.pend.tmp pre r rest z he hf (hSR _ _ _ he (.inl (by rw [hf];rfl))),
     fun pre r rest pre' r' rest' he he' hf hf' _ _=>hI.pend.inj pre r rest pre' r' rest' he he' hf hf' (hSR _ _ _ he (.inl hf)) (hSR _ _ _ he' (.inl hf')),
     fun pre r rest he hf _=>hI.pend.out pre r rest he hf (hSR _ _ _ he (.inl hf))⟩
   have hVT:VRels ⟨F1,w1.heap,i1,(atop σ.H R).n⟩ (hidT (LateT R (fun k=>listed.getD k false)) (aputs σ.tmps R)) a1.tmps.toList:=by
    refine ⟨by rw [hidT_length,aputs_length];simpa using hI.val.1.symm,fun t x v hx hv=>?_⟩
    rcases hidT_get hx with ⟨_,rfl⟩ | ⟨hn,hx⟩
    ·exact .top _
    have hv':=hI.val.2 t v (by simpa using hv)
    rw [lookS_all R fun pre r rest he hrd=>Classical.byContradiction fun hc=>hn ⟨pre,r,rest,he,Bool.eq_false_iff.2 hc,hrd⟩,hcur] at hv'
    rcases aputs_get σ.tmps R hx with h | ⟨h,h2⟩
    ·rw [h] at hv';exact hv'
    ·rw [h] at hv';exact hv' x h2
   obtain ⟨i2,k1,k2,k3,k4⟩:=lay_ok hp' (fun _ _=>rfl) hH hVT R [] rfl
   have hG:(fun b=>G b\/PendUp R pend R.length b)=G:=by
    funext b
    refine propext ⟨?_,.inl⟩
    rintro (h | ⟨p1,r1,s1,h1,h2,h3,h4⟩)
    ·exact h
    ·have:s1.length<R.length:=by rw [h1];simp;omega
     omega
   rw [hG] at k1
   have hle:=hI.le
   rw [hcur] at hle
   have hsw:=fun t=>alay_swap (t:=t) (T:=hidT (LateT R (fun k=>listed.getD k false)) (aputs σ.tmps R)) (T':=aputs σ.tmps R) (H:=atop σ.H R) hidT_length R
   rw [(hsw 0).1] at k1 k2 k4
   generalize hHL:(alay R (aputs σ.tmps R) (atop σ.H R)).2=HL at *
   have hext:Ext σ.H.n F G i w F1 i2 w1:={ hI.ext with same:=fun r hr=>(k3 r (by omega)).trans (hI.ext.same r hr) }
   have hglobs:=hI.globs
   rw [hcur] at hglobs
   have le:Env.le ⟨F1,w1.heap,i1,(atop σ.H R).n⟩ ⟨F1,w1.heap,i2,HL.n⟩:=
    ⟨fun _ h=>h,fun _ _=>rfl,k4,k3,fun _ c e z h=>⟨c,e,z,h,Nat.le_refl _⟩⟩
   have hval:=hI.val
   rw [hcur] at hval
   have hval:=hval.mono le
   have hs1:SRel Γ F1 G i2 { σ with tmps:=hidT (LateT R (fun k=>listed.getD k false)) (alay R (aputs σ.tmps R) (atop σ.H R)).1,H:=HL } a1 w1:=by
    refine ⟨⟨?_,fun t x v hx hv=>?_⟩,?_,fun r hr=>Nat.lt_of_lt_of_le (hs.dlt r hr) (Nat.le_trans hle k4),k1,hglobs.mono le⟩
    ·rw [hidT_length,alay_len]
     have:=k2.1
     rw [alay_len,hidT_length] at this
     exact this
    ·rcases hidT_get hx with ⟨_,rfl⟩ | ⟨hn,hx⟩
     ·exact .top _
     refine k2.2 t x v ?_ hv
     rw [(hsw t).2 ?_]
     ·exact hx
     ·unfold hidT
      rw [List.getElem?_mapIdx]
      cases (aputs σ.tmps R)[t]? with
      | none=>rfl
      | some x=>exact congrArg some (if_neg hn)
    ·rw [hI.defers]
     refine List.map_congr_left fun r hr=>?_
     unfold mark
     rw [hext.same r (hs.dlt r hr)]
   have hev:∀ x,VRel ⟨F1,w1.heap,i2,HL.n⟩ (arho Γ (Mf.take (q+1)) ((ops.toList.take q).map (·.dst)) (alay R (aputs σ.tmps R) (atop σ.H R)).1 [] q x) (a1.eval x):=by
    intro x
    cases x with
    | tmp t=>
     simp only [arho,Act.eval,alast]
     cases hr:areads (Mf.take (q+1)) t q ((ops.toList.take q).map (·.dst)) 0 with
     | false=>simp only [Bool.false_eq_true,if_false];exact .top _
     | true=>
      simp only [if_true]
      cases ht:(alay R (aputs σ.tmps R) (atop σ.H R)).1[t]? with
      | none=>exact .top _
      | some x0=>
       have hn:¬ LateT R (fun k=>listed.getD k false) t:=by
        rintro ⟨pre,r,rest,he,hS2,hrd⟩
        have h1:=hd _ _ _ he
        rw [hrd] at h1
        have h2:=areads_spec _ _ hr _ h1
        rw [Nat.zero_add] at h2
        have h3:=acomp_lt h2 (hlt he)
        rw [List.getD_eq_getElem?_getD,List.getElem?_take,if_pos (by omega),←List.getD_eq_getElem?_getD] at h3
        have h4:=hbits _ h3
        have hS3:listed.getD rest.length false=false:=hS2
        rw [hS3] at h4;cases h4
       have htl:(hidT (LateT R (fun k=>listed.getD k false)) (alay R (aputs σ.tmps R) (atop σ.H R)).1).length=a1.tmps.toList.length:=hs1.tmps.1
       rw [hidT_length] at htl
       have hlt2:t<a1.tmps.size:=by
        have:=(List.getElem?_eq_some_iff.1 ht).1
        rw [htl,Array.length_toList] at this
        exact this
       have hv:a1.tmps[t]?=some a1.tmps[t]:=Array.getElem?_eq_getElem hlt2
       have hd2:a1.tmps.getD t undef=a1.tmps[t]:=by rw [Array.getD_eq_getD_getElem?,hv];rfl
       rw [hd2]
       refine hs1.tmps.2 t x0 _ ?_ (by rw [Array.getElem?_toList];exact hv)
       show (hidT _ _)[t]?=some x0
       unfold hidT
       rw [List.getElem?_mapIdx,ht]
       exact congrArg some (if_neg hn)
    | const v=>exact ev_const hs1.globs σ.tmps (.const v) (fun t h=>by cases h)
    | global g=>exact ev_const hs1.globs σ.tmps (.global g) (fun t h=>by cases h)
    | func f=>exact ev_const hs1.globs σ.tmps (.func f) (fun t h=>by cases h)
   have hunl:unl (listed.setIfInBounds q true).toList<=fuel:=by
    have:=unl_set listed.toList q hlq2
    rw [Array.toList_setIfInBounds]
    omega
   unfold wpOpIn
   simp only [hoq']
   refine astep_wp hfs hs1.heap hs1.globs hev hstq fun v w' F' i' hgv=>?_
   have le2:Env.le ⟨F1,w1.heap,i2,HL.n⟩ ⟨F',w'.heap,i',Hq.n⟩:=hgv.ext.le (Nat.le_refl _) hgv.le
   have hs2:=hs1.step hgv oq.dst
   rw [hdst] at hs2 ⊢
   refine drawL hfs hm hqn hfull hMs g1 hlen hd hw hlates hT hs.dlt h hQ fuel (listed.setIfInBounds q true) (fun k=>listed.getD k false) F' i' _ w' (by simpa using hsz) hunl (fun k=>getD_set hq2) (fun k hk=>by rw [←hlen];exact hI.inA k hk) hbits ?_
   exact ⟨hI.closed,hs2,hval.mono le2,hext.trans hgv.ext (Nat.le_trans hle k4),Nat.le_trans (Nat.le_trans hle k4) hgv.le⟩
  have hback:Backward ops:=fun j o ho=>(hm j o ho).1
  refine drawG (G:=G) (F0:=F) (i0:=i) (w0:=w) hk hfs hm (p:=q) (by omega) hMs g1 hlen hd hw ?_ ?_ ops.size _ F (fun _=>0) i a w (by simp) hun ?_
  ·intro fuel listed F1 pend i1 a1 w1 hsz hun1 hI hall
   have hlq:=hcl _ _ _ _ _ _ hI
   have hq2:q<listed.size:=by omega
   have hlq2:listed.toList[q]?=some false/\listed.getD q true=false:=by
    rw [Array.getD_eq_getD_getElem?,Array.getElem?_eq_getElem hq2] at hlq
    rw [Array.getElem?_toList,Array.getD_eq_getD_getElem?,Array.getElem?_eq_getElem hq2]
    have:listed[q]=false:=by simpa using hlq
    rw [this];exact ⟨rfl,rfl⟩
   have hpos:=unl_pos listed.toList q hlq2.1
   obtain ⟨fuel,rfl⟩:∃ f,fuel=f+1:=⟨fuel-1,by omega⟩
   obtain ⟨j0,hj0⟩:=exists_ready hback hsz q hqn hlq2.2
   refine ⟨fun h0=>(by rw [h0] at hj0;cases hj0),fun j hj=>?_⟩
   obtain ⟨hj1,oj,hoj,hdirect⟩:=mem_ready.1 hj
   obtain ⟨hj2,hj3,hj4⟩:=getD_false_true hj1
   have hjge:q<=j:=by
    rcases Nat.lt_or_ge j q with h | h
    ·rw [hall j h] at hj2;cases hj2
    ·exact h
   have hjq:j=q:=by
    rcases Nat.lt_or_ge q j with h | h
    ·exfalso
     have hb:(Mf.getD j 0).testBit q=true:=by
      rw [hfull j h (by omega),Nat.testBit_two_pow_sub_one];simpa using h
     obtain ⟨e,he,hbi,hx⟩:=((hm j oj hoj).2 q).1 hb
     have hel:=hdirect e he hbi
     have hlt3:=hI.inA _ hel
     rcases hx with hx | hx
     ·rw [←hx] at hel;rw [hlq] at hel;cases hel
     ·have:=anc_lt hm e.on q (by omega) hx
      omega
    ·omega
   subst hjq
   exact stepQ fuel listed F1 pend i1 a1 w1 hsz hun1 hI (fun k hk=>hall k (anc_lt hm j k hqn hk))
  ·intro fuel listed F1 pend i1 a1 w1 hsz hun1 hI j hj hqj hanc
   have hlq:=hcl _ _ _ _ _ _ hI
   have hjn:j<ops.size:=by
    have:=(getD_false_true (mem_ready.1 hj).1).2.1
    omega
   have hjq:j=q:=by
    rcases Nat.lt_or_ge q j with h | h
    ·exfalso
     have:=hanc q (by rw [hfull j h hjn,Nat.testBit_two_pow_sub_one];simpa using h)
     rw [hlq] at this;cases this
    ·omega
   subst hjq
   exact stepQ fuel listed F1 pend i1 a1 w1 hsz hun1 hI hanc
  refine ⟨⟨fun j k hj _=>?_⟩,fun k hk=>?_,?_,?_,hs.defers,?_,Ext.refl _ _ _ _ _,?_,⟨?_,?_,?_,?_⟩⟩
  ·exact hN _ hj
  ·exact hN _ hk
  ·rw [hc]
   have hG:(fun b=>G b\/Pend R (fun k=>(Array.replicate ops.size false).getD k false) (fun _=>0) b)=G:=by
    funext b
    refine propext ⟨?_,.inl⟩
    rintro (h | ⟨_,_,_,_,_,h,_⟩)
    ·exact h
    ·exact hN _ h
   rw [hG];exact hs.heap
  ·rw [hc]
   refine ⟨by have:=hs.tmps.1;simpa using this.symm,fun t v hv=>?_⟩
   rw [lookS_none hS]
   exact fun x hx=>hs.tmps.2 t x v hx (by simpa using hv)
  ·rw [hc];exact hs.globs
  ·rw [hc];exact Nat.le_refl _
  ·intro _ _ _ _ _ _ h;exact hN _ h
  ·intro _ _ _ _ _ _ h;exact hN _ h
  ·intro _ _ _ _ _ _ _ _ _ _ h;exact hN _ h
  ·intro _ _ _ _ _ h;exact hN _ h
def storeOp:Op->Bool
 | .store ..=>true
 | _=>false
def lateQ (P:Program) (ops:Array Oper):Bool:=
 match amasks ops.toList 0 [] with
 | some Mf=>match ops.toList[asplit Mf 0 0-1]?,ops.toList[asplit Mf 0 0-2]? with
  | some o,some o'=>Nat.blt 1 (asplit Mf 0 0)&&storeOp o.op&&(match o.dst with | none=>true | some _=>false)&&
   (match afloat P (Mf.take (asplit Mf 0 0-1)) (asplit Mf 0 0-2) o' with | some _=>true | none=>false)&&(Mf.getD (asplit Mf 0 0-1) 0).testBit (asplit Mf 0 0-2)&&
   lateOk P (Mf.getD (asplit Mf 0 0-1) 0) ((ops.toList.take (asplit Mf 0 0-1)).map (·.dst)) (ops.toList.take (asplit Mf 0 0-1)) 0
  | _,_=>false
 | none=>false
def adrawN (chk:Chk) (P:Program) (Γ:Globs) (fs:Fns) (ops:Array Oper) (σ:St):Option St:=
 match lateQ P ops with
 | true=>adrawL chk P Γ fs ops σ
 | false=>adrawC chk P Γ fs ops σ
theorem adrawN_ok (hk:ChkOk P fs ops chk) (hfs:FnsOk P Γ fs) {σ':St} (h:adrawN chk P Γ fs ops σ=some σ'):DrawOk P Γ ops σ σ':=by
 unfold adrawN at h
 split at h
 ·exact adrawL_ok hk hfs h
 ·exact adrawC_ok hk hfs h
end
end Go.Abs
end
noncomputable section
namespace Go.Abs
open Go.RowKit
variable {P : Program} {Γ : Globs} {g : FuncId} {args : List AV} {y : AV} {H' : Heap}
def Old (w:World) (b:Nat):Prop:=b<w.heap.size
theorem hrel_start (w:World):HRel (Old w) (fun _=>False) id Heap.empty w.heap:=by
 refine ⟨fun r row h=>?_,fun r row h=>?_,fun r r' a b h=>?_,fun b hb=>?_,fun b _ hg=>hg,rfl⟩
 ·rw [Heap.get_empty] at h;cases h
 ·rw [Heap.get_empty] at h;cases h
 ·rw [Heap.get_empty] at h;cases h
 ·rcases hb with hb | hb
  ·exact hb
  ·exact hb.elim
theorem CallOk.calls (h:CallOk P (fun _=>none) g args Heap.empty y H') {w:World} {args':Array Value} (hA:VRels ⟨Old w,w.heap,id,0⟩ args args'.toList):
  Calls P g args' w fun e w'=>∃ v F' i',e=.returned v/\VRel ⟨F',w'.heap,i',H'.n⟩ y v/\Ext 0 (Old w) (fun _=>False) id w F' i' w':=by
 have:=(h.does (Old w) (fun _=>False) id w args' (hrel_start w) ⟨fun g cells e=>by cases e⟩ hA).calls (fun k d hd=>by cases hd)
 refine this.mono fun e w' he=>?_
 cases e with
 | returned v=>obtain ⟨F',i',hgv⟩:=he;exact ⟨v,F',i',rfl,hgv.val,hgv.ext⟩
 | panicked c=>exact he.elim
 | outgrown=>exact he.elim
theorem CallOk.law (h:CallOk P (fun _=>none) g args Heap.empty (.bool true) H') {w:World} {args':Array Value} (hA:VRels ⟨Old w,w.heap,id,0⟩ args args'.toList):
  Calls P g args' w fun e w'=>e=.returned (.bool true)/\Below w.heap.size w w':=by
 refine (h.calls hA).mono fun e w' ⟨v,F',i',he,hv,hx⟩=>?_
 cases hv
 exact ⟨he,hx.os,hx.tape,hx.output,hx.size,fun k hk=>hx.keep k (.inl hk)⟩
end Go.Abs
end
