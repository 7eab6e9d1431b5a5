/- Part 1 of the library of the proof: an abstract run of the program. -/
import Derived.RangeFuncLeaves
import Derived.OrdersIn
import Derived.Below
import Derived.Laws.Cells
import Derived.Laws.World
import Derived.Laws.FloatArith
import Derived.Laws.StructEq
import Derived.ChangeKeysEq
import Derived.Laws.Append
import Derived.Laws.Build
import Derived.IntWalk
set_option linter.unusedVariables false
set_option linter.unusedSimpArgs false

noncomputable section
namespace Go.Abs
inductive AV where
 | top
 | bool (b:Bool)
 | int (k:IntKind) (n:Int)
 | flo (k:FloatKind) (o:Option Nat)
 | string (s:ByteArray)
 | nilptr
 | ptr (r off:Nat)
 | cptr (cells:List AV) (off:Nat)
 | nilslice
 | slice (r off len esz:Nat)
 | list (len:Nat) (cells:List AV)
 | nl (len:Nat) (cells:List AV)
 | map (r:Nat)
 | nilmap
 | func (f:FuncId) (first captured:List AV)
 | yield (r:Nat)
 | nilFunc
 | iface (t:TypeId) (v:AV)
 | nilIface
 | agg (cells:List AV)
 | tuple (vs:List AV)
 deriving Inhabited
abbrev AV.float (k:FloatKind) (bits:Nat):AV:=.flo k (some bits)
abbrev AV.nan (k:FloatKind):AV:=.flo k none
structure Env where
 F:Nat->Prop
 h:Array Obj
 i:Nat->Nat
 N:Nat
def MemAt (h:Array Obj) (b o:Nat) (vs:List Value):Prop:=
 ∃ c e z,h[b]?=some (.cells c e z)/\o+vs.length<=c.size/\∀ (j:Nat) (v:Value),vs[j]?=some v->c[o+j]?=some v
inductive VRel (E:Env):AV->Value->Prop
 | top (v:Value):VRel E .top v
 | bool (b:Bool):VRel E (.bool b) (.bool b)
 | int (k:IntKind) (n:Int):VRel E (.int k n) (.int k n)
 | float (k:FloatKind) (n:Nat):VRel E (.float k n) (.float k n)
 | nan (k:FloatKind) (n:Nat) (h:(k.format.read n).isNaN=true):VRel E (.nan k) (.float k n)
 | string (s:ByteArray):VRel E (.string s) (.string s)
 | nilptr:VRel E .nilptr (.pointer none)
 | ptr (r off:Nat) (hr:r<E.N):VRel E (.ptr r off) (.pointer (some ⟨E.i r,off,none⟩))
 | cptr (cells:List AV) (off b o:Nat) (vs:List Value) (hF:E.F b) (hm:MemAt E.h b o vs) (hl:cells.length=vs.length)
   (hv:∀ (j:Nat) (x:AV) (v:Value),cells[j]?=some x->vs[j]?=some v->VRel E x v):VRel E (.cptr cells off) (.pointer (some ⟨b,o+off,none⟩))
 | nilslice:VRel E .nilslice (.slice none 0 0)
 | slice (r off len esz cap:Nat) (hr:r<E.N) (hc:len<=cap)
   (hb:∃ c e z,E.h[E.i r]?=some (.cells c e z)/\off+cap*esz<=c.size):VRel E (.slice r off len esz) (.slice (some ⟨E.i r,off,none⟩) len cap)
 | listNil (len cap:Nat) (a:Option Addr) (hc:len<=cap):VRel E (.list len []) (.slice a len cap)
 | list (len cap:Nat) (cells:List AV) (b o:Nat) (vs:List Value) (hc:len<=cap) (hF:E.F b) (hm:MemAt E.h b o vs) (hl:cells.length=vs.length)
   (hv:∀ (j:Nat) (x:AV) (v:Value),cells[j]?=some x->vs[j]?=some v->VRel E x v):VRel E (.list len cells) (.slice (some ⟨b,o,none⟩) len cap)
 | nlNil:VRel E (.nl 0 []) (.slice none 0 0)
 | nl (len cap:Nat) (cells:List AV) (b o:Nat) (vs:List Value) (h0:0<len) (hc:len<=cap) (hF:E.F b) (hm:MemAt E.h b o vs) (hl:cells.length=vs.length)
   (hv:∀ (j:Nat) (x:AV) (v:Value),cells[j]?=some x->vs[j]?=some v->VRel E x v):VRel E (.nl len cells) (.slice (some ⟨b,o,none⟩) len cap)
 | map (r:Nat) (hr:r<E.N):VRel E (.map r) (.map (some (E.i r)))
 | nilmap:VRel E .nilmap (.map none)
 | func (f:FuncId) (first captured:List AV) (first' captured':Array Value) (h1:first.length=first'.size) (h2:captured.length=captured'.size)
   (hf:∀ (j:Nat) (x:AV) (v:Value),first[j]?=some x->first'[j]?=some v->VRel E x v)
   (hc:∀ (j:Nat) (x:AV) (v:Value),captured[j]?=some x->captured'[j]?=some v->VRel E x v):VRel E (.func f first captured) (.func (.func f) first' captured')
 | yield (r:Nat) (hr:r<E.N):VRel E (.yield r) (.func (.yield (E.i r)) #[] #[])
 | nilFunc:VRel E .nilFunc .nilFunc
 | iface (t:TypeId) (x:AV) (v:Value) (h:VRel E x v):VRel E (.iface t x) (.iface t v)
 | nilIface:VRel E .nilIface .nilIface
 | agg (cells:List AV) (vs:Array Value) (hl:cells.length=vs.size)
   (hv:∀ (j:Nat) (x:AV) (v:Value),cells[j]?=some x->vs[j]?=some v->VRel E x v):VRel E (.agg cells) (.agg vs)
 | tuple (cells:List AV) (vs:Array Value) (hl:cells.length=vs.size)
   (hv:∀ (j:Nat) (x:AV) (v:Value),cells[j]?=some x->vs[j]?=some v->VRel E x v):VRel E (.tuple cells) (.tuple vs)
def VRels (E:Env) (xs:List AV) (vs:List Value):Prop:=
 xs.length=vs.length/\∀ (j:Nat) (x:AV) (v:Value),xs[j]?=some x->vs[j]?=some v->VRel E x v
structure Env.le (E E':Env):Prop where
 F:∀ b,E.F b->E'.F b
 h:∀ b,E.F b->E'.h[b]?=E.h[b]?
 N:E.N<=E'.N
 i:∀ r,r<E.N->E'.i r=E.i r
 sz:∀ (b:Nat) c e z,E.h[b]?=some (.cells c e z)->∃ c' e' z',E'.h[b]?=some (.cells c' e' z')/\c.size<=c'.size
theorem MemAt.mono {h h':Array Obj} {b o:Nat} {vs:List Value} (hm:MemAt h b o vs) (he:h'[b]?=h[b]?):MemAt h' b o vs:=by
 obtain ⟨c,e,z,h1,h2,h3⟩:=hm
 exact ⟨c,e,z,by rw [he,h1],h2,h3⟩
theorem VRel.mono {E E':Env} (le:E.le E') {x:AV} {v:Value} (h:VRel E x v):VRel E' x v:=by
 induction h with
 | top v=>exact .top v
 | bool b=>exact .bool b
 | int k n=>exact .int k n
 | float k n=>exact .float k n
 | nan k n h=>exact .nan k n h
 | string s=>exact .string s
 | nilptr=>exact .nilptr
 | ptr r off hr=>rw [←le.i r hr];exact .ptr r off (Nat.lt_of_lt_of_le hr le.N)
 | cptr cells off b o vs hF hm hl _ ih=>exact .cptr cells off b o vs (le.F b hF) (hm.mono (le.h b hF)) hl ih
 | nilslice=>exact .nilslice
 | slice r off len esz cap hr hc hb=>
  rw [←le.i r hr]
  refine .slice r off len esz cap (Nat.lt_of_lt_of_le hr le.N) hc ?_
  obtain ⟨c,e,z,h1,h2⟩:=hb
  obtain ⟨c2,e2,z2,h3,hle⟩:=le.sz _ c e z h1
  exact ⟨c2,e2,z2,by rw [le.i r hr];exact h3,Nat.le_trans h2 hle⟩
 | listNil len cap a hc=>exact .listNil len cap a hc
 | list len cap cells b o vs hc hF hm hl _ ih=>exact .list len cap cells b o vs hc (le.F b hF) (hm.mono (le.h b hF)) hl ih
 | nlNil=>exact .nlNil
 | nl len cap cells b o vs h0 hc hF hm hl _ ih=>exact .nl len cap cells b o vs h0 hc (le.F b hF) (hm.mono (le.h b hF)) hl ih
 | map r hr=>rw [←le.i r hr];exact .map r (Nat.lt_of_lt_of_le hr le.N)
 | nilmap=>exact .nilmap
 | func f first captured first' captured' h1 h2 _ _ ih1 ih2=>exact .func f first captured first' captured' h1 h2 ih1 ih2
 | yield r hr=>rw [←le.i r hr];exact .yield r (Nat.lt_of_lt_of_le hr le.N)
 | nilFunc=>exact .nilFunc
 | iface t x v _ ih=>exact .iface t x v ih
 | nilIface=>exact .nilIface
 | agg cells vs hl _ ih=>exact .agg cells vs hl ih
 | tuple cells vs hl _ ih=>exact .tuple cells vs hl ih
theorem VRels.mono {E E':Env} (le:E.le E') {xs:List AV} {vs:List Value} (h:VRels E xs vs):VRels E' xs vs:=
 ⟨h.1,fun j x v h1 h2=>(h.2 j x v h1 h2).mono le⟩
end Go.Abs
end
noncomputable section
namespace Go.Abs
structure ALoop where
 state:LoopState
 pending:Option Code
 tmps:List AV
 params:Array Tmp
 assign:Code
 body:Code
 defers:Nat
inductive ARow where
 | cells (cs:List AV)
 | deferred
 | loop (l:ALoop)
 | iter (s:ByteArray) (pos:Nat)
 | map (es:List (AV × AV × Nat)) (clock:Nat)
structure Heap where
 rev:List (Option ARow)
 n:Nat
 lim:Nat
def Heap.get (H:Heap) (r:Nat):Option ARow:=
 if r<H.n then match H.rev[H.n-1-r]? with
  | some row=>row
  | none=>none
 else none
def Heap.push (H:Heap) (row:ARow):Heap:={ H with rev:=some row::H.rev,n:=H.n+1 }
def Heap.upd (H:Heap) (r:Nat) (row:ARow):Heap:={ H with rev:=H.rev.set (H.n-1-r) (some row) }
def Heap.kill (H:Heap) (r:Nat):Heap:={ H with rev:=H.rev.set (H.n-1-r) none }
@[simp] theorem Heap.n_push (H : Heap) (row : ARow) : (H.push row).n = H.n + 1 := rfl
@[simp] theorem Heap.n_upd (H : Heap) (r : Nat) (row : ARow) : (H.upd r row).n = H.n := rfl
@[simp] theorem Heap.n_kill (H : Heap) (r : Nat) : (H.kill r).n = H.n := rfl
@[simp] theorem Heap.lim_push (H : Heap) (row : ARow) : (H.push row).lim = H.lim := rfl
@[simp] theorem Heap.lim_upd (H : Heap) (r : Nat) (row : ARow) : (H.upd r row).lim = H.lim := rfl
@[simp] theorem Heap.lim_kill (H : Heap) (r : Nat) : (H.kill r).lim = H.lim := rfl
theorem Heap.get_lt {H:Heap} {r:Nat} {row:ARow} (h:H.get r=some row):r<H.n:=by
 unfold Heap.get at h
 split at h
 ·assumption
 ·cases h
theorem Heap.get_push_lt {H:Heap} {r:Nat} {row:ARow} (h:r<H.n):(H.push row).get r=H.get r:=by
 have e:H.n+1-1-r=(H.n-1-r)+1:=by omega
 unfold Heap.get Heap.push
 simp only [e,List.getElem?_cons_succ]
 rw [if_pos (by omega),if_pos h]
theorem Heap.get_push_self {H:Heap} {row:ARow}:(H.push row).get H.n=some row:=by
 unfold Heap.get Heap.push
 simp
theorem Heap.get_push {H:Heap} {r:Nat} {row row':ARow} (h:(H.push row).get r=some row'):(r<H.n/\H.get r=some row')\/(r=H.n/\row'=row):=by
 have hlt:=Heap.get_lt h
 simp only [Heap.n_push] at hlt
 by_cases hr:r<H.n
 ·rw [Heap.get_push_lt hr] at h;exact .inl ⟨hr,h⟩
 ·have:r=H.n:=by omega
  subst this
  rw [Heap.get_push_self] at h
  exact .inr ⟨rfl,(Option.some.inj h).symm⟩
theorem Heap.get_setRev {H:Heap} (hok:H.rev.length=H.n) {r s:Nat} (x:Option ARow) (hr:r<H.n):
  ({ H with rev:=H.rev.set (H.n-1-r) x }:Heap).get s=if s=r then x else H.get s:=by
 unfold Heap.get
 simp only [List.getElem?_set]
 by_cases hs:s<H.n
 ·rw [if_pos hs,if_pos hs]
  by_cases e:s=r
  ·subst e
   rw [if_pos rfl,if_pos rfl,if_pos (by omega)]
  ·rw [if_neg (by omega),if_neg e]
 ·rw [if_neg hs,if_neg hs,if_neg (by omega)]
theorem Heap.get_upd {H:Heap} (hok:H.rev.length=H.n) {r s:Nat} (row:ARow) (hr:r<H.n):(H.upd r row).get s=if s=r then some row else H.get s:=
 Heap.get_setRev hok _ hr
theorem Heap.get_kill {H:Heap} (hok:H.rev.length=H.n) {r s:Nat} (hr:r<H.n):(H.kill r).get s=if s=r then none else H.get s:=
 Heap.get_setRev hok _ hr
structure CellsOk (E:Env) (cs:List AV) (c:Array Value) (z:Nat × Nat):Prop where
 len:cs.length<=c.size
 val:∀ (j:Nat) (x:AV) (v:Value),cs[j]?=some x->c[j]?=some v->VRel E x v
 free:∀ j,j<c.size->¬ (z.1<=j/\j<z.2)
structure MapOk (E:Env) (es:List (AV × AV × Nat)) (es':List MapEntry):Prop where
 len:es.length=es'.length
 key:∀ (j:Nat) (x:AV × AV × Nat) (v:MapEntry),es[j]?=some x->es'[j]?=some v->VRel E x.1 v.key
 val:∀ (j:Nat) (x:AV × AV × Nat) (v:MapEntry),es[j]?=some x->es'[j]?=some v->VRel E x.2.1 v.val
 born:∀ (j:Nat) (x:AV × AV × Nat) (v:MapEntry),es[j]?=some x->es'[j]?=some v->x.2.2=v.born
inductive RowRel (E:Env):ARow->Obj->Prop
 | cells (cs:List AV) (c:Array Value) (e:TypeId) (z:Nat × Nat) (h:CellsOk E cs c z):RowRel E (.cells cs) (.cells c e z)
 | deferred:RowRel E .deferred (.deferred (some []))
 | loop (l:ALoop) (fn:FuncId) (t:Array Value) (ht:VRels E l.tmps t.toList) (hd:l.defers<E.N):
   RowRel E (.loop l) (.loop { state:=l.state,pending:=l.pending,fn:=fn,tmps:=t,params:=l.params,assign:=l.assign,body:=l.body,defers:=E.i l.defers })
 | iter (s:ByteArray) (pos:Nat):RowRel E (.iter s pos) (.stringIter s pos)
 | map (es:List (AV × AV × Nat)) (es':Array MapEntry) (clock:Nat) (h:MapOk E es es'.toList):RowRel E (.map es clock) (.map es' clock)
theorem CellsOk.mono {E E':Env} (le:E.le E') {cs:List AV} {c:Array Value} {z:Nat × Nat} (h:CellsOk E cs c z):CellsOk E' cs c z:=
 ⟨h.len,fun j x v h1 h2=>(h.val j x v h1 h2).mono le,h.free⟩
theorem RowRel.mono {E E':Env} (le:E.le E') {r:ARow} {o:Obj} (h:RowRel E r o):RowRel E' r o:=by
 cases h with
 | cells cs c e z h=>exact .cells cs c e z (h.mono le)
 | deferred=>exact .deferred
 | loop l fn t ht hd=>rw [←le.i l.defers hd];exact .loop l fn t (ht.mono le) (Nat.lt_of_lt_of_le hd le.N)
 | iter s pos=>exact .iter s pos
 | map es es' clock h=>
  exact .map es es' clock ⟨h.len,fun j x v a b=>(h.key j x v a b).mono le,fun j x v a b=>(h.val j x v a b).mono le,h.born⟩
structure HRel (F G:Nat->Prop) (i:Nat->Nat) (H:Heap) (h:Array Obj):Prop where
 row:∀ (r:Nat) (row:ARow),H.get r=some row->∃ o,h[i r]?=some o/\RowRel ⟨F,h,i,H.n⟩ row o
 out:∀ (r:Nat) (row:ARow),H.get r=some row->¬ F (i r)/\¬ G (i r)
 inj:∀ (r r':Nat) (row row':ARow),H.get r=some row->H.get r'=some row'->i r=i r'->r=r'
 old:∀ b,F b\/G b->b<h.size
 apart:∀ b,F b->¬ G b
 ok:H.rev.length=H.n
structure Ext (K:Nat) (F G:Nat->Prop) (i:Nat->Nat) (w:World) (F':Nat->Prop) (i':Nat->Nat) (w':World):Prop where
 grow:∀ b,F b->F' b
 keep:∀ b,F b\/G b->w'.heap[b]?=w.heap[b]?
 size:w.heap.size<=w'.heap.size
 cells:∀ (b:Nat) c e z,w.heap[b]?=some (.cells c e z)->∃ c' e' z',w'.heap[b]?=some (.cells c' e' z')/\c.size<=c'.size
 same:∀ r,r<K->i' r=i r
 os:w'.os=w.os
 output:w'.output=w.output
 tape:w'.tape=w.tape
theorem Ext.refl (K:Nat) (F G:Nat->Prop) (i:Nat->Nat) (w:World):Ext K F G i w F i w:=
 ⟨fun _ h=>h,fun _ _=>rfl,Nat.le_refl _,fun _ c e z h=>⟨c,e,z,h,Nat.le_refl _⟩,fun _ _=>rfl,rfl,rfl,rfl⟩
theorem Ext.trans {K K':Nat} {F F' F'' G:Nat->Prop} {i i' i'':Nat->Nat} {w w' w'':World} (h:Ext K F G i w F' i' w') (k:Ext K' F' G i' w' F'' i'' w'') (hK:K<=K'):
  Ext K F G i w F'' i'' w'' where
 grow b hb:=k.grow b (h.grow b hb)
 keep b hb:=(k.keep b (hb.imp (h.grow b) id)).trans (h.keep b hb)
 size:=Nat.le_trans h.size k.size
 cells b c e z hc:=by
  obtain ⟨c2,e2,z2,h2,l2⟩:=h.cells b c e z hc
  obtain ⟨c3,e3,z3,h3,l3⟩:=k.cells b c2 e2 z2 h2
  exact ⟨c3,e3,z3,h3,Nat.le_trans l2 l3⟩
 same r hr:=(k.same r (Nat.lt_of_lt_of_le hr hK)).trans (h.same r hr)
 os:=k.os.trans h.os
 output:=k.output.trans h.output
 tape:=k.tape.trans h.tape
theorem Ext.le {K:Nat} {F F' G:Nat->Prop} {i i':Nat->Nat} {w w':World} (h:Ext K F G i w F' i' w') {N N':Nat} (hN:N<=K) (hN':N<=N'):
  Env.le ⟨F,w.heap,i,N⟩ ⟨F',w'.heap,i',N'⟩:=
 ⟨h.grow,fun b hb=>h.keep b (.inl hb),hN',fun r hr=>h.same r (Nat.lt_of_lt_of_le hr hN),h.cells⟩
structure St where
 tmps:List AV
 H:Heap
 defers:List Nat
abbrev Globs:=Nat->Option (List AV)
structure GlobsOk (Γ:Globs) (F:Nat->Prop) (h:Array Obj) (i:Nat->Nat) (N:Nat):Prop where
 at_:∀ g cells,Γ g=some cells->VRel ⟨F,h,i,N⟩ (.cptr cells 0) (.pointer (some ⟨g,0,none⟩))
theorem GlobsOk.mono {Γ:Globs} {F F':Nat->Prop} {h h':Array Obj} {i i':Nat->Nat} {N N':Nat} (hg:GlobsOk Γ F h i N) (le:Env.le ⟨F,h,i,N⟩ ⟨F',h',i',N'⟩):
  GlobsOk Γ F' h' i' N':=⟨fun g cells e=>(hg.at_ g cells e).mono le⟩
def mark (i:Nat->Nat) (r:Nat):Deferred:={ target:=.collected (i r),args:=#[] }
structure SRel (Γ:Globs) (F G:Nat->Prop) (i:Nat->Nat) (σ:St) (a:Act) (w:World):Prop where
 tmps:VRels ⟨F,w.heap,i,σ.H.n⟩ σ.tmps a.tmps.toList
 defers:a.defers=σ.defers.map (mark i)
 dlt:∀ r,r∈σ.defers->r<σ.H.n
 heap:HRel F G i σ.H w.heap
 globs:GlobsOk Γ F w.heap i σ.H.n
end Go.Abs
end
noncomputable section
namespace Go.Abs
def AV.one:AV->Bool
 | .top | .agg _ | .tuple _=>false
 | _=>true
def AV.known:AV->Bool
 | .top=>false
 | _=>true
def AV.cells:AV->List AV
 | .agg cs=>cs
 | v=>[v]
theorem VRel.one {E:Env} {x:AV} {v:Value} (h:VRel E x v) (ho:x.one=true):v.oneCell'=true:=by
 cases h<;>first | rfl | simp [AV.one] at ho
theorem VRel.cells {E:Env} {x:AV} {v:Value} (h:VRel E x v) (ho:x.known=true):VRels E x.cells v.cells.toList:=by
 have one:∀ (y:AV) (u:Value),VRel E y u->VRels E [y] [u]:=by
  intro y u hu
  refine ⟨rfl,fun j a b h1 h2=>?_⟩
  cases j with
  | zero=>simp at h1 h2;subst h1;subst h2;exact hu
  | succ j=>simp at h1
 cases h with
 | top v=>simp [AV.known] at ho
 | agg cells vs hl hv=>exact ⟨by simpa [AV.cells,Value.cells] using hl,fun j x v h1 h2=>hv j x v h1 (by simpa [Value.cells] using h2)⟩
 | _=>exact one _ _ (by constructor<;>assumption)
theorem VRels.get {E:Env} {xs:List AV} {vs:List Value} (h:VRels E xs vs) {j:Nat} {x:AV} (hx:xs[j]?=some x):∃ v,vs[j]?=some v/\VRel E x v:=by
 have hj:j<vs.length:=by
  rw [←h.1]
  exact (List.getElem?_eq_some_iff.1 hx).1
 exact ⟨vs[j],by simp [hj],h.2 j x _ hx (by simp [hj])⟩
theorem VRels.nil {E:Env}:VRels E [] []:=⟨rfl,fun j x v h=>by simp at h⟩
theorem VRels.cons {E:Env} {x:AV} {v:Value} {xs:List AV} {vs:List Value} (h:VRel E x v) (hs:VRels E xs vs):VRels E (x::xs) (v::vs):=by
 refine ⟨by simp [hs.1],fun j y u h1 h2=>?_⟩
 cases j with
 | zero=>simp at h1 h2;subst h1;subst h2;exact h
 | succ j=>exact hs.2 j y u (by simpa using h1) (by simpa using h2)
theorem VRels.append {E:Env} {xs ys:List AV} {vs us:List Value} (h:VRels E xs vs) (k:VRels E ys us):VRels E (xs++ys) (vs++us):=by
 refine ⟨by simp [h.1,k.1],fun j x v h1 h2=>?_⟩
 by_cases hj:j<xs.length
 ·rw [List.getElem?_append_left hj] at h1
  rw [List.getElem?_append_left (by rw [←h.1];exact hj)] at h2
  exact h.2 j x v h1 h2
 ·rw [List.getElem?_append_right (by omega)] at h1
  rw [List.getElem?_append_right (by rw [←h.1];omega)] at h2
  exact k.2 _ x v h1 (by rw [h.1];exact h2)
theorem VRels.take {E:Env} {xs:List AV} {vs:List Value} (h:VRels E xs vs) (n:Nat):VRels E (xs.take n) (vs.take n):=by
 refine ⟨by simp [h.1],fun j x v h1 h2=>?_⟩
 rw [List.getElem?_take] at h1 h2
 split at h1
 ·rename_i hj;rw [if_pos hj] at h2;exact h.2 j x v h1 h2
 ·cases h1
theorem VRels.drop {E:Env} {xs:List AV} {vs:List Value} (h:VRels E xs vs) (n:Nat):VRels E (xs.drop n) (vs.drop n):=by
 refine ⟨by simp [h.1],fun j x v h1 h2=>?_⟩
 rw [List.getElem?_drop] at h1 h2
 exact h.2 _ x v h1 h2
theorem VRels.set {E:Env} {xs:List AV} {vs:List Value} (h:VRels E xs vs) (n:Nat) {x:AV} {v:Value} (hv:VRel E x v):VRels E (xs.set n x) (vs.set n v):=by
 refine ⟨by simp [h.1],fun j y u h1 h2=>?_⟩
 rw [List.getElem?_set] at h1 h2
 split at h1
 ·rename_i hj;subst hj
  rw [if_pos rfl] at h2
  split at h1
  ·split at h2
   ·simp at h1 h2;subst h1;subst h2;exact hv
   ·cases h2
  ·cases h1
 ·rename_i hj;rw [if_neg hj] at h2;exact h.2 j y u h1 h2
theorem VRels.replicate {E:Env} {x:AV} {v:Value} (h:VRel E x v) (n:Nat):VRels E (List.replicate n x) (List.replicate n v):=by
 refine ⟨by simp,fun j y u h1 h2=>?_⟩
 rw [List.getElem?_replicate] at h1 h2
 split at h1
 ·rename_i hj;rw [if_pos hj] at h2;simp at h1 h2;subst h1;subst h2;exact h
 ·cases h1
def put (i:Nat->Nat) (r b:Nat):Nat->Nat:=fun s=>if s=r then b else i s
theorem put_lt {i:Nat->Nat} {r b s:Nat} (h:s<r):put i r b s=i s:=by unfold put;rw [if_neg (by omega)]
theorem put_self {i:Nat->Nat} {r b:Nat}:put i r b r=b:=by simp [put]
theorem ext_alloc {K:Nat} {F G:Nat->Prop} {i:Nat->Nat} {w:World} (o:Obj) (hold:∀ b,F b\/G b->b<w.heap.size) (r b:Nat) (hr:K<=r):
  Ext K F G i w F (put i r b) (w.alloc o) where
 grow _ h:=h
 keep k hk:=by
  have:=hold k hk
  simp only [World.alloc,Array.getElem?_push];rw [if_neg (by omega)]
 size:=by simp
 cells k c e z hc:=by
  refine ⟨c,e,z,?_,Nat.le_refl _⟩
  have:k<w.heap.size:=(Array.getElem?_eq_some_iff.1 hc).1
  simp only [World.alloc,Array.getElem?_push];rw [if_neg (by omega)];exact hc
 same s hs:=put_lt (by omega)
 os:=rfl
 output:=rfl
 tape:=rfl
theorem HRel.alloc {F G:Nat->Prop} {i:Nat->Nat} {H:Heap} {w:World} (hH:HRel F G i H w.heap) (o:Obj) (row:ARow)
  (hrow:RowRel ⟨F,(w.alloc o).heap,put i H.n w.heap.size,H.n+1⟩ row o):
  HRel F G (put i H.n w.heap.size) (H.push row) (w.alloc o).heap:=by
 have ext:=ext_alloc (K:=H.n) (F:=F) (G:=G) (i:=i) (w:=w) o hH.old H.n w.heap.size (Nat.le_refl _)
 have le:Env.le ⟨F,w.heap,i,H.n⟩ ⟨F,(w.alloc o).heap,put i H.n w.heap.size,H.n+1⟩:=ext.le (Nat.le_refl _) (Nat.le_succ _)
 have lt:∀ (r:Nat) (ro:ARow),H.get r=some ro->i r<w.heap.size:=fun r ro h=>by
  obtain ⟨o',ho,_⟩:=hH.row r ro h
  exact (Array.getElem?_eq_some_iff.1 ho).1
 refine ⟨?_,?_,?_,?_,hH.apart,by simp [Heap.push,hH.ok]⟩
 ·intro r ro h
  rcases Heap.get_push h with ⟨hr,h⟩ | ⟨rfl,rfl⟩
  ·obtain ⟨o',ho,hrel⟩:=hH.row r ro h
   have hlt:=lt r ro h
   refine ⟨o',?_,hrel.mono le⟩
   rw [put_lt hr]
   simp only [World.alloc,Array.getElem?_push];rw [if_neg (by omega)];exact ho
  ·exact ⟨o,by rw [put_self];show (w.heap.push o)[w.heap.size]?=some o;simp,hrow⟩
 ·intro r ro h
  rcases Heap.get_push h with ⟨hr,h⟩ | ⟨rfl,rfl⟩
  ·rw [put_lt hr];exact hH.out r ro h
  ·rw [put_self]
   exact ⟨fun hf=>by have:=hH.old _ (.inl hf);omega,fun hg=>by have:=hH.old _ (.inr hg);omega⟩
 ·intro r r' ro ro' h h' e
  rcases Heap.get_push h with ⟨hr,k⟩ | ⟨k,k2⟩<;>rcases Heap.get_push h' with ⟨hr',k'⟩ | ⟨k',k2'⟩
  ·rw [put_lt hr,put_lt hr'] at e;exact hH.inj r r' ro ro' k k' e
  ·rw [put_lt hr,k',put_self] at e;have:=lt r ro k;omega
  ·rw [put_lt hr',k,put_self] at e;have:=lt r' ro' k';omega
  ·omega
 ·intro b hb;have:=hH.old b hb;simp;omega
theorem HRel.put {F G:Nat->Prop} {i:Nat->Nat} {H:Heap} {w:World} (hH:HRel F G i H w.heap) {r:Nat} {row:ARow} (hr:H.get r=some row) (hlim:H.lim<=r) (o':Obj) (row':ARow)
  (hsz:∀ c e z,w.heap[i r]?=some (.cells c e z)->∃ c' e' z',o'=.cells c' e' z'/\c.size<=c'.size)
  (hrow:RowRel ⟨F,w.heap.setIfInBounds (i r) o',i,H.n⟩ row' o'):
  HRel F G i (H.upd r row') (w.heap.setIfInBounds (i r) o')/\Ext H.n F G i w F i { w with heap:=w.heap.setIfInBounds (i r) o' }:=by
 obtain ⟨o,ho,hro⟩:=hH.row r row hr
 have hrn:=Heap.get_lt hr
 have hlt:i r<w.heap.size:=(Array.getElem?_eq_some_iff.1 ho).1
 have other:∀ b,b≠i r->(w.heap.setIfInBounds (i r) o')[b]?=w.heap[b]?:=fun b hb=>by
  rw [Array.getElem?_setIfInBounds,if_neg (fun h=>hb h.symm)]
 have self:(w.heap.setIfInBounds (i r) o')[i r]?=some o':=by
  rw [Array.getElem?_setIfInBounds,if_pos rfl,if_pos hlt]
 have ext:Ext H.n F G i w F i { w with heap:=w.heap.setIfInBounds (i r) o' }:=by
  refine ⟨fun _ h=>h,?_,by simp,?_,fun _ _=>rfl,rfl,rfl,rfl⟩
  ·intro b hb
   refine other b ?_
   rintro rfl
   have:=hH.out r row hr
   exact hb.elim this.1 this.2
  ·intro b c e z hc
   by_cases hb:b=i r
   ·subst hb
    obtain ⟨c',e',z',h1,h2⟩:=hsz c e z hc
    exact ⟨c',e',z',by rw [←h1];exact self,h2⟩
   ·exact ⟨c,e,z,(other b hb).trans hc,Nat.le_refl _⟩
 refine ⟨?_,ext⟩
 have le:Env.le ⟨F,w.heap,i,H.n⟩ ⟨F,w.heap.setIfInBounds (i r) o',i,H.n⟩:=ext.le (Nat.le_refl _) (Nat.le_refl _)
 have split:∀ (s:Nat) (ro:ARow),(H.upd r row').get s=some ro->(s≠r/\H.get s=some ro)\/(s=r/\ro=row'):=by
  intro s ro h
  rw [Heap.get_upd hH.ok _ hrn] at h
  split at h
  ·rename_i e;exact .inr ⟨e,(Option.some.inj h).symm⟩
  ·rename_i e;exact .inl ⟨e,h⟩
 have live:∀ (s:Nat) (ro:ARow),(H.upd r row').get s=some ro->∃ ro',H.get s=some ro':=by
  intro s ro h
  rcases split s ro h with ⟨_,h⟩ | ⟨rfl,_⟩
  ·exact ⟨ro,h⟩
  ·exact ⟨row,hr⟩
 refine ⟨?_,?_,?_,?_,hH.apart,by simp [Heap.upd,hH.ok]⟩
 ·intro s ro h
  rcases split s ro h with ⟨hs,h⟩ | ⟨rfl,rfl⟩
  ·obtain ⟨o2,ho2,hr2⟩:=hH.row s ro h
   have hne:i s≠i r:=fun e=>hs (hH.inj s r ro row h hr e)
   exact ⟨o2,(other _ hne).trans ho2,hr2.mono le⟩
  ·exact ⟨o',self,hrow⟩
 ·intro s ro h
  obtain ⟨ro',h'⟩:=live s ro h
  exact hH.out s ro' h'
 ·intro s s' ro ro' h h' e
  obtain ⟨x,hx⟩:=live s ro h
  obtain ⟨y,hy⟩:=live s' ro' h'
  exact hH.inj s s' x y hx hy e
 ·intro b hb;have:=hH.old b hb;simpa using this
theorem HRel.forget {F G:Nat->Prop} {i:Nat->Nat} {H H':Heap} {h:Array Obj} (hH:HRel F G i H h) (hl:H'.n=H.n) (hm:H.lim<=H'.lim) (hok:H'.rev.length=H'.n)
  (hs:∀ (r:Nat) (row:ARow),H'.get r=some row->H.get r=some row):HRel F G i H' h where
 row r row h:=by rw [hl];exact hH.row r row (hs r row h)
 out r row h:=hH.out r row (hs r row h)
 inj r r' a b h h' e:=hH.inj r r' a b (hs r a h) (hs r' b h') e
 old:=hH.old
 apart:=hH.apart
 ok:=hok
theorem HRel.kill {F G:Nat->Prop} {i:Nat->Nat} {H:Heap} {h:Array Obj} (hH:HRel F G i H h) {r:Nat} (hr:r<H.n):HRel F G i (H.kill r) h:=by
 refine hH.forget (by simp) (Nat.le_refl _) (by simp [Heap.kill,hH.ok]) ?_
 intro s row hs
 rw [Heap.get_kill hH.ok hr] at hs
 split at hs
 ·cases hs
 ·exact hs
theorem ext_drew {K:Nat} {F G:Nat->Prop} {i:Nat->Nat} {w:World} (n:Nat):Ext K F G i w F i { w with drawn:=n }:=
 ⟨fun _ h=>h,fun _ _=>rfl,Nat.le_refl _,fun _ c e z h=>⟨c,e,z,h,Nat.le_refl _⟩,fun _ _=>rfl,rfl,rfl,rfl⟩
end Go.Abs
end
noncomputable section
namespace Go.Abs
def ofV1:Value->AV
  | .bool b=>.bool b
  | .int k n=>.int k n
  | .float k n=>.float k n
  | .string s=>.string s
  | .pointer a=>if a.isNone then .nilptr else .top
  | .slice a n c=>if a.isNone&&n==0&&c==0 then .nilslice else .top
  | .map r=>if r.isNone then .nilmap else .top
  | .nilFunc=>.nilFunc
  | .nilIface=>.nilIface
  | .func fn a c=>match fn with
    | .func f=>if a.isEmpty&&c.isEmpty then .func f [] [] else .top
    | _=>.top
  | _=>.top
def ofV:Value->AV
  | .agg cs=>.agg (cs.toList.map ofV1)
  | .tuple cs=>.tuple (cs.toList.map ofV1)
  | .iface t v=>.iface t (ofV1 v)
  | v=>ofV1 v
theorem ofV1_rel (E:Env) (v:Value):VRel E (ofV1 v) v:=by
  cases v with
  | pointer a=>cases a<;>simp [ofV1]<;>constructor
  | slice a n c=>
    simp only [ofV1]
    split
    · rename_i h
      simp only [Bool.and_eq_true,Option.isNone_iff_eq_none,beq_iff_eq] at h
      obtain ⟨⟨rfl,rfl⟩,rfl⟩:=h
      exact .nilslice
    · exact .top _
  | map r=>cases r<;>simp [ofV1]<;>constructor
  | func fn a c=>
    cases fn with
    | func f=>
      simp only [ofV1]
      split
      · rename_i h
        simp only [Bool.and_eq_true,Array.isEmpty_iff] at h
        obtain ⟨rfl,rfl⟩:=h
        exact .func f [] [] #[] #[] rfl rfl (fun j x v h=>by simp at h) (fun j x v h=>by simp at h)
      · exact .top _
    | _=>exact .top _
  | _=>constructor
theorem ofV1s_rel (E:Env) (cs:List Value):VRels E (cs.map ofV1) cs:=by
  induction cs with
  | nil=>exact VRels.nil
  | cons c cs ih=>exact VRels.cons (ofV1_rel E c) ih
theorem ofV_rel (E:Env) (v:Value):VRel E (ofV v) v:=by
  cases v with
  | agg cs=>
    have h:=ofV1s_rel E cs.toList
    exact .agg _ cs (by simp) (fun j x v h1 h2=>h.2 j x v h1 (by simpa using h2))
  | tuple cs=>
    have h:=ofV1s_rel E cs.toList
    exact .tuple _ cs (by simp) (fun j x v h1 h2=>h.2 j x v h1 (by simpa using h2))
  | iface t v=>exact .iface t _ _ (ofV1_rel E v)
  | _=>simp only [ofV];exact ofV1_rel E _
def ev (Γ:Globs) (tmps:List AV):Operand->AV
  | .tmp t=>(tmps[t]?).getD .top
  | .const v=>ofV v
  | .global g=>match Γ g with
    | some cells=>.cptr cells 0
    | none=>.top
  | .func f=>.func f [] []
theorem ev_rel {Γ:Globs} {F:Nat->Prop} {h:Array Obj} {i:Nat->Nat} {N:Nat} {tmps:List AV} {a:Act} (ht:VRels ⟨F,h,i,N⟩ tmps a.tmps.toList)
    (hg:GlobsOk Γ F h i N) (x:Operand):VRel ⟨F,h,i,N⟩ (ev Γ tmps x) (a.eval x):=by
  cases x with
  | tmp t=>
    simp only [ev,Act.eval]
    cases ht':tmps[t]? with
    | none=>exact .top _
    | some x=>
      obtain ⟨v,hv,hr⟩:=ht.get ht'
      have:a.tmps[t]?=some v:=by simpa using hv
      rw [Array.getD_eq_getD_getElem?,this]
      exact hr
  | const v=>exact ofV_rel _ v
  | global g=>
    simp only [ev,Act.eval]
    cases hΓ:Γ g with
    | none=>exact .top _
    | some cells=>exact hg.at_ g cells hΓ
  | func f=>exact .func f [] [] #[] #[] rfl rfl (fun j x v h=>by simp at h) (fun j x v h=>by simp at h)
def aint (op:BinOp) (k:IntKind) (a b:Int):Option AV:=
  match op with
  | .add=>some (.int k (k.wrap (a+b)))
  | .sub=>some (.int k (k.wrap (a-b)))
  | .mul=>some (.int k (k.wrap (a*b)))
  | .quo=>if b=0 then none else some (.int k (k.wrap (a.tdiv b)))
  | .rem=>if b=0 then none else some (.int k (a.tmod b))
  | .and=>some (.int k (bits .and k a b))
  | .or=>some (.int k (bits .or k a b))
  | .xor=>some (.int k (bits .xor k a b))
  | .andNot=>some (.int k (bits .andNot k a b))
  | .eql=>some (.bool (a==b))
  | .neq=>some (.bool (a != b))
  | .lss=>some (.bool (decide (a<b)))
  | .leq=>some (.bool (decide (a<=b)))
  | .gtr=>some (.bool (decide (a>b)))
  | .geq=>some (.bool (decide (a>=b)))
  | _=>none
def ashift (op:BinOp) (k:IntKind) (a:Int) (b:Int):Option AV:=
  if b<0 then none else
  match op with
  | .shl=>some (.int k (k.wrap (a*2 ^ min b.toNat k.bits)))
  | .shr=>some (.int k (a.fdiv (2 ^ min b.toNat k.bits)))
  | _=>none
def afloRes (k:FloatKind):Option Nat->AV
  | some r=>.float k r
  | none=>.nan k
def acmp (op:BinOp) (c:Option Ordering):Option AV:=
  match op with
  | .eql=>some (.bool (c==some .eq))
  | .neq=>some (.bool (c != some .eq))
  | .lss=>some (.bool (c==some .lt))
  | .leq=>some (.bool (c==some .lt||c==some .eq))
  | .gtr=>some (.bool (c==some .gt))
  | .geq=>some (.bool (c==some .gt||c==some .eq))
  | _=>none
def aflo (op:BinOp) (k:FloatKind) (a b:Nat):Option AV:=
  match op with
  | .add=>some (afloRes k (k.format.add a b))
  | .sub=>some (afloRes k (k.format.sub a b))
  | .mul=>some (afloRes k (k.format.mul a b))
  | .quo=>some (afloRes k (k.format.div a b))
  | op=>acmp op (k.format.order a b)
def aflonan (op:BinOp) (k:FloatKind):Option AV:=
  match op with
  | .add | .sub | .mul | .quo=>some (.nan k)
  | op=>acmp op none
def astr (op:BinOp) (a b:ByteArray):Option AV:=
  let x:=a.data.toList
  let y:=b.data.toList
  match op with
  | .add=>if x.length+y.length<=4611686018427387904 then some (.string ⟨(x++y).toArray⟩) else none
  | .eql=>some (.bool (x==y))
  | .neq=>some (.bool !(x==y))
  | .lss=>some (.bool (Op.bytesLess x y))
  | .leq=>some (.bool (Op.bytesLess x y||x==y))
  | .gtr=>some (.bool !(Op.bytesLess x y||x==y))
  | .geq=>some (.bool !(Op.bytesLess x y))
  | _=>none
section
variable {P : Program} {E : Env} {w : World}
theorem aint_run {op:BinOp} {k:IntKind} {a b:Int} {x:AV} (t:TypeId) (h:aint op k a b=some x):
    ∃ v,(binOp op t (.int k a) (.int k b)).run P w=.ok v w/\VRel E x v:=by
  cases op<;>simp only [aint,Option.some.injEq,reduceCtorEq] at h<;>first
    | (subst h;exact ⟨_,by simp [binOp,Op.intArith,Op.intCmp];rfl,by constructor⟩)
    | (subst h;exact ⟨_,by simp only [binOp,ne_eq,not_true_eq_false,if_false,intBits_and,intBits_or,intBits_xor,intBits_andNot];rfl,by constructor⟩)
    | (split at h
       · cases h
       · rename_i hb;simp only [Option.some.injEq] at h;subst h
         exact ⟨_,by simp [binOp,Op.intDiv,hb];rfl,by constructor⟩)
theorem ashift_run {op:BinOp} {k k':IntKind} {a b:Int} {x:AV} (t:TypeId) (h:ashift op k a b=some x):
    ∃ v,(binOp op t (.int k a) (.int k' b)).run P w=.ok v w/\VRel E x v:=by
  unfold ashift at h
  split at h
  · cases h
  · rename_i hb
    cases op<;>simp only [Option.some.injEq,reduceCtorEq] at h<;>subst h<;>exact ⟨_,by simp only [binOp,Op.shift,hb,if_false];rfl,by constructor⟩
end
end Go.Abs
end
noncomputable section
namespace Go.Abs
theorem read_nan32 (s r:Nat) (_hs:s<2) (hr:r<8388607):(Ieee.single.read (s*2147483648+2139095040+1+r)).isNaN=true:=by
 have h1:Ieee.single.signWeight=2147483648:=by decide
 have h2:Ieee.single.infRung=2139095040:=by decide
 have h3:Ieee.single.binade=8388608:=by decide
 have e:(s*2147483648+2139095040+1+r)%2147483648=2139095040+1+r:=by omega
 unfold Ieee.Format.read
 simp only [h1,h2,h3,e]
 rw [if_neg (by omega),if_neg (by omega),if_neg (by omega)]
 rfl
theorem read_nan64 (s r:Nat) (_hs:s<2) (hr:r<4503599627370495):(Ieee.double.read (s*9223372036854775808+9218868437227405312+1+r)).isNaN=true:=by
 have h1:Ieee.double.signWeight=9223372036854775808:=by decide
 have h2:Ieee.double.infRung=9218868437227405312:=by decide
 have h3:Ieee.double.binade=4503599627370496:=by decide
 have e:(s*9223372036854775808+9218868437227405312+1+r)%9223372036854775808=9218868437227405312+1+r:=by omega
 unfold Ieee.Format.read
 simp only [h1,h2,h3,e]
 rw [if_neg (by omega),if_neg (by omega),if_neg (by omega)]
 rfl
theorem cut_nan (k:FloatKind) (x y t:Nat):(k.format.read ((Question.nanBits k x y).cut t)).isNaN=true:=by
 cases k with
 | f32=>exact read_nan32 (t%2) ((t / 2)%(2 ^ 23-1)) (Nat.mod_lt _ (by decide)) (Nat.mod_lt _ (by decide))
 | f64=>exact read_nan64 (t%2) ((t / 2)%(2 ^ 52-1)) (Nat.mod_lt _ (by decide)) (Nat.mod_lt _ (by decide))
theorem isNaN_cases {d:Ieee.Datum} (h:d.isNaN=true):∃ s t,d=.nan s t:=by
 cases d with
 | nan s t=>exact ⟨s,t,rfl⟩
 | _=>simp [Ieee.Datum.isNaN] at h
theorem order_nan_left {f:Ieee.Format} {a b:Nat} (h:(f.read a).isNaN=true):f.order a b=none:=by
 obtain ⟨s,t,e⟩:=isNaN_cases h
 simp [Ieee.Format.order,e,Ieee.Datum.order]
theorem order_nan_right {f:Ieee.Format} {a b:Nat} (h:(f.read b).isNaN=true):f.order a b=none:=by
 obtain ⟨s,t,e⟩:=isNaN_cases h
 unfold Ieee.Format.order
 rw [e]
 cases f.read a<;>rfl
theorem arith_nan_left {f:Ieee.Format} {a b:Nat} (h:(f.read a).isNaN=true):f.add a b=none/\f.sub a b=none/\f.mul a b=none/\f.div a b=none:=by
 obtain ⟨s,t,e⟩:=isNaN_cases h
 simp [Ieee.Format.add,Ieee.Format.sub,Ieee.Format.mul,Ieee.Format.div,e,Ieee.Datum.sum,Ieee.Datum.product,Ieee.Datum.quotient]
theorem arith_nan_right {f:Ieee.Format} {a b:Nat} (h:(f.read b).isNaN=true):f.add a b=none/\f.sub a b=none/\f.mul a b=none/\f.div a b=none:=by
 obtain ⟨s,t,e⟩:=isNaN_cases h
 refine ⟨?_,?_,?_,?_⟩
 ·unfold Ieee.Format.add;rw [e];cases f.read a<;>rfl
 ·unfold Ieee.Format.sub;rw [e];cases f.read a<;>rfl
 ·unfold Ieee.Format.mul;rw [e];cases f.read a<;>rfl
 ·unfold Ieee.Format.div;rw [e];cases f.read a<;>rfl
section
variable {P : Program} {E : Env} {w : World}
def Draws (P:Program) (s:Sem Value) (E:Env) (w:World) (x:AV):Prop:=∃ v n,s.run P w=.ok v { w with drawn:=n }/\VRel E x v
theorem draws_same {s:Sem Value} {x:AV} (h:∃ v,s.run P w=.ok v w/\VRel E x v):Draws P s E w x:=by
 obtain ⟨v,h1,h2⟩:=h;exact ⟨v,w.drawn,h1,h2⟩
theorem acmp_run {op:BinOp} {k:FloatKind} {a b:Nat} {x:AV} (t:TypeId) (h:acmp op (k.format.order a b)=some x):
  ∃ v,(binOp op t (.float k a) (.float k b)).run P w=.ok v w/\VRel E x v:=by
 cases op<;>simp only [acmp,Option.some.injEq,reduceCtorEq] at h<;>subst h<;>
  exact ⟨_,by simp only [binOp,ne_eq,not_true_eq_false,if_false,Op.floatCmp];rfl,by constructor⟩
theorem nanbits_run (k:FloatKind) (a b:Nat):∃ v n,(do pure (Value.float k (←choose (.nanBits k a b))):Sem Value).run P w=.ok v { w with drawn:=n }/\VRel E (.nan k) v:=by
 refine ⟨_,w.drawn+1,by simp only [Sem.run_bind,run_choose,Question.forced,Bool.false_eq_true,if_false,Result.andThen_ok,Sem.run_pure];rfl,?_⟩
 exact .nan k _ (cut_nan k a b _)
theorem floArith_run {op:BinOp} {k:FloatKind} {a b:Nat} (t:TypeId) (r:Option Nat) (hop:op=.add/\k.format.add a b=r\/op=.sub/\k.format.sub a b=r\/op=.mul/\k.format.mul a b=r\/op=.quo/\k.format.div a b=r):
  Draws P (binOp op t (.float k a) (.float k b)) E w (afloRes k r):=by
 cases r with
 | some r=>
  have hb:binOp op t (.float k a) (.float k b)=pure (.float k r):=by
   rcases hop with ⟨rfl,h⟩ | ⟨rfl,h⟩ | ⟨rfl,h⟩ | ⟨rfl,h⟩<;>simp only [binOp,ne_eq,not_true_eq_false,if_false,Op.floatArith,h,pure_bind]
  rw [hb]
  exact draws_same ⟨_,rfl,.float k r⟩
 | none=>
  have hb:binOp op t (.float k a) (.float k b)=(do pure (Value.float k (←choose (.nanBits k a b)))):=by
   rcases hop with ⟨rfl,h⟩ | ⟨rfl,h⟩ | ⟨rfl,h⟩ | ⟨rfl,h⟩<;>simp only [binOp,ne_eq,not_true_eq_false,if_false,Op.floatArith,h,pure_bind]
  rw [hb]
  exact nanbits_run k a b
theorem aflo_run {op:BinOp} {k:FloatKind} {a b:Nat} {x:AV} (t:TypeId) (h:aflo op k a b=some x):Draws P (binOp op t (.float k a) (.float k b)) E w x:=by
 cases op<;>simp only [aflo,Option.some.injEq] at h<;>first
  | (subst h;exact floArith_run t _ (by simp))
  | exact draws_same (acmp_run t h)
theorem aflonan_run {op:BinOp} {k:FloatKind} {a b:Nat} {x:AV} (t:TypeId) (h:aflonan op k=some x) (hn:(k.format.read a).isNaN=true\/(k.format.read b).isNaN=true):
  Draws P (binOp op t (.float k a) (.float k b)) E w x:=by
 have ho:k.format.order a b=none:=hn.elim order_nan_left order_nan_right
 have ha:k.format.add a b=none/\k.format.sub a b=none/\k.format.mul a b=none/\k.format.div a b=none:=hn.elim arith_nan_left arith_nan_right
 cases op<;>simp only [aflonan,Option.some.injEq] at h<;>first
  | (subst h;exact floArith_run t none (by simp [ha]))
  | exact draws_same (acmp_run t (by rw [ho];exact h))
theorem astr_run {op:BinOp} {a b:ByteArray} {x:AV} (t:TypeId) (h:astr op a b=some x):
  ∃ v,(binOp op t (.string a) (.string b)).run P w=.ok v w/\VRel E x v:=by
 have hb:binOp op t (.string a) (.string b)=Op.stringOp op a b:=by cases op<;>rfl
 rw [hb]
 cases op<;>simp only [astr,Option.some.injEq,reduceCtorEq] at h<;>first
  | (subst h;exact ⟨_,by simp only [Op.stringOp,ByteArray.toList_eq];rfl,by constructor⟩)
  | skip
 split at h
 ·rename_i hle
  simp only [Option.some.injEq] at h;subst h
  have hs:a.size+b.size<=4611686018427387904:=hle
  refine ⟨.string (a++b),?_,?_⟩
  ·simp only [Op.stringOp]
   rw [if_neg (by rw [IntKind.max_i64];omega)]
   rfl
  ·have:(⟨(a.data.toList++b.data.toList).toArray⟩:ByteArray)=a++b:=by
    apply ByteArray.ext
    simp
   rw [this];exact .string _
 ·cases h
end
def apart (P:Program) (t:TypeId) (cs:List AV) (off:Nat):Option AV:=
 match P.underlying t,P.info? t with
 | some (.struct _),some i | some (.array _ _),some i=>if off+i.size<=cs.length then some (.agg ((cs.drop off).take i.size)) else none
 | some _,some _=>cs[off]?
 | _,_=>none
def aeqFields (eq:TypeId->AV->AV->Option Bool) (P:Program) (xs ys:List AV):List Field->Option Bool
 | []=>some true
 | f::fs=>
  if f.name = "_" then aeqFields eq P xs ys fs
  else match apart P f.type xs f.offset,apart P f.type ys f.offset with
   | some a,some b=>match eq f.type a b with
    | some true=>aeqFields eq P xs ys fs
    | some false=>some false
    | none=>none
   | _,_=>none
def aeqItems (eq:TypeId->AV->AV->Option Bool) (P:Program) (e:TypeId) (c:Nat) (xs ys:List AV):List Nat->Option Bool
 | []=>some true
 | i::is=>match apart P e xs (i*c),apart P e ys (i*c) with
  | some a,some b=>match eq e a b with
   | some true=>aeqItems eq P e c xs ys is
   | some false=>some false
   | none=>none
  | _,_=>none
def aeq (P:Program):Nat->TypeId->AV->AV->Option Bool
 | 0,_,_,_=>none
 | d+1,t,x,y=>
  match P.underlying t with
  | some .bool=>match x,y with
   | .bool a,.bool b=>some (a==b)
   | _,_=>none
  | some (.int _)=>match x,y with
   | .int k a,.int k' b=>if k=k' then some (a==b) else none
   | _,_=>none
  | some (.float _)=>match x,y with
   | .flo k (some a),.flo k' (some b)=>if k=k' then some (k.format.order a b==some .eq) else none
   | .flo k (some _),.flo k' none | .flo k none,.flo k' (some _) | .flo k none,.flo k' none=>if k=k' then some false else none
   | _,_=>none
  | some .string=>match x,y with
   | .string a,.string b=>some (a.data.toList==b.data.toList)
   | _,_=>none
  | some (.pointer _)=>match x,y with
   | .nilptr,.nilptr=>some true
   | .nilptr,.ptr _ _ | .ptr _ _,.nilptr | .nilptr,.cptr _ _ | .cptr _ _,.nilptr=>some false
   | _,_=>none
  | some (.slice _)=>match x,y with
   | .nilslice,.nilslice=>some true
   | .nilslice,.slice _ _ _ _ | .slice _ _ _ _,.nilslice=>some false
   | .nilslice,.nl n _ | .nl n _,.nilslice=>some (n==0)
   | _,_=>none
  | some (.map _ _)=>match x,y with
   | .nilmap,.nilmap=>some true
   | .nilmap,.map _ | .map _,.nilmap=>some false
   | _,_=>none
  | some (.func _ _ _)=>match x,y with
   | .nilFunc,.nilFunc=>some true
   | .nilFunc,.func _ _ _ | .func _ _ _,.nilFunc=>some false
   | _,_=>none
  | some (.interface _)=>match x,y with
   | .nilIface,.nilIface=>some true
   | .nilIface,.iface _ _ | .iface _ _,.nilIface=>some false
   | .iface tx vx,.iface ty vy=>if tx=ty then match P.info? tx with
     | some i=>if i.comparable then aeq P d tx vx vy else none
     | none=>none
    else some false
   | _,_=>none
  | some (.struct fs)=>match x,y with
   | .agg xs,.agg ys=>if P.stoodInHeld t then none else aeqFields (aeq P d) P xs ys fs.toList
   | _,_=>none
  | some (.array n e)=>match x,y,P.info? e with
   | .agg xs,.agg ys,some i=>aeqItems (aeq P d) P e i.size xs ys (List.range n)
   | _,_,_=>none
  | _=>none
section
variable {P : Program} {E : Env} {w : World}
theorem apart_run {t:TypeId} {cs:List AV} {off:Nat} {x:AV} {vs:Array Value} (h:apart P t cs off=some x) (hv:VRels E cs vs.toList):
  ∃ v,(part t vs off).run P w=.ok v w/\VRel E x v:=by
 unfold apart at h
 have agg:∀ i,P.info? t=some i->(isAgg t).run P w=.ok true w->(if off+i.size<=cs.length then some (AV.agg ((cs.drop off).take i.size)) else none)=some x->
   ∃ v,(part t vs off).run P w=.ok v w/\VRel E x v:=by
  intro i hi ha h
  split at h
  ·rename_i hle
   simp only [Option.some.injEq] at h
   subst h
   refine ⟨.agg (vs.extract off (off+i.size)),?_,?_⟩
   ·simp [part,ha,sizeOf,run_typeInfo w hi]
   ·have:=(hv.drop off).take i.size
    refine .agg _ _ (by have:=this.1;simp at this ⊢;omega) (fun j y u h1 h2=>this.2 j y u h1 ?_)
    rw [←Array.getElem?_toList] at h2
    rw [Array.toList_extract] at h2
    have e:vs.toList.extract off (off+i.size)=(vs.toList.drop off).take i.size:=by
     rw [List.extract_eq_take_drop]
     congr 1
     omega
    rw [e] at h2;exact h2
  ·cases h
 have scal:∀ d,P.underlying t=some d->(∀ fs,d≠.struct fs)->(∀ n e,d≠.array n e)->cs[off]?=some x->∃ v,(part t vs off).run P w=.ok v w/\VRel E x v:=by
  intro d hd h1 h2 h
  obtain ⟨v,hv',hr⟩:=hv.get h
  have ha:(isAgg t).run P w=.ok false w:=by
   simp only [isAgg,Sem.run_bind,run_underlying hd,Result.andThen_ok]
   cases d<;>first | rfl | exact absurd rfl (h1 _) | exact absurd rfl (h2 _ _)
  have e:vs[off]?=some v:=by simpa using hv'
  exact ⟨v,by simp [part,ha,e],hr⟩
 split at h
 ·rename_i fs i hu hi
  exact agg i hi (by simp [isAgg,run_underlying hu]) h
 ·rename_i a b i hu hi
  exact agg i hi (by simp [isAgg,run_underlying hu]) h
 ·rename_i d i h1 h2 hu hi
  refine scal d hu ?_ ?_ h
  ·rintro fs rfl;exact h1 fs rfl
  ·rintro n e rfl;exact h2 n e rfl
 ·cases h
end
end Go.Abs
end
noncomputable section
namespace Go.Abs
section
variable {P : Program} {E : Env}
def EqOk (P:Program) (E:Env) (D:Nat) (f:TypeId->AV->AV->Option Bool):Prop:=
 ∀ (w:World) t x y v u b,f t x y=some b->VRel E x v->VRel E y u->(Op.equalIn D t v u).run P w=.ok b w
theorem aeqFields_run {D:Nat} {f:TypeId->AV->AV->Option Bool} (hf:EqOk P E D f) (w:World) {xs ys:List AV} {vs us:Array Value} (hx:VRels E xs vs.toList) (hy:VRels E ys us.toList):
  ∀ (fs:List Field) (b:Bool),aeqFields f P xs ys fs=some b->(Op.eqFields D vs us fs).run P w=.ok b w
 | [],b,h=>by simp only [aeqFields,Option.some.injEq] at h;subst h;rfl
 | g::fs,b,h=>by
  simp only [aeqFields] at h
  simp only [Op.eqFields]
  by_cases hn : g.name = "_"
  ·rw [if_pos hn] at h
   rw [if_neg (by simpa using hn)]
   exact aeqFields_run hf w hx hy fs b h
  ·rw [if_neg hn] at h
   rw [if_pos hn]
   split at h
   ·rename_i x y h1 h2
    obtain ⟨v,hv,hrv⟩:=apart_run (w:=w) h1 hx
    obtain ⟨u,hu,hru⟩:=apart_run (w:=w) h2 hy
    simp only [Sem.run_bind,hv,hu,Result.andThen_ok]
    split at h
    ·rename_i he
     rw [hf w _ _ _ _ _ _ he hrv hru]
     simp only [Result.andThen_ok,Bool.not_true,Bool.false_eq_true,if_false]
     exact aeqFields_run hf w hx hy fs b h
    ·rename_i he
     rw [hf w _ _ _ _ _ _ he hrv hru]
     simp only [Option.some.injEq] at h;subst h
     simp
    ·cases h
   ·cases h
theorem aeqItems_run {D:Nat} {f:TypeId->AV->AV->Option Bool} (hf:EqOk P E D f) (w:World) {e:TypeId} {c:Nat} {xs ys:List AV} {vs us:Array Value} (hx:VRels E xs vs.toList) (hy:VRels E ys us.toList):
  ∀ (is:List Nat) (b:Bool),aeqItems f P e c xs ys is=some b->(Op.eqItems D e c vs us is).run P w=.ok b w
 | [],b,h=>by simp only [aeqItems,Option.some.injEq] at h;subst h;rfl
 | i::is,b,h=>by
  simp only [aeqItems] at h
  simp only [Op.eqItems]
  split at h
  ·rename_i x y h1 h2
   obtain ⟨v,hv,hrv⟩:=apart_run (w:=w) h1 hx
   obtain ⟨u,hu,hru⟩:=apart_run (w:=w) h2 hy
   simp only [Sem.run_bind,hv,hu,Result.andThen_ok]
   split at h
   ·rename_i he
    rw [hf w _ _ _ _ _ _ he hrv hru]
    simp only [Result.andThen_ok,Bool.not_true,Bool.false_eq_true,if_false]
    exact aeqItems_run hf w hx hy is b h
   ·rename_i he
    rw [hf w _ _ _ _ _ _ he hrv hru]
    simp only [Option.some.injEq] at h;subst h
    simp
   ·cases h
  ·cases h
set_option maxHeartbeats 1600000 in
theorem aeq_run:∀ (d D:Nat),d<=D->EqOk P E D (aeq P d)
 | 0,_,_=>fun w t x y v u b h=>by simp [aeq] at h
 | d+1,0,h=>by omega
 | d+1,D+1,hle=>by
  intro w t x y v u b h hx hy
  have ih:=aeq_run d D (by omega)
  unfold aeq at h
  cases hu:P.underlying t with
  | none=>simp [hu] at h
  | some ty=>
   simp only [hu] at h
   have ru:=run_underlying hu w
   cases ty with
   | bool=>
    simp only at h
    split at h
    ·cases hx;cases hy;simp at h;subst h;simp [Op.equalIn,ru]
    ·cases h
   | int k=>
    simp only at h
    split at h
    ·cases hx;cases hy;simp at h;obtain ⟨rfl,rfl⟩:=h;simp [Op.equalIn,ru]
    ·cases h
   | float k=>
    simp only at h
    split at h
    ·cases hx;cases hy;simp at h;obtain ⟨rfl,rfl⟩:=h;simp [Op.equalIn,ru,Op.floatEq]
    ·cases hx;cases hy;rename_i hn;simp at h;obtain ⟨rfl,rfl⟩:=h;simp [Op.equalIn,ru,Op.floatEq,order_nan_right hn]
    ·cases hx;cases hy;rename_i hn;simp at h;obtain ⟨rfl,rfl⟩:=h;simp [Op.equalIn,ru,Op.floatEq,order_nan_left hn]
    ·cases hx;cases hy;rename_i hn _ _;simp at h;obtain ⟨rfl,rfl⟩:=h;simp [Op.equalIn,ru,Op.floatEq,order_nan_left hn]
    ·cases h
   | string=>
    simp only at h
    split at h
    ·cases hx;cases hy;simp at h;subst h;simp [Op.equalIn,ru,beq_toListBytes,ByteArray.toList_eq]
    ·cases h
   | pointer e=>
    simp only at h
    split at h<;>first
     | (cases h;done)
     | (cases hx;cases hy;simp at h;subst h;simp [Op.equalIn,ru])
   | slice e=>
    simp only at h
    split at h
    ·cases hx;cases hy;simp at h;subst h;simp [Op.equalIn,ru]
    ·cases hx;cases hy;simp at h;subst h;simp [Op.equalIn,ru]
    ·cases hx;cases hy;simp at h;subst h;simp [Op.equalIn,ru]
    ·cases hx
     cases hy with
     | nlNil=>simp at h;subst h;simp [Op.equalIn,ru]
     | nl len cap cells b' o vs h0=>simp at h;subst h;simp [Op.equalIn,ru];omega
    ·cases hy
     cases hx with
     | nlNil=>simp at h;subst h;simp [Op.equalIn,ru]
     | nl len cap cells b' o vs h0=>simp at h;subst h;simp [Op.equalIn,ru];omega
    ·cases h
   | map k e=>
    simp only at h
    split at h<;>first
     | (cases h;done)
     | (cases hx;cases hy;simp at h;subst h;simp [Op.equalIn,ru])
   | func a b c=>
    simp only at h
    split at h<;>first
     | (cases h;done)
     | (cases hx;cases hy;simp at h;subst h;simp [Op.equalIn,ru])
   | interface ms=>
    simp only at h
    split at h
    ·cases hx;cases hy;simp at h;subst h;simp [Op.equalIn,ru]
    ·cases hx;cases hy;simp at h;subst h;simp [Op.equalIn,ru]
    ·cases hx;cases hy;simp at h;subst h;simp [Op.equalIn,ru]
    ·rename_i t1 x1 t2 x2
     cases hx with
     | iface _ _ v1 h1=>
     cases hy with
     | iface _ _ v2 h2=>
     split at h
     ·rename_i he;subst he
      cases hi:P.info? t1 with
      | none=>simp [hi] at h
      | some i=>
       simp only [hi] at h
       split at h
       ·rename_i hc
        have:=ih w _ _ _ _ _ _ h h1 h2
        simp [Op.equalIn,ru,run_typeInfo w hi,hc,this]
       ·cases h
     ·rename_i he
      simp at h;subst h
      simp [Op.equalIn,ru,he]
    ·cases h
   | struct fs=>
    simp only at h
    split at h
    ·rename_i xs ys
     cases hx with
     | agg _ vs hl hv=>
     cases hy with
     | agg _ us hl' hv'=>
     split at h
     ·cases h
     ·rename_i hs
      have e:P.fieldsOf t=fs:=by simp [Program.fieldsOf,hu]
      rw [run_equalIn_struct w D t vs us (by rw [e];exact hu) (by simpa using hs),e]
      exact aeqFields_run ih w ⟨by simpa using hl,fun j x v h1 h2=>hv j x v h1 (by simpa using h2)⟩ ⟨by simpa using hl',fun j x v h1 h2=>hv' j x v h1 (by simpa using h2)⟩ _ _ h
    ·cases h
   | array n e=>
    simp only at h
    split at h
    ·rename_i xs ys i hi
     cases hx with
     | agg _ vs hl hv=>
     cases hy with
     | agg _ us hl' hv'=>
     rw [run_equalIn_array w D vs us hu hi]
     have e':P.cellsOf e=i.size:=by simp [Program.cellsOf,hi]
     rw [e']
     exact aeqItems_run ih w ⟨by simpa using hl,fun j x v h1 h2=>hv j x v h1 (by simpa using h2)⟩ ⟨by simpa using hl',fun j x v h1 h2=>hv' j x v h1 (by simpa using h2)⟩ _ _ h
    ·cases h
   | _=>simp at h
end
end Go.Abs
end
noncomputable section
namespace Go.Abs
def takeVar (d:TypeDesc) (n:Nat) (cs:List AV) (off:Nat):Option AV:=
 match d with
 | .struct _ | .array _ _=>if off+n<=cs.length then some (.agg ((cs.drop off).take n)) else none
 | _=>cs[off]?
def rowOf (H:Heap) (r:Nat):Option (List AV):=
 match H.get r with
 | some (.cells cs)=>some cs
 | _=>none
def wrowOf (H:Heap) (r:Nat):Option (List AV):=if H.lim<=r then rowOf H r else none
theorem wrowOf_lim {H:Heap} {r:Nat} {cs:List AV} (h:wrowOf H r=some cs):H.lim<=r:=by
 unfold wrowOf at h
 split at h
 ·assumption
 ·cases h
theorem wrowOf_row {H:Heap} {r:Nat} {cs:List AV} (h:wrowOf H r=some cs):rowOf H r=some cs:=by
 unfold wrowOf at h
 split at h
 ·exact h
 ·cases h
def aload (P:Program) (H:Heap) (t:TypeId) (x:AV):Option AV:=
 match P.underlying t,P.info? t with
 | some d,some i=>
  match x with
  | .ptr r off=>match rowOf H r with
   | some cs=>takeVar d i.size cs off
   | none=>none
  | .cptr cs off=>takeVar d i.size cs off
  | _=>none
 | _,_=>none
def afieldAddr (P:Program) (s:TypeId) (x:AV) (f:Nat):Option AV:=
 match P.underlying s with
 | some (.struct fs)=>match fs[f]? with
  | some fd=>match P.info? fd.type with
   | some i=>if i.size=0 then none else
    match x with
    | .ptr r off=>some (.ptr r (off+fd.offset))
    | .cptr cs off=>some (.cptr cs (off+fd.offset))
    | _=>none
   | none=>none
  | none=>none
 | _=>none
def aindexAddr (P:Program) (t:TypeId) (x ix:AV):Option AV:=
 match ix with
 | .int _ n=>
  match P.underlying t,x with
  | some (.slice e),.slice r off len _=>match P.info? e with
   | some i=>if 0<=n/\n<len then some (.ptr r (off+n.toNat*i.size)) else none
   | none=>none
  | some (.slice e),.list len cells=>match P.info? e with
   | some i=>if 0<=n/\n<len/\0<cells.length then some (.cptr cells (n.toNat*i.size)) else none
   | none=>none
  | some (.array len e),.ptr r off=>match P.info? e with
   | some i=>if 0<=n/\n<len then some (.ptr r (off+n.toNat*i.size)) else none
   | none=>none
  | some (.array len e),.cptr cells off=>match P.info? e with
   | some i=>if 0<=n/\n<len then some (.cptr cells (off+n.toNat*i.size)) else none
   | none=>none
  | _,_=>none
 | _=>none
def aindex (P:Program) (t:TypeId) (x ix:AV):Option AV:=
 match ix with
 | .int _ n=>
  match P.underlying t,x with
  | some (.array len e),.agg cs=>match P.info? e with
   | some i=>if 0<=n/\n<len then apart P e cs (n.toNat*i.size) else none
   | none=>none
  | some .string,.string s=>if 0<=n then match s.data.toList[n.toNat]? with
   | some b=>some (.int .u8 b.toNat)
   | none=>none
   else none
  | _,_=>none
 | _=>none
def afield (P:Program) (t:TypeId) (x:AV) (f:Nat):Option AV:=
 match P.underlying t,x with
 | some (.struct fs),.agg cs=>match fs[f]? with
  | some fd=>apart P fd.type cs fd.offset
  | none=>none
 | _,_=>none
section
variable {P : Program} {F G : Nat → Prop} {i : Nat → Nat} {H : Heap} {w : World}
theorem cell_of {w:World} {b off:Nat} {c:Array Value} {e:TypeId} {z:Nat × Nat} (h:w.heap[b]?=some (.cells c e z)):w.cell? ⟨b,off,none⟩=c[off]?:=by
 simp [World.cell?,h]
theorem frozen_of {w:World} {b off:Nat} {c:Array Value} {e:TypeId} {z:Nat × Nat} (h:w.heap[b]?=some (.cells c e z)):w.frozen? ⟨b,off,none⟩=(decide (z.1<=off)&&decide (off<z.2)):=by
 simp [World.frozen?,h]
theorem rowOf_spec {H:Heap} {r:Nat} {cs:List AV} (h:rowOf H r=some cs):H.get r=some (.cells cs):=by
 unfold rowOf at h
 split at h
 ·rename_i cs' hc;simp at h;subst h;exact hc
 ·cases h
theorem HRel.cells {F G:Nat->Prop} {i:Nat->Nat} {H:Heap} {h:Array Obj} (hH:HRel F G i H h) {r:Nat} {cs:List AV} (hr:rowOf H r=some cs):
  r<H.n/\∃ c e z,h[i r]?=some (.cells c e z)/\CellsOk ⟨F,h,i,H.n⟩ cs c z:=by
 have hr:=rowOf_spec hr
 obtain ⟨o,ho,hrel⟩:=hH.row r _ hr
 cases hrel with
 | cells _ c e z hc=>exact ⟨Heap.get_lt hr,c,e,z,ho,hc⟩
theorem loadVar_run {E:Env} {t:TypeId} {d:TypeDesc} {inf:TypeInfo} (hd:P.underlying t=some d) (hi:P.info? t=some inf) {b o off:Nat} {c:Array Value} {e:TypeId} {z:Nat × Nat}
  (hb:w.heap[b]?=some (.cells c e z)) {cs:List AV} (hl:o+cs.length<=c.size) (hv:∀ (j:Nat) (x:AV) (v:Value),cs[j]?=some x->c[o+j]?=some v->VRel E x v) {x:AV}
  (h:takeVar d inf.size cs off=some x):∃ v,(loadVar t ⟨b,o+off,none⟩).run P w=.ok v w/\VRel E x v:=by
 have get:∀ j,j<cs.length->∃ v,c[o+j]?=some v:=fun j hj=>⟨c[o+j]'(by omega),by simp [show o+j<c.size by omega]⟩
 have agg:(isAgg t).run P w=.ok true w->(if off+inf.size<=cs.length then some (AV.agg ((cs.drop off).take inf.size)) else none)=some x->
   ∃ v,(loadVar t ⟨b,o+off,none⟩).run P w=.ok v w/\VRel E x v:=by
  intro ha h
  split at h
  ·rename_i hle
   simp only [Option.some.injEq] at h
   subst h
   let vs:=(c.toList.drop (o+off)).take inf.size
   have hvl:vs.length=inf.size:=by simp [vs];omega
   have hget:∀ (j:Nat) (v:Value),vs[j]?=some v->j<inf.size/\c[o+off+j]?=some v:=by
    intro j v hj
    simp only [vs,List.getElem?_take,List.getElem?_drop] at hj
    split at hj
    ·rename_i hlt;exact ⟨hlt,by simpa using hj⟩
    ·cases hj
   have hload:=run_loadCells_list (P:=P) w ⟨b,o+off,none⟩ vs (fun j v hj=>by
    rw [Addr.add_lit,cell_of hb];exact (hget j v hj).2)
   rw [hvl] at hload
   refine ⟨.agg vs.toArray,by simp [loadVar,ha,sizeOf,run_typeInfo w hi,hload],?_⟩
   refine .agg _ _ (by simp [hvl];omega) (fun j y u h1 h2=>?_)
   have h2:vs[j]?=some u:=by simpa using h2
   obtain ⟨hj,hc⟩:=hget j u h2
   rw [List.getElem?_take,if_pos hj,List.getElem?_drop] at h1
   exact hv (off+j) y u h1 (by rw [←Nat.add_assoc];exact hc)
  ·cases h
 have scal:(isAgg t).run P w=.ok false w->cs[off]?=some x->∃ v,(loadVar t ⟨b,o+off,none⟩).run P w=.ok v w/\VRel E x v:=by
  intro ha h
  obtain ⟨v,hv'⟩:=get off (List.getElem?_eq_some_iff.1 h).1
  refine ⟨v,?_,hv off x v h hv'⟩
  have hc:=cell_of (off:=o+off) hb
  rw [hv'] at hc
  simp only [loadVar,Sem.run_bind,ha,Result.andThen_ok,Bool.false_eq_true,if_false,run_load,hc]
 have ha:(isAgg t).run P w=.ok (match d with | .struct _ | .array _ _=>true | _=>false) w:=by
  simp only [isAgg,Sem.run_bind,run_underlying hd,Result.andThen_ok]
  cases d<;>rfl
 cases d<;>first
  | exact agg ha h
  | exact scal ha h
theorem aload_run (hH:HRel F G i H w.heap) {t:TypeId} {x y:AV} {v:Value} (hx:VRel ⟨F,w.heap,i,H.n⟩ x v) (h:aload P H t x=some y):
  ∃ u,(Instr.loadAt t v).run P w=.ok u w/\VRel ⟨F,w.heap,i,H.n⟩ y u:=by
 unfold aload at h
 split at h
 ·rename_i d inf hd hi
  split at h
  ·rename_i r off
   split at h
   ·rename_i cs hr
    obtain ⟨hlt,c,e,z,hb,hc⟩:=hH.cells hr
    cases hx
    have:=loadVar_run (P:=P) (w:=w) (o:=0) hd hi hb (by simpa using hc.len) (fun j x v h1 h2=>hc.val j x v h1 (by simpa using h2)) h
    simpa [Instr.loadAt,Instr.sureAddr] using this
   ·cases h
  ·rename_i cs off
   cases hx with
   | cptr _ _ b o vs hF hm hl hv=>
    obtain ⟨c,e,z,hb,hs,hc⟩:=hm
    have:=loadVar_run (P:=P) (w:=w) (o:=o) hd hi hb (by omega) (fun j x v h1 h2=>by
     have hj:j<vs.length:=by rw [←hl];exact (List.getElem?_eq_some_iff.1 h1).1
     have:=hc j vs[j] (by simp [hj])
     rw [this] at h2;simp at h2;subst h2
     exact hv j x _ h1 (by simp [hj])) h
    simpa [Instr.loadAt,Instr.sureAddr] using this
  ·cases h
 ·cases h
theorem afieldAddr_run {E:Env} {s:TypeId} {x y:AV} {f:Nat} {v:Value} (hx:VRel E x v) (h:afieldAddr P s x f=some y):
  ∃ u,(Instr.fieldAt s v f).run P w=.ok u w/\VRel E y u:=by
 unfold afieldAddr at h
 split at h
 ·rename_i fs hs
  split at h
  ·rename_i fd hfd
   split at h
   ·rename_i inf hi
    split at h
    ·cases h
    ·rename_i hz
     split at h
     ·rename_i r off
      cases hx with
      | ptr _ _ hr=>
       simp only [Option.some.injEq] at h;subst h
       refine ⟨.pointer (some ⟨E.i r,off+fd.offset,none⟩),?_,.ptr r _ hr⟩
       simp [Instr.fieldAt,run_underlying hs,hfd,Instr.sureAddr,fieldPlace,sizeOf,run_typeInfo w hi,hz,Addr.add_lit]
     ·rename_i cells off
      cases hx with
      | cptr _ _ b o vs hF hm hl hv=>
       simp only [Option.some.injEq] at h;subst h
       refine ⟨.pointer (some ⟨b,o+(off+fd.offset),none⟩),?_,.cptr cells _ b o vs hF hm hl hv⟩
       simp [Instr.fieldAt,run_underlying hs,hfd,Instr.sureAddr,fieldPlace,sizeOf,run_typeInfo w hi,hz,Addr.add_lit,Nat.add_assoc]
     ·cases h
   ·cases h
  ·cases h
 ·cases h
theorem aindexAddr_run {E:Env} {t:TypeId} {x ix y:AV} {v iv:Value} (hx:VRel E x v) (hi:VRel E ix iv) (h:aindexAddr P t x ix=some y):
  ∃ u,(Instr.indexAt t v iv).run P w=.ok u w/\VRel E y u:=by
 unfold aindexAddr at h
 split at h
 ·rename_i k n
  cases hi
  split at h
  ·rename_i e r off len esz hu
   cases hx with
   | slice _ _ _ _ cap hr hc hb=>
    split at h
    ·rename_i inf hinf
     split at h
     ·rename_i hn
      simp only [Option.some.injEq] at h;subst h
      refine ⟨_,?_,.ptr r _ hr⟩
      simp [Instr.indexAt,asIntOf,run_underlying hu,hn,sizeOf,run_typeInfo w hinf,Addr.add_lit]
     ·cases h
    ·cases h
  ·rename_i e len cells hu
   split at h
   ·rename_i inf hinf
    split at h
    ·rename_i hn
     obtain ⟨h0,h1,h2⟩:=hn
     simp only [Option.some.injEq] at h;subst h
     cases hx with
     | listNil=>simp at h2
     | list _ cap _ b o vs hc hF hm hl hv=>
      refine ⟨.pointer (some ⟨b,o+n.toNat*inf.size,none⟩),?_,.cptr cells _ b o vs hF hm hl hv⟩
      simp [Instr.indexAt,asIntOf,run_underlying hu,h0,h1,sizeOf,run_typeInfo w hinf,Addr.add_lit]
    ·cases h
   ·cases h
  ·rename_i len e r off hu
   split at h
   ·rename_i inf hinf
    split at h
    ·rename_i hn
     simp only [Option.some.injEq] at h;subst h
     cases hx with
     | ptr _ _ hr=>
      refine ⟨_,?_,.ptr r _ hr⟩
      simp [Instr.indexAt,asIntOf,run_underlying hu,hn,sizeOf,run_typeInfo w hinf,Addr.add_lit,Instr.sureAddr]
    ·cases h
   ·cases h
  ·rename_i len e cells off hu
   split at h
   ·rename_i inf hinf
    split at h
    ·rename_i hn
     simp only [Option.some.injEq] at h;subst h
     cases hx with
     | cptr _ _ b o vs hF hm hl hv=>
      refine ⟨.pointer (some ⟨b,o+(off+n.toNat*inf.size),none⟩),?_,.cptr cells _ b o vs hF hm hl hv⟩
      simp [Instr.indexAt,asIntOf,run_underlying hu,hn,sizeOf,run_typeInfo w hinf,Addr.add_lit,Instr.sureAddr,Nat.add_assoc]
    ·cases h
   ·cases h
  ·cases h
 ·cases h
theorem aindex_run {E:Env} {t:TypeId} {x ix y:AV} {v iv:Value} (hx:VRel E x v) (hi:VRel E ix iv) (h:aindex P t x ix=some y):
  ∃ u,(Instr.index t v iv).run P w=.ok u w/\VRel E y u:=by
 unfold aindex at h
 split at h
 ·rename_i k n
  cases hi
  split at h
  ·rename_i len e cs hu
   cases hx with
   | agg _ vs hl hv=>
    split at h
    ·rename_i inf hinf
     split at h
     ·rename_i hn
      obtain ⟨u,h1,h2⟩:=apart_run (w:=w) h ⟨by simpa using hl,fun j x v a b=>hv j x v a (by simpa using b)⟩
      refine ⟨u,?_,h2⟩
      simp [Instr.index,asIntOf,run_underlying hu,hn,sizeOf,run_typeInfo w hinf,h1]
     ·cases h
    ·cases h
  ·rename_i s hu
   cases hx
   split at h
   ·rename_i hn
    split at h
    ·rename_i b hb
     simp only [Option.some.injEq] at h;subst h
     refine ⟨_,?_,.int _ _⟩
     have hb':s[n.toNat]?=some b:=by
      have hlt:n.toNat<s.data.toList.length:=(List.getElem?_eq_some_iff.1 hb).1
      have hsz:n.toNat<s.size:=hlt
      rw [getElem?_pos s n.toNat hsz]
      rw [List.getElem?_eq_getElem hlt] at hb
      exact hb
     simp [Instr.index,asIntOf,run_underlying hu,hn,hb']
    ·cases h
   ·cases h
  ·cases h
 ·cases h
theorem afield_run {E:Env} {t:TypeId} {x y:AV} {f:Nat} {v:Value} (hx:VRel E x v) (h:afield P t x f=some y):
  ∃ u,(Instr.field t v f).run P w=.ok u w/\VRel E y u:=by
 unfold afield at h
 split at h
 ·rename_i fs cs hu
  cases hx with
  | agg _ vs hl hv=>
   split at h
   ·rename_i fd hfd
    obtain ⟨u,h1,h2⟩:=apart_run (w:=w) h ⟨by simpa using hl,fun j x v a b=>hv j x v a (by simpa using b)⟩
    exact ⟨u,by simp [Instr.field,run_underlying hu,hfd,asAgg,h1],h2⟩
   ·cases h
 ·cases h
end
end Go.Abs
end
noncomputable section
namespace Go.Abs
def putCells:List AV->Nat->List AV->List AV
 | cs,_,[]=>cs
 | cs,off,x::xs=>putCells (cs.set off x) (off+1) xs
def putArr:Array Value->Nat->List Value->Array Value
 | c,_,[]=>c
 | c,off,v::vs=>putArr (c.setIfInBounds off v) (off+1) vs
theorem putArr_size:∀ (vs:List Value) (c:Array Value) (off:Nat),(putArr c off vs).size=c.size
 | [],_,_=>rfl
 | v::vs,c,off=>by simp [putArr,putArr_size vs]
theorem putCells_length:∀ (xs:List AV) (cs:List AV) (off:Nat),(putCells cs off xs).length=cs.length
 | [],_,_=>rfl
 | x::xs,cs,off=>by simp [putCells,putCells_length xs]
theorem putCells_rel {E:Env}:∀ (xs:List AV) (vs:List Value) (cs:List AV) (c:Array Value) (off:Nat),VRels E xs vs->cs.length<=c.size->
  (∀ (j:Nat) (x:AV) (v:Value),cs[j]?=some x->c[j]?=some v->VRel E x v)->
  (∀ (j:Nat) (x:AV) (v:Value),(putCells cs off xs)[j]?=some x->(putArr c off vs)[j]?=some v->VRel E x v)
 | [],[],cs,c,off,_,_,h=>h
 | [],_::_,_,_,_,h,_,_=>by simp [VRels] at h
 | _::_,[],_,_,_,h,_,_=>by simp [VRels] at h
 | x::xs,v::vs,cs,c,off,hr,hl,h=>by
  have hx:VRel E x v:=hr.2 0 x v rfl rfl
  have hxs:VRels E xs vs:=⟨by have:=hr.1;simpa using this,fun j y u h1 h2=>hr.2 (j+1) y u (by simpa using h1) (by simpa using h2)⟩
  refine putCells_rel xs vs (cs.set off x) (c.setIfInBounds off v) (off+1) hxs (by simpa using hl) ?_
  intro j y u h1 h2
  rw [List.getElem?_set] at h1
  rw [Array.getElem?_setIfInBounds] at h2
  split at h1
  ·rename_i e
   rw [if_pos e] at h2
   split at h1
   ·split at h2
    ·simp at h1 h2;subst h1;subst h2;exact hx
    ·cases h2
   ·cases h1
  ·rename_i e
   rw [if_neg e] at h2
   exact h j y u h1 h2
theorem setSame (h:Array Obj) (b:Nat) (o:Obj) (hb:h[b]?=some o):h.setIfInBounds b o=h:=by
 apply Array.ext_getElem?
 intro j
 rw [Array.getElem?_setIfInBounds]
 split
 ·rename_i e;subst e;rw [hb];simp [(Array.getElem?_eq_some_iff.1 hb).1]
 ·rfl
section
variable {P : Program} {F G : Nat → Prop} {i : Nat → Nat} {H : Heap}
theorem run_storeCells:∀ (vs:List Value) (w:World) (b off k:Nat) (c:Array Value) (e:TypeId) (z:Nat × Nat),w.heap[b]?=some (.cells c e z)->off+k+vs.length<=c.size->
  (∀ j,j<c.size->¬ (z.1<=j/\j<z.2))->(∀ v∈vs,v.oneCell'=true)->
  (storeCells ⟨b,off,none⟩ vs k).run P w=.ok () { w with heap:=w.heap.setIfInBounds b (.cells (putArr c (off+k) vs) e z) }
 | [],w,b,off,k,c,e,z,hb,_,_,_=>by
  simp only [storeCells,putArr,setSame _ _ _ hb]
  rfl
 | v::vs,w,b,off,k,c,e,z,hb,hl,hz,hv=>by
  have hl':off+k+vs.length+1<=c.size:=by simpa [Nat.add_assoc] using hl
  have hlt:off+k<c.size:=by omega
  simp only [storeCells,Sem.run_bind,Addr.add_lit]
  rw [run_store P w _ v _ (hv v (by simp)),cell_of hb]
  simp only [Array.getElem?_eq_getElem hlt,frozen_of hb]
  have hf:(decide (z.1<=off+k)&&decide (off+k<z.2))=false:=by
   have:=hz (off+k) hlt
   simp only [Bool.and_eq_false_iff,decide_eq_false_iff_not]
   omega
  rw [hf]
  simp only [Bool.false_eq_true,if_false,Result.andThen_ok]
  have hblt:b<w.heap.size:=(Array.getElem?_eq_some_iff.1 hb).1
  have hset:w.setCell ⟨b,off+k,none⟩ v={ w with heap:=w.heap.setIfInBounds b (.cells (c.setIfInBounds (off+k) v) e z) }:=by
   simp only [World.setCell]
   congr 1
   apply Array.ext_getElem?
   intro j
   rw [Array.getElem?_modify,Array.getElem?_setIfInBounds]
   split
   ·rename_i ej;subst ej
    have:w.heap[b]=.cells c e z:=by rw [Array.getElem?_eq_getElem hblt] at hb;exact Option.some.inj hb
    simp [hblt,this]
   ·rfl
  rw [hset]
  have ih:=run_storeCells vs { w with heap:=w.heap.setIfInBounds b (.cells (c.setIfInBounds (off+k) v) e z) } b off (k+1) (c.setIfInBounds (off+k) v) e z
   (by simp [hblt]) (by simp;omega) (by simpa using hz) (fun u hu=>hv u (by simp [hu]))
  rw [ih]
  simp only [putArr,Nat.add_assoc]
  congr 2
  apply Array.ext_getElem?
  intro j
  simp only [Array.getElem?_setIfInBounds,Array.size_setIfInBounds]
  split<;>rfl
theorem HRel.write {w:World} (hH:HRel F G i H w.heap) {r:Nat} {cs:List AV} (hr:rowOf H r=some cs) (hlim:H.lim<=r) {xs:List AV} {vs:List Value} {off:Nat}
  (hx:VRels ⟨F,w.heap,i,H.n⟩ xs vs) (hone:∀ x∈xs,x.one=true) (hl:off+xs.length<=cs.length) (P:Program):
  ∃ w',(storeCells ⟨i r,off,none⟩ vs).run P w=.ok () w'/\HRel F G i (H.upd r (.cells (putCells cs off xs))) w'.heap/\Ext H.n F G i w F i w':=by
 obtain ⟨hlt,c,e,z,hb,hc⟩:=hH.cells hr
 have hv1:∀ v∈vs,v.oneCell'=true:=by
  intro v hv
  obtain ⟨j,hj,rfl⟩:=List.getElem_of_mem hv
  have hjx:j<xs.length:=by rw [hx.1];exact hj
  exact (hx.2 j xs[j] _ (by simp [hjx]) (by simp [hj])).one (hone _ (List.getElem_mem hjx))
 have hrun:=run_storeCells (P:=P) vs w (i r) off 0 c e z hb (by rw [←hx.1];have:=hc.len;omega) hc.free hv1
 refine ⟨_,hrun,?_⟩
 have hput:=hH.put (rowOf_spec hr) hlim (.cells (putArr c (off+0) vs) e z) (.cells (putCells cs off xs))
  (fun c2 e2 z2 h2=>by rw [hb] at h2;cases h2;exact ⟨_,_,_,rfl,by rw [putArr_size];exact Nat.le_refl _⟩) ?_
 ·exact hput
 ·have le:Env.le ⟨F,w.heap,i,H.n⟩ ⟨F,w.heap.setIfInBounds (i r) (.cells (putArr c (off+0) vs) e z),i,H.n⟩:=by
   refine ⟨fun _ h=>h,?_,Nat.le_refl _,fun _ _=>rfl,?_⟩
   ·intro b hF
    rw [Array.getElem?_setIfInBounds,if_neg]
    rintro rfl
    exact (hH.out r _ (rowOf_spec hr)).1 hF
   ·intro b c2 e2 z2 h2
    rw [Array.getElem?_setIfInBounds]
    by_cases hbb:i r=b
    ·subst hbb
     rw [hb] at h2;cases h2
     rw [if_pos rfl,if_pos (Array.getElem?_eq_some_iff.1 hb).1]
     exact ⟨_,_,_,rfl,by rw [putArr_size];exact Nat.le_refl _⟩
    ·rw [if_neg hbb];exact ⟨c2,e2,z2,h2,Nat.le_refl _⟩
  refine .cells _ _ _ _ ⟨by rw [putCells_length,putArr_size];exact hc.len,?_,by rw [putArr_size];exact hc.free⟩
  rw [Nat.add_zero]
  intro j x v h1 h2
  exact (putCells_rel xs vs cs c off hx hc.len hc.val j x v h1 h2).mono le
theorem HRel.newCells {w:World} (hH:HRel F G i H w.heap) {cs:List AV} {vs:Array Value} (t:TypeId) (hl:cs.length<=vs.size)
  (hv:∀ (j:Nat) (x:AV) (v:Value),cs[j]?=some x->vs[j]?=some v->VRel ⟨F,w.heap,i,H.n⟩ x v):
  HRel F G (Abs.put i H.n w.heap.size) (H.push (.cells cs)) (w.alloc (.cells vs t)).heap/\Ext H.n F G i w F (Abs.put i H.n w.heap.size) (w.alloc (.cells vs t)):=by
 have ext:=ext_alloc (K:=H.n) (F:=F) (G:=G) (i:=i) (w:=w) (.cells vs t) hH.old H.n w.heap.size (Nat.le_refl _)
 have le:Env.le ⟨F,w.heap,i,H.n⟩ ⟨F,(w.alloc (.cells vs t)).heap,Abs.put i H.n w.heap.size,H.n+1⟩:=ext.le (Nat.le_refl _) (Nat.le_succ _)
 refine ⟨hH.alloc _ _ (.cells cs vs t (0,0) ⟨hl,fun j x v h1 h2=>(hv j x v h1 h2).mono le,fun j _ h=>by omega⟩),ext⟩
end
end Go.Abs
end
noncomputable section
namespace Go.Abs
def Does (P:Program) (s:Sem Next) (F G:Nat->Prop) (i:Nat->Nat) (H:Heap) (w:World) (x:AV) (H':Heap):Prop:=
 ∃ (v:Value) (w':World) (i':Nat->Nat),(s.run P w=.ok (.value v) w'\/(s.run P w=.ok .skip w'/\v=undef))/\VRel ⟨F,w'.heap,i',H'.n⟩ x v/\HRel F G i' H' w'.heap/\
  Ext H.n F G i w F i' w'/\H.n<=H'.n
section
variable {P : Program} {F G : Nat → Prop} {i : Nat → Nat} {H : Heap} {w : World}
theorem does_pure (hH:HRel F G i H w.heap) {s:Sem Value} {x:AV} (h:∃ v,s.run P w=.ok v w/\VRel ⟨F,w.heap,i,H.n⟩ x v):
  Does P (do pure (.value (←s))) F G i H w x H:=by
 obtain ⟨v,h1,h2⟩:=h
 exact ⟨v,w,i,.inl (by simp [h1]),h2,hH,Ext.refl _ _ _ _ _,Nat.le_refl _⟩
theorem does_draws (hH:HRel F G i H w.heap) {s:Sem Value} {x:AV} (h:Draws P s ⟨F,w.heap,i,H.n⟩ w x):
  Does P (do pure (.value (←s))) F G i H w x H:=by
 obtain ⟨v,n,h1,h2⟩:=h
 exact ⟨v,{ w with drawn:=n },i,.inl (by simp [h1]),h2,hH,ext_drew n,Nat.le_refl _⟩
theorem does_alloc (hH:HRel F G i H w.heap) {s:Sem Value} {cs:List AV} {vs:Array Value} {t:TypeId} {x:AV} {v:Value}
  (hs:s.run P w=.ok v (w.alloc (.cells vs t))) (hl:cs.length<=vs.size)
  (hv:∀ (j:Nat) (x:AV) (v:Value),cs[j]?=some x->vs[j]?=some v->VRel ⟨F,w.heap,i,H.n⟩ x v)
  (hx:VRel ⟨F,(w.alloc (.cells vs t)).heap,Abs.put i H.n w.heap.size,H.n+1⟩ x v):
  Does P (do pure (.value (←s))) F G i H w x (H.push (.cells cs)):=by
 obtain ⟨h1,h2⟩:=hH.newCells t hl hv
 exact ⟨v,_,_,.inl (by simp [hs]),by simpa using hx,h1,h2,by simp⟩
theorem run_zero {t:TypeId} {inf:TypeInfo} {z:Value} (hi:P.info? t=some inf) (hz:inf.zero=some z) (w:World):(zeroValue t).run P w=.ok z w:=by
 simp [zeroValue,run_typeInfo w hi,hz]
def nlFlags (P:Program):Nat->TypeId->List Bool
 | 0,_=>[]
 | d+1,t=>match P.underlying t with
  | some (.slice e)=>match P.underlying e with
   | some (.int .u64)=>[true]
   | _=>[false]
  | some (.struct fs)=>fs.toList.flatMap fun f=>nlFlags P d f.type
  | some (.array n e)=>(List.replicate n (nlFlags P d e)).flatten
  | _=>[false]
def nlFix:List Bool->List AV->List AV
 | true::fs,.nilslice::cs=>.nl 0 []::nlFix fs cs
 | _::fs,c::cs=>c::nlFix fs cs
 | _,cs=>cs
def nlZero (P:Program) (t:TypeId):AV->AV
 | .agg cs=>.agg (nlFix (nlFlags P 6 t) cs)
 | .nilslice=>match nlFlags P 1 t with
  | [true]=>.nl 0 []
  | _=>.nilslice
 | x=>x
theorem nlFix_nil (fs:List Bool):nlFix fs []=[]:=by
 cases fs with
 | nil=>rfl
 | cons f fs=>cases f<;>rfl
theorem nlFix_rel {E:Env}:∀ (fs:List Bool) {cs:List AV} {vs:List Value},VRels E cs vs->VRels E (nlFix fs cs) vs
 | [],cs,vs,h=>by cases cs<;>exact h
 | f::fs,[],vs,h=>by rw [nlFix_nil];exact h
 | f::fs,c::cs,vs,h=>by
  cases vs with
  | nil=>have:=h.1;simp at this
  | cons v vs=>
   have h1:VRel E c v:=h.2 0 c v rfl rfl
   have h2:VRels E cs vs:=⟨by have:=h.1;simp at this;exact this,fun j x u a b=>h.2 (j+1) x u (by simpa using a) (by simpa using b)⟩
   have ih:=nlFix_rel fs h2
   unfold nlFix
   split
   ·rename_i e1 e2
    simp only [List.cons.injEq] at e1 e2
    obtain ⟨rfl,rfl⟩:=e1
    obtain ⟨rfl,rfl⟩:=e2
    refine VRels.cons ?_ ih
    cases h1;exact .nlNil
   ·rename_i e1 e2
    simp only [List.cons.injEq] at e1 e2
    obtain ⟨rfl,rfl⟩:=e1
    obtain ⟨rfl,rfl⟩:=e2
    exact VRels.cons h1 ih
   ·exact h
theorem nlZero_rel {P:Program} {t:TypeId} {E:Env} {x:AV} {v:Value} (h:VRel E x v):VRel E (nlZero P t x) v:=by
 unfold nlZero
 split
 ·rename_i cs
  cases h with
  | agg _ vs hl hv=>
   have:=nlFix_rel (nlFlags P 6 t) (E:=E) (cs:=cs) (vs:=vs.toList) ⟨by simpa using hl,fun j x v a b=>hv j x v a (by simpa using b)⟩
   exact .agg _ vs (by simpa using this.1) fun j x v a b=>this.2 j x v a (by simpa using b)
 ·split
  ·cases h;exact .nlNil
  ·exact h
 ·exact h
def zeroOf (P:Program) (t:TypeId):Option AV:=
 match P.info? t with
 | some inf=>match inf.zero with
  | some z=>if (nlZero P t (ofV z)).known then some (nlZero P t (ofV z)) else none
  | none=>none
 | none=>none
theorem zeroOf_run {t:TypeId} {x:AV} (h:zeroOf P t=some x) (E:Env) (w:World):∃ z,(zeroValue t).run P w=.ok z w/\VRel E x z/\x.known=true:=by
 unfold zeroOf at h
 split at h
 ·rename_i inf hi
  split at h
  ·rename_i z hz
   split at h
   ·rename_i hk
    simp at h;subst h
    exact ⟨z,run_zero hi hz w,nlZero_rel (ofV_rel E z),hk⟩
   ·cases h
  ·cases h
 ·cases h
theorem newVar_does (hH:HRel F G i H w.heap) (t:TypeId) {x:AV} {v:Value} (hx:VRel ⟨F,w.heap,i,H.n⟩ x v) (hk:x.known=true) {s:Sem Value}
  (hs:s.run P w=.ok (.pointer (some ⟨w.heap.size,0,none⟩)) (w.alloc (.cells v.cells t))):
  Does P (do pure (.value (←s))) F G i H w (.ptr H.n 0) (H.push (.cells x.cells)):=by
 have hc:=hx.cells hk
 refine does_alloc hH hs (by rw [hc.1];simp) (fun j y u h1 h2=>hc.2 j y u h1 (by simpa using h2)) ?_
 have:=VRel.ptr (E:=⟨F,(w.alloc (.cells v.cells t)).heap,Abs.put i H.n w.heap.size,H.n+1⟩) H.n 0 (Nat.lt_succ_self _)
 simpa [put_self] using this
theorem alloc_does (hH:HRel F G i H w.heap) {t:TypeId} {x:AV} (h:zeroOf P t=some x):
  Does P (do pure (.value (←Instr.alloc t true (.tuple #[])))) F G i H w (.ptr H.n 0) (H.push (.cells x.cells)):=by
 obtain ⟨z,hz,hr,hk⟩:=zeroOf_run h ⟨F,w.heap,i,H.n⟩ w
 refine newVar_does hH t hr hk ?_
 simp only [Instr.alloc,Sem.run_bind,hz,Result.andThen_ok,newVar,newRow,run_newObj,Sem.run_pure]
 rfl
theorem box_does (hH:HRel F G i H w.heap) (t:TypeId) {x:AV} {v:Value} (hx:VRel ⟨F,w.heap,i,H.n⟩ x v) (hk:x.known=true):
  Does P (do pure (.value (←Instr.box t v))) F G i H w (.ptr H.n 0) (H.push (.cells x.cells)):=by
 refine newVar_does hH t hx hk ?_
 simp only [Instr.box,Sem.run_bind,newVar,newRow,run_newObj,Result.andThen_ok,Sem.run_pure]
 rfl
def astore (P:Program) (H:Heap) (t:TypeId) (x y:AV):Option Heap:=
 match x with
 | .ptr r off=>match wrowOf H r,P.info? t with
  | some cs,some inf=>if y.known&&y.cells.length==inf.size&&y.cells.all AV.one&&decide (off+y.cells.length<=cs.length) then some (H.upd r (.cells (putCells cs off y.cells))) else none
  | _,_=>none
 | _=>none
theorem store_does (hH:HRel F G i H w.heap) {t:TypeId} {x y:AV} {v u:Value} {H':Heap} (hx:VRel ⟨F,w.heap,i,H.n⟩ x v) (hy:VRel ⟨F,w.heap,i,H.n⟩ y u) (h:astore P H t x y=some H'):
  Does P (do Instr.storeAt t v u;pure .skip) F G i H w .top H':=by
 unfold astore at h
 split at h
 ·rename_i r off
  split at h
  ·rename_i cs inf hwr hi
   have hr:=wrowOf_row hwr
   split at h
   ·rename_i hc
    simp only [Bool.and_eq_true,beq_iff_eq,List.all_eq_true,decide_eq_true_eq] at hc
    obtain ⟨⟨⟨hk,hlen⟩,hone⟩,hle⟩:=hc
    simp only [Option.some.injEq] at h;subst h
    cases hx
    have hcells:=hy.cells hk
    obtain ⟨w',h1,h2,h3⟩:=hH.write hr (wrowOf_lim hwr) hcells hone hle P
    refine ⟨undef,w',i,.inr ⟨?_,rfl⟩,.top _,h2,h3,by simp⟩
    have hs:u.cells.size=inf.size:=by rw [←hlen,hcells.1];simp
    simp [Instr.storeAt,Instr.sureAddr,storeVar,sizeOf,run_typeInfo w hi,hs,h1]
   ·cases h
  ·cases h
 ·cases h
def afill (place:Nat->Option (Nat × Nat)):List AV->List (Nat × AV)->Option (List AV)
 | cs,[]=>some cs
 | cs,(k,x)::rest=>
  match place k with
  | none=>none
  | some (off,size)=>if x.known&&x.cells.length==size&&decide (off+size<=cs.length) then afill place (putCells cs off x.cells) rest else none
theorem foldl_put:∀ (vs:List Value) (n:Nat) (cs:Array Value) (off:Nat),(vs.zipIdx n).foldl (fun cs (x:Value × Nat)=>cs.setIfInBounds (off+x.2) x.1) cs=putArr cs (off+n) vs
 | [],n,cs,off=>rfl
 | v::vs,n,cs,off=>by
  simp only [List.zipIdx_cons,List.foldl_cons,putArr]
  rw [foldl_put vs (n+1)]
  rfl
theorem afill_run {E:Env} {place:Nat->Option (Nat × Nat)}:∀ (ps:List (Nat × AV)) (ps':List (Nat × Value)) (cs cs':List AV) (vs:Array Value),afill place cs ps=some cs'->
  ps.length=ps'.length->(∀ (j:Nat) (p:Nat × AV) (q:Nat × Value),ps[j]?=some p->ps'[j]?=some q->p.1=q.1/\VRel E p.2 q.2)->VRels E cs vs.toList->
  ∃ vs',Instr.fill place vs ps'=some vs'/\VRels E cs' vs'.toList
 | [],[],cs,cs',vs,h,_,_,hv=>by simp only [afill,Option.some.injEq] at h;subst h;exact ⟨vs,rfl,hv⟩
 | [],_::_,_,_,_,_,h,_,_=>by simp at h
 | _::_,[],_,_,_,_,h,_,_=>by simp at h
 | (k,x)::ps,(k',u)::ps',cs,cs',vs,h,hl,hp,hv=>by
  obtain ⟨hk,hr⟩:=hp 0 (k,x) (k',u) rfl rfl
  simp only at hk hr
  subst hk
  simp only [afill] at h
  split at h
  ·cases h
  ·rename_i off size hpl
   split at h
   ·rename_i hc
    simp only [Bool.and_eq_true,beq_iff_eq,decide_eq_true_eq] at hc
    obtain ⟨⟨hkn,hlen⟩,hle⟩:=hc
    have hcells:=hr.cells hkn
    have hsz:u.cells.size=size:=by rw [←hlen,hcells.1];simp
    have hvs:cs.length=vs.size:=by simpa using hv.1
    have e:u.cells.zipIdx.foldl (fun cs (x:Value × Nat)=>cs.setIfInBounds (off+x.2) x.1) vs=putArr vs off u.cells.toList:=by
     rw [←Array.foldl_toList,Array.toList_zipIdx]
     exact foldl_put u.cells.toList 0 vs off
    have hv2:VRels E (putCells cs off x.cells) (putArr vs off u.cells.toList).toList:=by
     refine ⟨by simp [putCells_length,putArr_size,hvs],fun j y z h1 h2=>?_⟩
     exact putCells_rel x.cells u.cells.toList cs vs off hcells (by omega) (fun j y z a b=>hv.2 j y z a (by simpa using b)) j y z h1 (by simpa using h2)
    obtain ⟨vs',h1,h2⟩:=afill_run ps ps' _ cs' _ h (by simpa using hl) (fun j p q a b=>hp (j+1) p q (by simpa using a) (by simpa using b)) hv2
    refine ⟨vs',?_,h2⟩
    simp only [Instr.fill,hpl]
    rw [if_neg (by simp;omega)]
    rw [←h1]
    congr 1
   ·cases h
theorem run_mapM_list {α β:Type} (f:α->Sem β) (g:α->β):∀ (l:List α) (w:World),(∀ x∈l,∀ w,(f x).run P w=.ok (g x) w)->(l.mapM f).run P w=.ok (l.map g) w
 | [],w,_=>by simp
 | a::l,w,h=>by
  rw [List.mapM_cons]
  simp only [Sem.run_bind,h a (by simp) w,Result.andThen_ok,run_mapM_list f g l w (fun x hx=>h x (by simp [hx])),Sem.run_pure,List.map_cons]
theorem run_mapM_array {α β:Type} (f:α->Sem β) (g:α->β) (l:Array α) (w:World) (h:∀ x∈l.toList,∀ w,(f x).run P w=.ok (g x) w):(l.mapM f).run P w=.ok (l.map g) w:=by
 rw [Array.mapM_eq_mapM_toList]
 rw [Sem.run_map,run_mapM_list f g l.toList w h]
 have e:(l.toList.map g).toArray=l.map g:=by rw [←Array.toList_map]
 show Result.ok (l.toList.map g).toArray w=_
 rw [e]
def sizes (P:Program) (fs:List Field):Option (List (Nat × Nat)):=
 match fs with
 | []=>some []
 | f::fs=>match P.info? f.type,sizes P fs with
  | some inf,some l=>some ((f.offset,inf.size)::l)
  | _,_=>none
theorem sizes_spec:∀ {fs:List Field} {l:List (Nat × Nat)},sizes P fs=some l->l=fs.map (fun f=>(f.offset,P.cellsOf f.type))/\∀ f∈fs,∃ inf,P.info? f.type=some inf
 | [],l,h=>by simp [sizes] at h;subst h;simp
 | f::fs,l,h=>by
  simp only [sizes] at h
  split at h
  ·rename_i inf l' h1 h2
   simp at h;subst h
   obtain ⟨e,hall⟩:=sizes_spec h2
   refine ⟨by simp [e,Program.cellsOf,h1],?_⟩
   intro g hg
   rcases List.mem_cons.1 hg with rfl | hg
   ·exact ⟨inf,h1⟩
   ·exact hall g hg
  ·cases h
def abuild (P:Program) (t:TypeId) (parts:List (Nat × AV)):Option AV:=
 match P.underlying t,zeroOf P t with
 | some (.struct fs),some z=>match sizes P fs.toList with
  | some l=>(afill (fun k=>l[k]?) z.cells parts).map .agg
  | none=>none
 | some (.array _ e),some z=>match P.info? e with
  | some inf=>(afill (fun k=>some (k*inf.size,inf.size)) z.cells parts).map .agg
  | none=>none
 | _,_=>none
theorem build_run {E:Env} {t:TypeId} {ps:List (Nat × AV)} {ps':Array (Nat × Value)} {y:AV} (h:abuild P t ps=some y) (hl:ps.length=ps'.size)
  (hp:∀ (j:Nat) (p:Nat × AV) (q:Nat × Value),ps[j]?=some p->ps'[j]?=some q->p.1=q.1/\VRel E p.2 q.2):∃ u,(Instr.build t ps').run P w=.ok u w/\VRel E y u:=by
 have hp':∀ (j:Nat) (p:Nat × AV) (q:Nat × Value),ps[j]?=some p->ps'.toList[j]?=some q->p.1=q.1/\VRel E p.2 q.2:=fun j p q a b=>hp j p q a (by simpa using b)
 unfold abuild at h
 split at h
 ·rename_i fs z hu hz
  obtain ⟨zv,hzr,hzrel,hzk⟩:=zeroOf_run hz E w
  split at h
  ·rename_i l hsz
   obtain ⟨el,hall⟩:=sizes_spec hsz
   cases hf:afill (fun k=>l[k]?) z.cells ps with
   | none=>simp [hf] at h
   | some cs=>
    simp [hf] at h;subst h
    obtain ⟨vs',h1,h2⟩:=afill_run ps ps'.toList z.cells cs zv.cells hf (by simpa using hl) hp' (hzrel.cells hzk)
    refine ⟨.agg vs',?_,.agg _ _ (by simpa using h2.1) (fun j x v a b=>h2.2 j x v a (by simpa using b))⟩
    have hm:=run_mapM_array (P:=P) (fun f:Field=>(do pure (f.offset,←sizeOf f.type):Sem (Nat × Nat))) (fun f=>(f.offset,P.cellsOf f.type)) fs w (by
     intro f hf w
     obtain ⟨inf,hinf⟩:=hall f hf
     simp [run_sizeOf w hinf])
    have e2:(fun k:Nat=>(fs.map (fun f=>(f.offset,P.cellsOf f.type)))[k]?)=(fun k:Nat=>l[k]?):=by
     funext k;rw [el];simp
    simp only [Instr.build,Sem.run_bind,hzr,Result.andThen_ok,run_underlying hu,hm]
    rw [e2,h1]
    rfl
  ·cases h
 ·rename_i n e z hu hz
  obtain ⟨zv,hzr,hzrel,hzk⟩:=zeroOf_run hz E w
  split at h
  ·rename_i inf hinf
   cases hf:afill (fun k=>some (k*inf.size,inf.size)) z.cells ps with
   | none=>simp [hf] at h
   | some cs=>
    simp [hf] at h;subst h
    obtain ⟨vs',h1,h2⟩:=afill_run ps ps'.toList z.cells cs zv.cells hf (by simpa using hl) hp' (hzrel.cells hzk)
    refine ⟨.agg vs',?_,.agg _ _ (by simpa using h2.1) (fun j x v a b=>h2.2 j x v a (by simpa using b))⟩
    simp only [Instr.build,Sem.run_bind,hzr,Result.andThen_ok,run_underlying hu,sizeOf,run_typeInfo w hinf,Sem.run_pure]
    rw [h1]
    rfl
  ·cases h
 ·cases h
end
end Go.Abs
end
noncomputable section
namespace Go.Abs
def zrow (z:List AV) (n:Nat):List AV:=(List.range n).map fun j=>(z[j%z.length]?).getD .top
def abuildSlice (P:Program) (H:Heap) (t:TypeId) (len:Nat) (parts:List (Nat × AV)):Option (AV × Heap):=
 match P.underlying t with
 | some (.slice e)=>match P.info? e,zeroOf P e with
  | some inf,some z=>
   if decide (len*inf.size<=16777216)&&z.cells.length==inf.size then
    (afill (fun k=>some (k*inf.size,inf.size)) (zrow z.cells (len*inf.size)) parts).map fun cs=>(.slice H.n 0 len inf.size,H.push (.cells cs))
   else none
  | _,_=>none
 | _=>none
def amakeSlice (P:Program) (H:Heap) (t:TypeId) (len cap:AV):Option (AV × Heap):=
 match P.underlying t,len,cap with
 | some (.slice e),.int _ l,.int _ c=>match P.info? e,zeroOf P e with
  | some inf,some z=>
   if 0<=l/\l<=c/\c<=281474976710656/\inf.bytes*c<=281474976710656/\z.cells.length=inf.size then
    some (.slice H.n 0 l.toNat inf.size,H.push (.cells (zrow z.cells (l.toNat*inf.size))))
   else none
  | _,_=>none
 | _,_,_=>none
def abounds (len:Nat) (lo hi:Option AV):Option (Nat × Nat):=
 match (match lo with | none=>some 0 | some (.int _ n)=>if 0<=n then some n.toNat else none | _=>none),
    (match hi with | none=>some len | some (.int _ n)=>if 0<=n then some n.toNat else none | _=>none) with
 | some l,some h=>if l<=h/\h<=len then some (l,h) else none
 | _,_=>none
def acut (P:Program) (e:TypeId) (x:AV) (n:Nat) (lo hi:Option AV) (H:Heap):Option AV:=
 match P.info? e,abounds n lo hi with
 | some inf,some (l,h)=>match x with
  | .ptr r off=>match rowOf H r with
   | some cs=>if off+n*inf.size<=cs.length then
     (if l=h/\0<l then some (.list 0 []) else some (.slice r (off+l*inf.size) (h-l) inf.size)) else none
   | none=>none
  | .cptr cs off=>if off+n*inf.size<=cs.length then
    (if l=h then some (.list 0 []) else some (.list (h-l) ((cs.drop (off+l*inf.size)).take ((h-l)*inf.size)))) else none
  | _=>none
 | _,_=>none
def aslice (P:Program) (H:Heap) (t:TypeId) (x:AV) (lo hi:Option AV):Option AV:=
 match P.underlying t with
 | some .string=>match x with
  | .string s=>match abounds s.data.toList.length lo hi with
   | some (l,h)=>some (.string ⟨((s.data.toList.drop l).take (h-l)).toArray⟩)
   | none=>none
  | _=>none
 | some (.slice e)=>match P.info? e with
  | some inf=>match x with
   | .nilslice=>match abounds 0 lo hi with
    | some _=>some .nilslice
    | none=>none
   | .slice r off len esz=>match abounds len lo hi with
    | some (l,h)=>if esz=inf.size then (if l=h/\0<l then some (.list 0 []) else some (.slice r (off+l*inf.size) (h-l) inf.size)) else none
    | none=>none
   | .list len cs=>match abounds len lo hi with
    | some (l,h)=>if l=h then some (.list 0 []) else if len*inf.size=cs.length/\cs≠[] then some (.list (h-l) ((cs.drop (l*inf.size)).take ((h-l)*inf.size))) else none
    | none=>none
   | _=>none
  | none=>none
 | some (.array n e)=>acut P e x n lo hi H
 | some (.pointer a)=>match P.underlying a with
  | some (.array n e)=>acut P e x n lo hi H
  | _=>none
 | _=>none
section
variable {P : Program} {F G : Nat → Prop} {i : Nat → Nat} {H : Heap} {w : World}
theorem zrow_rel {E:Env} {z:List AV} {zv:Array Value} (hz:VRels E z zv.toList) (hpos:z≠[]) (n:Nat):
  VRels E (zrow z n) ((Array.range n).map (fun j=>zv[j%zv.size]!)).toList:=by
 have hsz:zv.size=z.length:=by have:=hz.1;simpa using this.symm
 have hz0:0<z.length:=List.length_pos_iff.2 hpos
 refine ⟨by simp [zrow],fun j x v h1 h2=>?_⟩
 simp only [zrow,List.getElem?_map] at h1
 simp only [Array.toList_map,Array.toList_range,List.getElem?_map] at h2
 by_cases hj:j<n
 ·simp only [List.getElem?_range hj,Option.map_some,Option.some.injEq] at h1 h2
  have hm:j%z.length<z.length:=Nat.mod_lt _ hz0
  rw [List.getElem?_eq_getElem hm] at h1
  simp only [Option.getD_some] at h1
  rw [hsz] at h2
  have hm':j%z.length<zv.size:=by omega
  rw [getElem!_pos zv (j%z.length) hm'] at h2
  subst h1;subst h2
  exact hz.2 (j%z.length) _ _ (by rw [List.getElem?_eq_getElem hm]) (by simp [hm'])
 ·rw [List.getElem?_eq_none (by simp;omega)] at h1;simp at h1
theorem slice_new {vs:Array Value} {t:TypeId} {len cap esz:Nat} (hc:len<=cap) (hs:cap*esz<=vs.size):
  VRel ⟨F,(w.alloc (.cells vs t)).heap,Abs.put i H.n w.heap.size,H.n+1⟩ (.slice H.n 0 len esz) (.slice (some ⟨w.heap.size,0,none⟩) len cap):=by
 have:=VRel.slice (E:=⟨F,(w.alloc (.cells vs t)).heap,Abs.put i H.n w.heap.size,H.n+1⟩) H.n 0 len esz cap (Nat.lt_succ_self _) hc
  ⟨vs,t,(0,0),by show (w.alloc (.cells vs t)).heap[Abs.put i H.n w.heap.size H.n]?=_;rw [put_self];show (w.heap.push _)[w.heap.size]?=_;simp,by omega⟩
 simpa [put_self] using this
theorem afill_length {inf:Nat}:∀ (ps:List (Nat × AV)) {c0 cs:List AV},afill (fun k=>some (k*inf,inf)) c0 ps=some cs->cs.length=c0.length
 | [],c0,cs,hf=>by simp [afill] at hf;rw [hf]
 | (k,x)::ps,c0,cs,hf=>by
  simp only [afill] at hf
  split at hf
  ·rw [afill_length ps hf,putCells_length]
  ·cases hf
theorem buildSlice_run {E:Env} {t:TypeId} {len:Nat} {ps:List (Nat × AV)} {ps':Array (Nat × Value)} {y:AV} {H':Heap} (h:abuildSlice P H t len ps=some (y,H')) (hl:ps.length=ps'.size)
  (hp:∀ (j:Nat) (p:Nat × AV) (q:Nat × Value),ps[j]?=some p->ps'[j]?=some q->p.1=q.1/\VRel E p.2 q.2) (w:World):
  ∃ e esz cs vs,y=.slice H.n 0 len esz/\H'=H.push (.cells cs)/\len*esz<=cs.length/\VRels E cs vs.toList/\(Instr.buildSlice t len ps').run P w=.ok (.slice (some ⟨w.heap.size,0,none⟩) len len) (w.alloc (.cells vs e)):=by
 have hp':∀ (j:Nat) (p:Nat × AV) (q:Nat × Value),ps[j]?=some p->ps'.toList[j]?=some q->p.1=q.1/\VRel E p.2 q.2:=fun j p q a b=>hp j p q a (by simpa using b)
 unfold abuildSlice at h
 split at h
 ·rename_i e hu
  split at h
  ·rename_i inf z hinf hz
   obtain ⟨zv,hzr,hzrel,hzk⟩:=zeroOf_run hz E w
   split at h
   ·rename_i hc
    simp only [Bool.and_eq_true,decide_eq_true_eq,beq_iff_eq] at hc
    cases hf:afill (fun k=>some (k*inf.size,inf.size)) (zrow z.cells (len*inf.size)) ps with
    | none=>simp [hf] at h
    | some cs=>
     simp only [hf,Option.map_some,Option.some.injEq,Prod.mk.injEq] at h
     obtain ⟨rfl,rfl⟩:=h
     have hzc:=hzrel.cells hzk
     have hlen:len*inf.size<=cs.length:=by rw [afill_length ps hf];simp [zrow]
     by_cases h0:len*inf.size=0
     ·obtain ⟨vs',h1,h2⟩:=afill_run ps ps'.toList _ cs #[] hf (by simpa using hl) hp' (by rw [h0];exact ⟨rfl,fun j x v h=>by simp [zrow] at h⟩)
      refine ⟨e,inf.size,cs,vs',rfl,rfl,hlen,h2,?_⟩
      have h1':Instr.fill (fun k=>some (k*inf.size,inf.size)) ((Array.range (len*inf.size)).map (fun j=>(#[]:Array Value)[j%(#[]:Array Value).size]!)) ps'.toList=some vs':=by
       rw [h0,Array.range_zero',Array.map_empty];exact h1
      simp only [Instr.buildSlice,Sem.run_bind,run_underlying hu,Result.andThen_ok,sizeOf,run_typeInfo w hinf,Sem.run_pure]
      rw [if_neg (by omega),if_pos h0]
      simp only [Sem.run_bind,Sem.run_pure,Result.andThen_ok]
      rw [h1']
      simp only [Sem.run_bind,newRow,run_newObj,Result.andThen_ok,Sem.run_pure]
      rfl
     ·have hne:z.cells≠[]:=by
       intro he;rw [he] at hc;simp at hc;apply h0;rw [←hc.2];simp
      obtain ⟨vs',h1,h2⟩:=afill_run ps ps'.toList _ cs _ hf (by simpa using hl) hp' (zrow_rel hzc hne (len*inf.size))
      refine ⟨e,inf.size,cs,vs',rfl,rfl,hlen,h2,?_⟩
      simp only [Instr.buildSlice,Sem.run_bind,run_underlying hu,Result.andThen_ok,sizeOf,run_typeInfo w hinf,Sem.run_pure]
      rw [if_neg (by omega),if_neg h0]
      simp only [Sem.run_bind,hzr,Result.andThen_ok,Sem.run_pure]
      rw [h1]
      simp only [Sem.run_bind,newRow,run_newObj,Result.andThen_ok,Sem.run_pure]
      rfl
   ·cases h
  ·cases h
 ·cases h
theorem buildSlice_does (hH:HRel F G i H w.heap) {t:TypeId} {len:Nat} {ps:List (Nat × AV)} {ps':Array (Nat × Value)} {y:AV} {H':Heap} (h:abuildSlice P H t len ps=some (y,H')) (hl:ps.length=ps'.size)
  (hp:∀ (j:Nat) (p:Nat × AV) (q:Nat × Value),ps[j]?=some p->ps'[j]?=some q->p.1=q.1/\VRel ⟨F,w.heap,i,H.n⟩ p.2 q.2):
  Does P (do pure (.value (←Instr.buildSlice t len ps'))) F G i H w y H':=by
 obtain ⟨e,esz,cs,vs,rfl,rfl,h1,h2,h3⟩:=buildSlice_run h hl hp w
 exact does_alloc hH h3 (by rw [h2.1];simp) (fun j x v a b=>h2.2 j x v a (by simpa using b)) (slice_new (Nat.le_refl _) (by have:=h2.1;simp at this;omega))
theorem wrap_id {n:Int} (h0:0<=n) (h1:n<=281474976710656):IntKind.i64.wrap n=n:=IntWalk.i64_in _ (by omega)
theorem makeSlice_does (hH:HRel F G i H w.heap) {t:TypeId} {len cap y:AV} {H':Heap} {lv cv:Value} (hl:VRel ⟨F,w.heap,i,H.n⟩ len lv) (hc:VRel ⟨F,w.heap,i,H.n⟩ cap cv) (h:amakeSlice P H t len cap=some (y,H')):
  Does P (do pure (.value (←Instr.makeSlice t lv cv))) F G i H w y H':=by
 unfold amakeSlice at h
 split at h
 ·rename_i e k l k2 c hu
  cases hl;cases hc
  split at h
  ·rename_i inf z hinf hz
   obtain ⟨zv,hzr,hzrel,hzk⟩:=zeroOf_run hz ⟨F,w.heap,i,H.n⟩ w
   split at h
   ·rename_i hcnd
    obtain ⟨h0,h1,h2,h3,h4⟩:=hcnd
    simp only [Option.some.injEq,Prod.mk.injEq] at h
    obtain ⟨rfl,rfl⟩:=h
    have wl:IntKind.i64.wrap l=l:=wrap_id h0 (by omega)
    have wc:IntKind.i64.wrap c=c:=wrap_id (by omega) h2
    have hzc:=hzrel.cells hzk
    have tl:∀ n:Int,0<=n->n<=c->(decide (n<0)||decide (inf.bytes*n>2 ^ 48))=false:=by
     intro n hn hn2
     simp only [Bool.or_eq_false_iff,decide_eq_false_iff_not]
     refine ⟨by omega,?_⟩
     have:(inf.bytes:Int)*n<=inf.bytes*c:=Int.mul_le_mul_of_nonneg_left hn2 (by omega)
     have e:(2:Int) ^ 48=281474976710656:=by decide
     rw [e];omega
    have hlc:l.toNat*inf.size<=c.toNat*inf.size:=Nat.mul_le_mul_right _ (by omega)
    let vs:Array Value:=(Array.range (c.toNat*inf.size)).map (fun j=>(if c.toNat*inf.size=0 then (#[]:Array Value) else zv.cells)[j%(if c.toNat*inf.size=0 then (#[]:Array Value) else zv.cells).size]!)
    have hvs:vs.size=c.toNat*inf.size:=by simp [vs]
    have hvals:∀ (j:Nat) (x:AV) (v:Value),(zrow z.cells (l.toNat*inf.size))[j]?=some x->vs[j]?=some v->VRel ⟨F,w.heap,i,H.n⟩ x v:=by
     intro j x v a b
     have hj:j<l.toNat*inf.size:=by
      have:=(List.getElem?_eq_some_iff.1 a).1;simpa [zrow] using this
     have hn0:c.toNat*inf.size≠0:=by omega
     have hne:z.cells≠[]:=by
      intro he;rw [he] at h4;simp at h4;apply hn0;rw [←h4];simp
     have hr:=zrow_rel hzc hne (c.toNat*inf.size)
     refine hr.2 j x v ?_ ?_
     ·simp only [zrow,List.getElem?_map] at a ⊢
      rw [List.getElem?_range (by omega)]
      rw [List.getElem?_range hj] at a
      exact a
     ·simp only [vs,if_neg hn0] at b
      rw [Array.getElem?_toList];exact b
    refine does_alloc hH (vs:=vs) (t:=e) (v:=.slice (some ⟨w.heap.size,0,none⟩) l.toNat c.toNat) ?_ (by rw [hvs];simp [zrow];omega) hvals (slice_new (by omega) (by omega))
    simp only [Instr.makeSlice,Sem.run_bind,run_underlying hu,Result.andThen_ok,asInt,asIntOf,Sem.run_pure,run_typeInfo w hinf,wl,wc]
    have e1:((decide (c<0)||decide (inf.bytes*c>2 ^ 48)||decide (l<0))||decide (l>c))=false:=by
     rw [tl c (by omega) (Int.le_refl _)]
     simp;omega
    rw [e1]
    simp only [Bool.false_eq_true,if_false,Sem.run_bind,run_askRoom,Result.andThen_ok,Sem.run_pure,sizeOf,run_typeInfo w hinf]
    by_cases hn0:c.toNat*inf.size=0
    ·simp only [hn0,if_true,Sem.run_pure,Result.andThen_ok,newRow,Sem.run_bind,run_newObj,vs]
     rfl
    ·simp only [hn0,if_false,Sem.run_bind,hzr,Sem.run_pure,Result.andThen_ok,newRow,run_newObj,vs]
     rfl
   ·cases h
  ·cases h
 ·cases h
end
end Go.Abs
end
noncomputable section
namespace Go.Abs
def ORel (E:Env):Option AV->Option Value->Prop
 | none,none=>True
 | some x,some v=>VRel E x v
 | _,_=>False
section
variable {P : Program} {F G : Nat → Prop} {i : Nat → Nat} {H : Heap} {w : World}
theorem sliceBound_run {k:IntKind} {n:Int} {y:Nat} {code:BoundsCode} (h0:0<=n) (h1:n.toNat<=y):(Instr.sliceBound (.int k n) y code).run P w=.ok n.toNat w:=by
 simp only [Instr.sliceBound,asIntOf,Sem.run_bind,Sem.run_pure,Result.andThen_ok]
 rw [if_pos ⟨h0,by omega⟩]
 rfl
theorem bounds_run {E:Env} {n cap l h:Nat} {lo hi:Option AV} {lo' hi':Option Value} (isSlice:Bool) (hlo:ORel E lo lo') (hhi:ORel E hi hi') (hc:n<=cap) (hb:abounds n lo hi=some (l,h)):
  (Instr.sliceBounds isSlice n cap lo' hi' none).run P w=.ok (l,h,cap) w/\l<=h/\h<=n:=by
 unfold abounds at hb
 split at hb
 ·rename_i l' h' hl' hh'
  split at hb
  ·rename_i hle
   simp only [Option.some.injEq,Prod.mk.injEq] at hb
   obtain ⟨rfl,rfl⟩:=hb
   refine ⟨?_,hle.1,hle.2⟩
   have e2:((match hi',(none:Option Value) with
     | some v,some _=>Instr.sliceBound v cap .slice3B
     | some v,none=>Instr.sliceBound v cap (if isSlice then .sliceAcap else .sliceAlen)
     | none,none=>pure n
     | none, some _ => stuck "Slice: max without high") : Sem Nat).run P w = .ok h' w := by
    cases hi with
    | none=>cases hi' with
     | none=>simp at hh';subst hh';rfl
     | some v=>simp [ORel] at hhi
    | some x=>cases hi' with
     | none=>simp [ORel] at hhi
     | some v=>
      simp only [ORel] at hhi
      cases hhi<;>simp at hh'
      obtain ⟨h0,rfl⟩:=hh'
      exact sliceBound_run h0 (by omega)
   have e3:((match lo' with
     | some v=>Instr.sliceBound v h' (if (none:Option Value).isSome then .slice3C else .sliceB)
     | none=>pure 0):Sem Nat).run P w=.ok l' w:=by
    cases lo with
    | none=>cases lo' with
     | none=>simp at hl';subst hl';rfl
     | some v=>simp [ORel] at hlo
    | some x=>cases lo' with
     | none=>simp [ORel] at hlo
     | some v=>
      simp only [ORel] at hlo
      cases hlo<;>simp at hl'
      obtain ⟨h0,rfl⟩:=hl'
      exact sliceBound_run h0 (by omega)
   unfold Instr.sliceBounds
   simp only [Sem.run_bind,Sem.run_pure,Result.andThen_ok]
   have e2':=e2
   cases hi'<;>cases lo'<;>simp_all
  ·cases hb
 ·cases hb
theorem memAt_sub {h:Array Obj} {b o:Nat} {vs:List Value} (hm:MemAt h b o vs) (k n:Nat) (hk:k+n<=vs.length):MemAt h b (o+k) ((vs.drop k).take n):=by
 obtain ⟨c,e,z,h1,h2,h3⟩:=hm
 refine ⟨c,e,z,h1,by simp;omega,fun j v hj=>?_⟩
 rw [List.getElem?_take] at hj
 split at hj
 ·rw [List.getElem?_drop] at hj
  have:=h3 _ v hj
  rw [←this];congr 1;omega
 ·cases hj
theorem list_sub {E:Env} {cs:List AV} {b o:Nat} {vs:List Value} (hF:E.F b) (hm:MemAt E.h b o vs) (hl:cs.length=vs.length)
  (hv:∀ (j:Nat) (x:AV) (v:Value),cs[j]?=some x->vs[j]?=some v->VRel E x v) (k n len cap:Nat) (hk:k+n<=cs.length) (hc:len<=cap):
  VRel E (.list len ((cs.drop k).take n)) (.slice (some ⟨b,o+k,none⟩) len cap):=by
 have hs:=((show VRels E cs vs from ⟨hl,hv⟩).drop k).take n
 exact .list len cap _ b (o+k) _ hc hF (memAt_sub hm k n (by omega)) hs.1 hs.2
theorem acut_run (hH:HRel F G i H w.heap) {e:TypeId} {x y:AV} {v:Value} {n:Nat} {lo hi:Option AV} {lo' hi':Option Value} (hx:VRel ⟨F,w.heap,i,H.n⟩ x v)
  (hlo:ORel ⟨F,w.heap,i,H.n⟩ lo lo') (hhi:ORel ⟨F,w.heap,i,H.n⟩ hi hi') (h:acut P e x n lo hi H=some y):
  ∃ a l k u,v=.pointer (some a)/\(Instr.sliceBounds false n n lo' hi' none).run P w=.ok (l,k,n) w/\(sizeOf e).run P w=.ok (P.cellsOf e) w/\
   u=.slice (some (if n=l then a else a.add (l*P.cellsOf e))) (k-l) (n-l)/\VRel ⟨F,w.heap,i,H.n⟩ y u:=by
 unfold acut at h
 split at h
 ·rename_i inf l k hinf hb
  obtain ⟨hrun,hlk,hkn⟩:=bounds_run (P:=P) (w:=w) false hlo hhi (Nat.le_refl n) hb
  have hsz:=run_sizeOf (P:=P) w hinf
  have hcell:P.cellsOf e=inf.size:=by simp [Program.cellsOf,hinf]
  split at h
  ·rename_i r off
   split at h
   ·rename_i cs hr
    obtain ⟨hlt,c,e',z,hbk,hc⟩:=hH.cells hr
    cases hx
    split at h
    ·rename_i hle
     refine ⟨_,l,k,_,rfl,hrun,hsz,rfl,?_⟩
     rw [hcell]
     split at h
     ·rename_i h0
      simp only [Option.some.injEq] at h;subst h
      rw [h0.1,Nat.sub_self]
      exact .listNil 0 _ _ (Nat.zero_le _)
     ·rename_i h0
      simp only [Option.some.injEq] at h;subst h
      have hb2:off+l*inf.size+(n-l)*inf.size<=c.size:=by
       rw [Nat.add_assoc,←Nat.add_mul,Nat.add_sub_cancel' (by omega)]
       have:=hc.len;omega
      have hv:=VRel.slice (E:=⟨F,w.heap,i,H.n⟩) r (off+l*inf.size) (k-l) inf.size (n-l) hlt (by omega) ⟨c,e',z,hbk,hb2⟩
      by_cases hnl:n=l
      ·have:l=0:=by
        by_cases h1:l=0
        ·exact h1
        ·exact absurd ⟨by omega,by omega⟩ h0
       subst this
       rw [if_pos hnl]
       simpa using hv
      ·rw [if_neg hnl,Addr.add_lit];exact hv
    ·cases h
   ·cases h
  ·rename_i cs off
   cases hx with
   | cptr _ _ b o vs hF hm hl hv=>
    split at h
    ·rename_i hle
     refine ⟨_,l,k,_,rfl,hrun,hsz,rfl,?_⟩
     rw [hcell]
     split at h
     ·rename_i h0
      simp only [Option.some.injEq] at h;subst h
      rw [h0,Nat.sub_self]
      exact .listNil 0 _ _ (Nat.zero_le _)
     ·rename_i h0
      simp only [Option.some.injEq] at h;subst h
      rw [if_neg (by omega),Addr.add_lit,Nat.add_assoc]
      refine list_sub hF hm hl hv (off+l*inf.size) ((k-l)*inf.size) (k-l) (n-l) ?_ (by omega)
      rw [Nat.add_assoc,←Nat.add_mul,Nat.add_sub_cancel' (by omega)]
      have:k*inf.size<=n*inf.size:=Nat.mul_le_mul_right _ hkn
      omega
    ·cases h
  ·cases h
 ·cases h
theorem aslice_run (hH:HRel F G i H w.heap) {t:TypeId} {x y:AV} {v:Value} {lo hi:Option AV} {lo' hi':Option Value} (hx:VRel ⟨F,w.heap,i,H.n⟩ x v)
  (hlo:ORel ⟨F,w.heap,i,H.n⟩ lo lo') (hhi:ORel ⟨F,w.heap,i,H.n⟩ hi hi') (h:aslice P H t x lo hi=some y):
  ∃ u,(Instr.sliceAt t v lo' hi' none).run P w=.ok u w/\VRel ⟨F,w.heap,i,H.n⟩ y u:=by
 unfold aslice at h
 split at h
 ·rename_i hu
  split at h
  ·rename_i s
   cases hx
   split at h
   ·rename_i l k hb
    simp only [Option.some.injEq] at h;subst h
    obtain ⟨hrun,h1,h2⟩:=bounds_run (P:=P) (w:=w) false hlo hhi (Nat.le_refl _) hb
    have hsz:s.data.toList.length=s.size:=rfl
    rw [hsz] at hrun h2
    refine ⟨.string (s.extract l k),?_,?_⟩
    ·simp [Instr.sliceAt,run_underlying hu,Instr.slice,hrun]
    ·have:(⟨((s.data.toList.drop l).take (k-l)).toArray⟩:ByteArray)=s.extract l k:=by
      apply ByteArray.ext
      rw [ByteArray.data_extract]
      apply Array.toList_inj.1
      rw [Array.toList_extract,List.extract_eq_take_drop]
     rw [this];exact .string _
   ·cases h
  ·cases h
 ·rename_i e hu
  split at h
  ·rename_i inf hinf
   have hcell:P.cellsOf e=inf.size:=by simp [Program.cellsOf,hinf]
   split at h
   ·cases hx
    split at h
    ·rename_i lk hb
     obtain ⟨l,k⟩:=lk
     simp only [Option.some.injEq] at h;subst h
     obtain ⟨hrun,h1,h2⟩:=bounds_run (P:=P) (w:=w) true hlo hhi (Nat.le_refl _) hb
     have:l=0:=by omega
     have:k=0:=by omega
     subst_vars
     refine ⟨.slice none 0 0,?_,.nilslice⟩
     simp [Instr.sliceAt,run_underlying hu,Instr.slice,hrun,run_sizeOf w hinf]
    ·cases h
   ·rename_i r off len esz
    cases hx with
    | slice _ _ _ _ cap hr hc hbk=>
     split at h
     ·rename_i l k hb
      obtain ⟨hrun,h1,h2⟩:=bounds_run (P:=P) (w:=w) true hlo hhi hc hb
      obtain ⟨c,e',z,hbk,hle⟩:=hbk
      split at h
      ·rename_i hez;subst hez
       refine ⟨.slice (if cap=l then some ⟨i r,off,none⟩ else (some (⟨i r,off,none⟩:Addr)).map (·.add (l*inf.size))) (k-l) (cap-l),?_,?_⟩
       ·simp [Instr.sliceAt,run_underlying hu,Instr.slice,hrun,run_sizeOf w hinf,hcell]
       split at h
       ·rename_i h0
        simp only [Option.some.injEq] at h;subst h
        rw [h0.1,Nat.sub_self]
        exact .listNil 0 _ _ (Nat.zero_le _)
       ·rename_i h0
        simp only [Option.some.injEq] at h;subst h
        have hb2:off+l*inf.size+(cap-l)*inf.size<=c.size:=by
         rw [Nat.add_assoc,←Nat.add_mul,Nat.add_sub_cancel' (by omega)];exact hle
        have hv:=VRel.slice (E:=⟨F,w.heap,i,H.n⟩) r (off+l*inf.size) (k-l) inf.size (cap-l) hr (by omega) ⟨c,e',z,hbk,hb2⟩
        by_cases hnl:cap=l
        ·have:l=0:=by
          by_cases h1:l=0
          ·exact h1
          ·exact absurd ⟨by omega,by omega⟩ h0
         subst this
         rw [if_pos hnl]
         simpa using hv
        ·rw [if_neg hnl,Option.map_some,Addr.add_lit];exact hv
      ·cases h
     ·cases h
   ·rename_i len cs
    split at h
    ·rename_i l k hb
     have key:∀ a cap,v=.slice a len cap->len<=cap->∃ u,(Instr.sliceAt t v lo' hi' none).run P w=.ok u w/\u=.slice (if cap=l then a else a.map (·.add (l*inf.size))) (k-l) (cap-l):=by
      intro a cap hv hc
      obtain ⟨hrun,h1,h2⟩:=bounds_run (P:=P) (w:=w) true hlo hhi hc hb
      subst hv
      exact ⟨_,by simp [Instr.sliceAt,run_underlying hu,Instr.slice,hrun,run_sizeOf w hinf,hcell],rfl⟩
     have hb2:=bounds_run (P:=P) (w:=w) true hlo hhi (Nat.le_refl len) hb
     obtain ⟨_,h1,h2⟩:=hb2
     split at h
     ·rename_i h0
      simp only [Option.some.injEq] at h;subst h
      have fin:∀ a cap,v=.slice a len cap->len<=cap->∃ u,(Instr.sliceAt t v lo' hi' none).run P w=.ok u w/\VRel ⟨F,w.heap,i,H.n⟩ (.list 0 []) u:=by
       intro a cap hv hc
       obtain ⟨u,hu1,rfl⟩:=key a cap hv hc
       exact ⟨_,hu1,by rw [h0,Nat.sub_self];exact .listNil 0 _ _ (Nat.zero_le _)⟩
      cases hx with
      | listNil _ cap a hc=>exact fin _ _ rfl hc
      | list _ cap _ b o vs hc hF hm hl hv=>exact fin _ _ rfl hc
     ·rename_i h0
      split at h
      ·rename_i hlen
       simp only [Option.some.injEq] at h;subst h
       cases hx with
       | listNil=>exact absurd rfl hlen.2
       | list _ cap _ b o vs hc hF hm hl hv=>
        obtain ⟨u,hu1,rfl⟩:=key _ cap rfl hc
        refine ⟨_,hu1,?_⟩
        rw [if_neg (by omega),Option.map_some,Addr.add_lit]
        refine list_sub hF hm hl hv (l*inf.size) ((k-l)*inf.size) (k-l) (cap-l) ?_ (by omega)
        rw [←Nat.add_mul,Nat.add_sub_cancel' (by omega),←hlen.1]
        exact Nat.mul_le_mul_right _ h2
      ·cases h
    ·cases h
   ·cases h
  ·cases h
 ·rename_i n e hu
  obtain ⟨a,l,k,u,rfl,hrun,hsz,rfl,hr⟩:=acut_run hH hx hlo hhi h
  exact ⟨_,by simp [Instr.sliceAt,run_underlying hu,Instr.sureAddr,hrun,hsz],hr⟩
 ·rename_i a hu
  split at h
  ·rename_i n e hu2
   obtain ⟨ad,l,k,u,rfl,hrun,hsz,rfl,hr⟩:=acut_run hH hx hlo hhi h
   exact ⟨_,by simp [Instr.sliceAt,run_underlying hu,run_underlying hu2,Instr.slice,asAddr,hrun,hsz],hr⟩
  ·cases h
 ·cases h
end
end Go.Abs
end
noncomputable section
namespace Go.Abs
def byteCells (s:ByteArray):List AV:=s.data.toList.map fun b=>.int .u8 b.toNat
def acellsOf (H:Heap) (size:Nat):AV->Option (Nat × List AV)
 | .nilslice=>some (0,[])
 | .slice r off len esz=>match rowOf H r with
  | some cs=>if esz=size/\off+len*size<=cs.length then some (len,(cs.drop off).take (len*size)) else none
  | none=>none
 | .list len cells=>if cells.length=len*size then some (len,cells) else none
 | .string s=>if size=1 then some (s.data.toList.length,byteCells s) else none
 | _=>none
def aadded (P:Program) (H:Heap) (xT:TypeId) (inf:TypeInfo) (z:AV) (x:AV):Option (Nat × List AV):=
 match P.underlying xT with
 | some (.int _)=>match x with
  | .int _ n=>if 0<=n/\n<=1048576/\inf.bytes<=1048576/\z.cells.length=inf.size then some (n.toNat,zrow z.cells (n.toNat*inf.size)) else none
  | _=>none
 | some _=>acellsOf H inf.size x
 | none=>none
def aappend (P:Program) (H:Heap) (sT xT:TypeId) (s x:AV):Option (AV × Heap):=
 match P.underlying sT with
 | some (.slice e)=>match P.info? e,zeroOf P e with
  | some inf,some z=>match aadded P H xT inf z x with
   | some (n,ys)=>
    if ys.all AV.one&&z.cells.length==inf.size then
     match s with
     | .nilslice=>
      if n=0 then some (.nilslice,H)
      else if n*(inf.bytes+1)<=549755813888 then some (.slice H.n 0 n inf.size,H.push (.cells ys)) else none
     | .slice r off len esz=>match wrowOf H r with
      | some cs=>
       if off=0/\esz=inf.size/\len*inf.size<=cs.length/\(len+n)*(inf.bytes+1)<=549755813888 then
        some (.slice H.n 0 (len+n) inf.size,(H.kill r).push (.cells (cs.take (len*inf.size)++ys)))
       else none
      | none=>none
     | _=>none
    else none
   | none=>none
  | _,_=>none
 | _=>none
def acopy (P:Program) (H:Heap) (dT:TypeId) (d s:AV):Option (AV × Heap):=
 match P.underlying dT with
 | some (.slice e)=>match P.info? e with
  | some inf=>match acellsOf H inf.size s with
   | some (n,ys)=>match d with
    | .nilslice=>some (.int .i64 0,H)
    | .list 0 []=>some (.int .i64 0,H)
    | .slice r off len esz=>match wrowOf H r with
     | some cs=>
      if esz=inf.size/\off+len*inf.size<=cs.length/\(ys.take (min n len*inf.size)).all AV.one then
       some (.int .i64 (Int.ofNat (Nat.min n len)),H.upd r (.cells (putCells cs off (ys.take (min n len*inf.size)))))
      else none
     | none=>none
    | _=>none
   | none=>none
  | none=>none
 | _=>none
def aclear (P:Program) (H:Heap) (t:TypeId) (x:AV):Option Heap:=
 match x with
 | .nilslice=>some H
 | .list 0 []=>some H
 | .slice _ _ 0 _=>some H
 | .slice r off len esz=>match P.underlying t with
  | some (.slice e)=>match P.info? e,zeroOf P e,wrowOf H r with
   | some inf,some z,some cs=>
    if esz=inf.size/\z.cells.length=inf.size/\off+len*inf.size<=cs.length/\z.cells.all AV.one/\0<len/\z.cells≠[] then some (H.upd r (.cells (putCells cs off (zrow z.cells (len*inf.size))))) else none
   | _,_,_=>none
  | _=>none
 | _=>none
section
variable {P : Program} {F G : Nat → Prop} {i : Nat → Nat} {H : Heap} {w : World}
theorem byteCells_rel (E:Env) (s:ByteArray):VRels E (byteCells s) (s.data.map fun b=>Value.int .u8 b.toNat).toList:=by
 refine ⟨by simp [byteCells],fun j x v h1 h2=>?_⟩
 simp only [byteCells,List.getElem?_map] at h1
 rw [Array.toList_map,List.getElem?_map] at h2
 cases h:s.data.toList[j]? with
 | none=>simp [h] at h1
 | some b=>simp [h] at h1 h2;subst h1;subst h2;exact .int _ _
theorem acellsOf_run (hH:HRel F G i H w.heap) {size n:Nat} {x:AV} {v:Value} {ys:List AV} (hx:VRel ⟨F,w.heap,i,H.n⟩ x v) (h:acellsOf H size x=some (n,ys)):
  (Builtin.lenOf v).run P w=.ok n w/\ys.length=n*size/\∀ m,m<=n->∃ vs,(∀ o:Nat,(Builtin.firstCells size m v).run P { w with drawn:=o }=.ok vs { w with drawn:=o })/\VRels ⟨F,w.heap,i,H.n⟩ (ys.take (m*size)) vs.toList:=by
 unfold acellsOf at h
 split at h
 ·cases hx
  simp only [Option.some.injEq,Prod.mk.injEq] at h
  obtain ⟨rfl,rfl⟩:=h
  refine ⟨rfl,by simp,fun m hm=>⟨#[],fun _=>rfl,by simpa using VRels.nil⟩⟩
 ·rename_i r off len esz
  cases hx with
  | slice _ _ _ _ cap hr hc hb=>
   split at h
   ·rename_i cs hrow
    split at h
    ·rename_i hcnd
     obtain ⟨rfl,hle⟩:=hcnd
     simp only [Option.some.injEq,Prod.mk.injEq] at h
     obtain ⟨rfl,rfl⟩:=h
     obtain ⟨hlt,c,e,z,hbk,hcok⟩:=hH.cells hrow
     refine ⟨rfl,by simp;omega,fun m hm=>?_⟩
     have hml:m*esz<=len*esz:=Nat.mul_le_mul_right _ hm
     let vs:=(c.toList.drop off).take (m*esz)
     have hvl:vs.length=m*esz:=by have:=hcok.len;simp [vs];omega
     have hget:∀ (j:Nat) (v:Value),vs[j]?=some v->j<m*esz/\c[off+j]?=some v:=by
      intro j v hj
      simp only [vs,List.getElem?_take,List.getElem?_drop] at hj
      split at hj
      ·rename_i hlt;exact ⟨hlt,by simpa using hj⟩
      ·cases hj
     have hrun:=fun o:Nat=>run_firstCells_some (P:=P) { w with drawn:=o } esz m ⟨i r,off,none⟩ len cap vs hvl (fun j v hj=>by
      rw [Addr.add_lit,cell_of (w:={ w with drawn:=o }) hbk];exact (hget j v hj).2)
     refine ⟨vs.toArray,hrun,by simp [hvl];omega,fun j y u h1 h2=>?_⟩
     have h2:vs[j]?=some u:=by simpa using h2
     obtain ⟨hj,hcj⟩:=hget j u h2
     rw [List.take_take,List.getElem?_take,if_pos (by omega),List.getElem?_drop] at h1
     exact hcok.val _ y u h1 hcj
    ·cases h
   ·cases h
 ·rename_i len cells
  split at h
  ·rename_i hlen
   simp only [Option.some.injEq,Prod.mk.injEq] at h
   obtain ⟨rfl,rfl⟩:=h
   cases hx with
   | listNil _ cap a hc=>
    refine ⟨rfl,hlen,fun m hm=>?_⟩
    have h0:m*size=0:=by
     have:m*size<=len*size:=Nat.mul_le_mul_right _ hm
     simp at hlen;omega
    refine ⟨#[],fun o=>?_,by simpa using VRels.nil⟩
    cases a with
    | none=>rfl
    | some a=>simp only [Builtin.firstCells,h0];rfl
   | list _ cap _ b o vs hc hF hm hl hv=>
    refine ⟨rfl,hlen,fun m hm'=>?_⟩
    have hml:m*size<=len*size:=Nat.mul_le_mul_right _ hm'
    obtain ⟨c,e,z,hbk,h1,h2⟩:=hm
    have hvl:(vs.take (m*size)).length=m*size:=by simp;omega
    have hrun:=fun o':Nat=>run_firstCells_some (P:=P) { w with drawn:=o' } size m ⟨b,o,none⟩ len cap (vs.take (m*size)) hvl (fun j v hj=>by
     rw [List.getElem?_take] at hj
     split at hj
     ·rw [Addr.add_lit,cell_of (w:={ w with drawn:=o' }) hbk];exact h2 j v hj
     ·cases hj)
    exact ⟨(vs.take (m*size)).toArray,hrun,by simpa using (show VRels _ cells vs from ⟨hl,hv⟩).take (m*size)⟩
  ·cases h
 ·rename_i s
  cases hx
  split at h
  ·rename_i h1;subst h1
   simp only [Option.some.injEq,Prod.mk.injEq] at h
   obtain ⟨rfl,rfl⟩:=h
   refine ⟨rfl,by simp [byteCells],fun m hm=>⟨_,fun _=>rfl,?_⟩⟩
   have:=(byteCells_rel ⟨F,w.heap,i,H.n⟩ s).take (m*1)
   rw [Nat.mul_one] at this ⊢
   have e:(s.data.map fun b=>Value.int .u8 b.toNat).toList.take m=((s.extract 0 m).data.map fun b=>Value.int .u8 b.toNat).toList:=by
    rw [ByteArray.data_extract,Array.toList_map,Array.toList_map,Array.toList_extract,List.extract_eq_take_drop]
    simp
   rw [e] at this;exact this
  ·cases h
 ·cases h
theorem HRel.move {h:Array Obj} (hH:HRel F G i H h) {r:Nat} {row:ARow} (hr:H.get r=some row) (hlim:H.lim<=r):
  HRel F G (Abs.put i H.n (i r)) ((H.kill r).push row) h:=by
 have hlt:r<H.n:=Heap.get_lt hr
 have le:Env.le ⟨F,h,i,H.n⟩ ⟨F,h,Abs.put i H.n (i r),H.n+1⟩:=
  ⟨fun _ h=>h,fun _ _=>rfl,Nat.le_succ _,fun s hs=>put_lt hs,fun _ c e z h=>⟨c,e,z,h,Nat.le_refl _⟩⟩
 have split:∀ (s:Nat) (ro:ARow),((H.kill r).push row).get s=some ro->(s≠r/\s<H.n/\H.get s=some ro)\/(s=H.n/\ro=row):=by
  intro s ro hs
  rcases Heap.get_push hs with ⟨hsl,hs⟩ | ⟨h1,h2⟩
  ·rw [Heap.get_kill hH.ok hlt] at hs
   split at hs
   ·cases hs
   ·rename_i hne;exact .inl ⟨hne,hsl,hs⟩
  ·exact .inr ⟨h1,h2⟩
 refine ⟨?_,?_,?_,hH.old,hH.apart,by simp [Heap.push,Heap.kill,hH.ok]⟩
 ·intro s ro hs
  simp only [Heap.n_push,Heap.n_kill]
  rcases split s ro hs with ⟨_,hsl,hs⟩ | ⟨rfl,rfl⟩
  ·obtain ⟨o,ho,hrel⟩:=hH.row s ro hs
   exact ⟨o,by rw [put_lt hsl];exact ho,hrel.mono le⟩
  ·obtain ⟨o,ho,hrel⟩:=hH.row r ro hr
   exact ⟨o,by rw [put_self];exact ho,hrel.mono le⟩
 ·intro s ro hs
  rcases split s ro hs with ⟨_,hsl,hs⟩ | ⟨rfl,rfl⟩
  ·rw [put_lt hsl];exact hH.out s ro hs
  ·rw [put_self];exact hH.out r ro hr
 ·intro s s' a b hs hs' e
  rcases split s a hs with ⟨hne,hsl,hs⟩ | ⟨k,k2⟩<;>rcases split s' b hs' with ⟨hne',hsl',hs'⟩ | ⟨k',k2'⟩
  ·rw [put_lt hsl,put_lt hsl'] at e;exact hH.inj s s' a b hs hs' e
  ·rw [put_lt hsl,k',put_self] at e;exact absurd (hH.inj s r a row hs hr e) hne
  ·rw [put_lt hsl',k,put_self] at e;exact absurd (hH.inj r s' row b hr hs' e).symm hne'
  ·omega
theorem ext_move {K:Nat} (r b:Nat) (hr:K<=r):Ext K F G i w F (Abs.put i r b) w:=
 ⟨fun _ h=>h,fun _ _=>rfl,Nat.le_refl _,fun _ c e z h=>⟨c,e,z,h,Nat.le_refl _⟩,fun _ hs=>put_lt (by omega),rfl,rfl,rfl⟩
theorem growBy_le (n:Nat):∀ (k c:Nat),Builtin.growBy n k c<=max c (2*n+192)
 | 0,c=>by simp [Builtin.growBy];omega
 | k+1,c=>by
  simp only [Builtin.growBy]
  split
  ·omega
  ·have:=growBy_le n k (c+(c+768) / 4)
   omega
theorem nextslicecap_le {n c:Nat} (h:c<n):Builtin.nextslicecap n c<=2*n+192:=by
 unfold Builtin.nextslicecap
 split
 ·omega
 ·split
  ·omega
  ·have:=growBy_le n 4 c;omega
def isIntD:TypeDesc->Bool
 | .int _=>true
 | _=>false
def Added (P:Program) (xT e:TypeId) (xv:Value) (n:Nat) (w:World) (vs:Array Value):Prop:=
 ∃ (d:TypeDesc) (inf:TypeInfo),P.underlying xT=some d/\P.info? e=some inf/\
  ((isIntD d=true/\∃ k l,xv=.int k l/\0<=l/\l<=1048576/\inf.bytes<=1048576/\l.toNat=n/\
    ∀ (o:Nat),((if n*inf.size=0 then pure #[] else do pure (Builtin.zeroCells (←zeroValue e).cells n)):Sem (Array Value)).run P { w with drawn:=o }=.ok vs { w with drawn:=o })\/
   (isIntD d=false/\(Builtin.lenOf xv).run P w=.ok n w/\∀ o:Nat,(Builtin.firstCells inf.size n xv).run P { w with drawn:=o }=.ok vs { w with drawn:=o }))
theorem zrow_zero {E:Env} {z:List AV} {zv:Array Value} (hz:VRels E z zv.toList) (n size:Nat) (hs:z.length=size) (hn:n*size≠0):
  VRels E (zrow z (n*size)) (Builtin.zeroCells zv n).toList:=by
 have hsz:zv.size=size:=by rw [←hs];have:=hz.1;simpa using this.symm
 have hne:z≠[]:=by rintro rfl;apply hn;rw [←hs];simp
 have:=zrow_rel hz hne (n*size)
 unfold Builtin.zeroCells
 rw [hsz] at this ⊢
 exact this
theorem aadded_run (hH:HRel F G i H w.heap) {xT e:TypeId} {inf:TypeInfo} {z x:AV} {xv:Value} {n:Nat} {ys:List AV} (hinf:P.info? e=some inf) (hz:zeroOf P e=some z)
  (hx:VRel ⟨F,w.heap,i,H.n⟩ x xv) (h:aadded P H xT inf z x=some (n,ys)):
  ys.length=n*inf.size/\∃ vs,Added P xT e xv n w vs/\VRels ⟨F,w.heap,i,H.n⟩ ys vs.toList:=by
 unfold aadded at h
 split at h
 ·rename_i k hu
  split at h
  ·rename_i k2 l
   split at h
   ·rename_i hc
    obtain ⟨h0,h1,h2,h3⟩:=hc
    simp only [Option.some.injEq,Prod.mk.injEq] at h
    obtain ⟨rfl,rfl⟩:=h
    cases hx
    refine ⟨by simp [zrow],?_⟩
    obtain ⟨zv,hzr,hzrel,hzk⟩:=zeroOf_run hz ⟨F,w.heap,i,H.n⟩ w
    by_cases hn:l.toNat*inf.size=0
    ·refine ⟨#[],⟨_,inf,hu,hinf,.inl ⟨rfl,k2,l,rfl,h0,h1,h2,rfl,fun o=>by rw [if_pos hn];rfl⟩⟩,by rw [hn];exact ⟨rfl,fun j x v h=>by simp [zrow] at h⟩⟩
    ·refine ⟨Builtin.zeroCells zv.cells l.toNat,⟨_,inf,hu,hinf,.inl ⟨rfl,k2,l,rfl,h0,h1,h2,rfl,fun o=>?_⟩⟩,zrow_zero (hzrel.cells hzk) _ _ h3 hn⟩
     obtain ⟨zv',hzr',_,_⟩:=zeroOf_run hz ⟨F,w.heap,i,H.n⟩ { w with drawn:=o }
     have:zv'=zv:=by
      have e1:(zeroValue e).run P w=.ok zv w:=hzr
      unfold zeroOf at hz
      split at hz
      ·rename_i inf' hi'
       split at hz
       ·rename_i z0 hz0
        rw [run_zero hi' hz0] at e1 hzr'
        injection e1 with a b
        injection hzr' with c d
        rw [←a,←c]
       ·cases hz
      ·cases hz
     subst this
     rw [if_neg hn]
     simp [hzr']
   ·cases h
  ·cases h
 ·rename_i d hd hu
  obtain ⟨h1,h2,h3⟩:=acellsOf_run (P:=P) hH hx h
  refine ⟨h2,?_⟩
  obtain ⟨vs,hvs,hrel⟩:=h3 n (Nat.le_refl _)
  rw [List.take_of_length_le (by omega)] at hrel
  refine ⟨vs,⟨d,inf,hu,hinf,.inr ⟨?_,h1,hvs⟩⟩,hrel⟩
  cases d<;>first | rfl | exact absurd rfl (hd _)
 ·cases h
end
end Go.Abs
end
noncomputable section
namespace Go.Abs
section
variable {P : Program} {F G : Nat → Prop} {i : Nat → Nat} {H : Heap} {w : World}
theorem putCells_at:∀ (ys a b:List AV),b.length=ys.length->putCells (a++b) a.length ys=a++ys
 | [],a,b,h=>by
  have:b=[]:=by cases b;rfl;simp at h
  subst this;simp [putCells]
 | y::ys,a,[],h=>by simp at h
 | y::ys,a,b::bs,h=>by
  have e1:(a++b::bs).set a.length y=(a++[y])++bs:=by simp
  simp only [putCells,e1]
  have:=putCells_at ys (a++[y]) bs (by simpa using h)
  simp only [List.length_append,List.length_cons,List.length_nil] at this
  rw [this];simp
def drawnCap (w:World) (need old:Nat) (e:TypeId):Nat:=(Question.appendCap need old e).cut (w.tape w.drawn (.appendCap need old e))
theorem drawnCap_le (w:World) (need old:Nat) (e:TypeId):need<=drawnCap w need old e:=by
 simp only [drawnCap,Question.cut];omega
theorem append_run {sT xT e:TypeId} {rest:List TypeId} {inf:TypeInfo} {base:Option Addr} {sLen sCap n:Nat} {xv z:Value} {vs olds:Array Value} (ty:TypeId)
  (hs:P.underlying sT=some (.slice e)) (hinf:P.info? e=some inf) (ha:Added P xT e xv n w vs) (hbound:(sLen+n)*(inf.bytes+1)<=549755813888)
  (hold:∀ o:Nat,(Builtin.firstCells inf.size sLen (.slice base sLen sCap)).run P { w with drawn:=o }=.ok olds { w with drawn:=o })
  (hz:∀ w:World,(zeroValue e).run P w=.ok z w):
  (Builtin.append_ (sT::xT::rest).toArray ty #[.slice base sLen sCap,xv]).run P w=
   if sLen+n<=sCap then
    (match base with
     | some a=>(storeCells (a.add (sLen*inf.size)) vs.toList).run P w
     | none=>.ok () w).andThen fun _ w'=>.ok (.slice base (sLen+n) sCap) w'
   else
    .ok (.slice (some ⟨w.heap.size,0,none⟩) (sLen+n) (drawnCap w (sLen+n) sCap e))
     ({ w with drawn:=w.drawn+1 }.alloc (.cells (olds++vs++Builtin.zeroCells z.cells (drawnCap w (sLen+n) sCap e-(sLen+n))) e)):=by
 obtain ⟨d,inf',hu,hinf',hcase⟩:=ha
 rw [hinf] at hinf';cases hinf'
 have hbig:¬ (Builtin.nextslicecap (sLen+n) sCap*inf.bytes>2 ^ 48)\/sLen+n<=sCap:=by
  by_cases hc:sLen+n<=sCap
  ·exact .inr hc
  ·left
   have h1:=nextslicecap_le (n:=sLen+n) (c:=sCap) (by omega)
   have h2:Builtin.nextslicecap (sLen+n) sCap*inf.bytes<=(2*(sLen+n)+192)*inf.bytes:=Nat.mul_le_mul_right _ h1
   have h3:(2*(sLen+n)+192)*inf.bytes=2*((sLen+n)*inf.bytes)+192*inf.bytes:=by
    rw [Nat.add_mul,Nat.mul_assoc]
   have h4:(sLen+n)*(inf.bytes+1)=(sLen+n)*inf.bytes+(sLen+n):=by rw [Nat.mul_add,Nat.mul_one]
   have h5:0<sLen+n:=by omega
   have h6:inf.bytes<=(sLen+n)*inf.bytes:=Nat.le_mul_of_pos_left _ h5
   omega
 have hint:∀ w:World,(do pure ((←underlying xT) matches .int _):Sem Bool).run P w=.ok (isIntD d) w:=by
  intro w
  simp only [Sem.run_bind,run_underlying hu,Result.andThen_ok,Sem.run_pure]
  cases d<;>rfl
 have hcell:P.cellsOf e=inf.size:=by simp [Program.cellsOf,hinf]
 have hlt62:sLen+n<=549755813888:=by
  have:(sLen+n)*1<=(sLen+n)*(inf.bytes+1):=Nat.mul_le_mul_left _ (by omega)
  omega
 have forced:(Question.appendCap (sLen+n) sCap e).forced=false:=rfl
 rcases hcase with ⟨hd,k,l,rfl,h0,h1,h2,h3,hvs⟩ | ⟨hd,hlen,hvs⟩
 ·have wl:IntKind.i64.wrap l=l:=wrap_id h0 (by omega)
  have hlb:¬ (l*(inf.bytes:Int)>2 ^ 48):=by
   have:l*(inf.bytes:Int)<=1048576*1048576:=by
    have a:l*(inf.bytes:Int)<=1048576*(inf.bytes:Int):=Int.mul_le_mul_of_nonneg_right h1 (by omega)
    have b:(1048576:Int)*(inf.bytes:Int)<=1048576*1048576:=Int.mul_le_mul_of_nonneg_left (by omega) (by decide)
    omega
   have e:(2:Int) ^ 48=281474976710656:=by decide
   rw [e];omega
  obtain ⟨kk,rfl⟩:∃ kk,d=.int kk:=by cases d<;>simp [isIntD] at hd;exact ⟨_,rfl⟩
  simp only [Builtin.append_,List.getElem?_toArray,List.getElem?_cons_zero,List.getElem?_cons_succ,Sem.run_bind,run_underlying hs,Result.andThen_ok,run_sizeOf w hinf,Sem.run_pure,run_underlying hu,if_true,
   asInt,asIntOf,wl,show ¬ l<0 by omega,if_false,run_typeInfo w hinf,hlb,h3]
  by_cases hc:sLen+n<=sCap
  ·rw [if_pos hc,if_pos hc]
   simp only [Bool.not_true,Bool.not_false,Bool.false_eq_true,if_false,if_true,Sem.run_bind,hcell]
   rw [show Sem.run P _ w=.ok vs w from hvs w.drawn]
   simp only [Result.andThen_ok]
   cases base<;>simp only [Sem.run_bind,Sem.run_pure,Result.andThen_ok]
  ·have hb:=hbig.resolve_right hc
   rw [if_neg hc,if_neg hc]
   simp only [Sem.run_bind,run_typeInfo w hinf,Result.andThen_ok]
   rw [if_neg (by rw [IntKind.max_i64];intro a;omega)]
   simp only [Sem.run_bind,run_typeInfo w hinf,Result.andThen_ok]
   rw [if_neg hb]
   simp only [Sem.run_bind,run_choose,forced,Bool.false_eq_true,if_false,Result.andThen_ok,run_typeInfo { w with drawn:=w.drawn+1 } hinf,run_askRoom,hcell,Bool.not_true,Bool.not_false,if_true]
   rw [hold (w.drawn+1)]
   simp only [Result.andThen_ok]
   rw [show Sem.run P _ { w with drawn:=w.drawn+1 }=.ok vs _ from hvs (w.drawn+1)]
   simp only [Result.andThen_ok,hz,newRow,Sem.run_bind,run_newObj,Sem.run_pure]
   rfl
 ·cases d<;>first
   | (simp [isIntD] at hd;done)
   | skip
  all_goals
   simp only [Builtin.append_,List.getElem?_toArray,List.getElem?_cons_zero,List.getElem?_cons_succ,Sem.run_bind,run_underlying hs,Result.andThen_ok,run_sizeOf w hinf,Sem.run_pure,run_underlying hu,Bool.false_eq_true,if_false,hlen]
   by_cases hc:sLen+n<=sCap
   ·rw [if_pos hc,if_pos hc]
    simp only [Bool.not_true,Bool.not_false,Bool.false_eq_true,if_false,if_true,Sem.run_bind,hcell]
    rw [show Sem.run P _ w=.ok vs w from hvs w.drawn]
    simp only [Result.andThen_ok]
    cases base<;>simp only [Sem.run_bind,Sem.run_pure,Result.andThen_ok]
   ·have hb:=hbig.resolve_right hc
    rw [if_neg hc,if_neg hc]
    simp only [Sem.run_bind,run_typeInfo w hinf,Result.andThen_ok]
    rw [if_neg (by rw [IntKind.max_i64];intro a;omega)]
    simp only [Sem.run_bind,run_typeInfo w hinf,Result.andThen_ok]
    rw [if_neg hb]
    simp only [Sem.run_bind,run_choose,forced,Bool.false_eq_true,if_false,Result.andThen_ok,run_typeInfo { w with drawn:=w.drawn+1 } hinf,run_askRoom,hcell,Bool.not_true,Bool.not_false,if_true]
    rw [hold (w.drawn+1)]
    simp only [Result.andThen_ok]
    rw [show Sem.run P _ { w with drawn:=w.drawn+1 }=.ok vs _ from hvs (w.drawn+1)]
    simp only [Result.andThen_ok,hz,newRow,Sem.run_bind,run_newObj,Sem.run_pure]
    rfl
theorem zero_all {e:TypeId} {z:AV} (h:zeroOf P e=some z):∃ zv,(∀ w:World,(zeroValue e).run P w=.ok zv w)/\(∀ E:Env,VRel E z zv)/\z.known=true:=by
 unfold zeroOf at h
 split at h
 ·rename_i inf hi
  split at h
  ·rename_i zv hz
   split at h
   ·rename_i hk
    simp at h;subst h
    exact ⟨zv,run_zero hi hz,fun E=>nlZero_rel (ofV_rel E zv),hk⟩
   ·cases h
  ·cases h
 ·cases h
theorem append_does (hH:HRel F G i H w.heap) {sT xT ty:TypeId} {rest:List TypeId} {s x y:AV} {H':Heap} {sv xv:Value} (hs:VRel ⟨F,w.heap,i,H.n⟩ s sv) (hx:VRel ⟨F,w.heap,i,H.n⟩ x xv)
  (h:aappend P H sT xT s x=some (y,H')):Does P (do pure (.value (←Builtin.append_ (sT::xT::rest).toArray ty #[sv,xv]))) F G i H w y H':=by
 unfold aappend at h
 split at h
 ·rename_i e hu
  split at h
  ·rename_i inf z hinf hz
   obtain ⟨zv,hzr,hzrel,hzk⟩:=zero_all hz
   split at h
   ·rename_i n ys hadd
    obtain ⟨hyl,vs,hA,hvs⟩:=aadded_run hH hinf hz hx hadd
    split at h
    ·rename_i hone
     simp only [Bool.and_eq_true,List.all_eq_true,beq_iff_eq] at hone
     obtain ⟨hone,hzl⟩:=hone
     have hzs:zv.cells.size=inf.size:=by
      have:=((hzrel ⟨F,w.heap,i,H.n⟩).cells hzk).1
      rw [hzl] at this;simpa using this.symm
     have zc:∀ k,(Builtin.zeroCells zv.cells k).size=k*inf.size:=by intro k;simp [Builtin.zeroCells,hzs]
     split at h
     ·cases hs
      have hold:∀ o:Nat,(Builtin.firstCells inf.size 0 (.slice none 0 0)).run P { w with drawn:=o }=.ok #[] { w with drawn:=o }:=fun _=>rfl
      split at h
      ·rename_i hn;subst hn
       simp only [Option.some.injEq,Prod.mk.injEq] at h
       obtain ⟨rfl,rfl⟩:=h
       refine does_pure hH ⟨.slice none 0 0,?_,.nilslice⟩
       obtain ⟨d,inf',hxu,hinf',hcase⟩:=hA
       rw [hinf] at hinf';cases hinf'
       have hcell:P.cellsOf e=inf.size:=by simp [Program.cellsOf,hinf]
       rcases hcase with ⟨hd,k,l,rfl,h0,h1,h2,h3,hv⟩ | ⟨hd,hlen,hv⟩
       ·obtain ⟨kk,rfl⟩:∃ kk,d=.int kk:=by cases d<;>simp [isIntD] at hd;exact ⟨_,rfl⟩
        have l0:l=0:=by omega
        subst l0
        have w0:IntKind.i64.wrap 0=0:=by decide
        have h2':¬ ((0:Int)*(inf.bytes:Int)>2 ^ 48):=by rw [Int.zero_mul];decide
        simp only [Builtin.append_,List.getElem?_toArray,List.getElem?_cons_zero,List.getElem?_cons_succ,Sem.run_bind,run_underlying hu,Result.andThen_ok,run_sizeOf w hinf,Sem.run_pure,run_underlying hxu,if_true,
         asInt,asIntOf,w0,show ¬ (0:Int)<0 by omega,if_false,run_typeInfo w hinf,h2']
        rw [if_pos (by decide)]
        simp only [Bool.not_true,Bool.false_eq_true,if_false,Sem.run_bind,hcell,Int.toNat_zero]
        rw [show Sem.run P _ w=.ok vs w from hv w.drawn]
        rfl
       ·cases d<;>first
         | (simp [isIntD] at hd;done)
         | skip
        all_goals
         simp only [Builtin.append_,List.getElem?_toArray,List.getElem?_cons_zero,List.getElem?_cons_succ,Sem.run_bind,run_underlying hu,Result.andThen_ok,run_sizeOf w hinf,Sem.run_pure,run_underlying hxu,Bool.false_eq_true,if_false,hlen]
         rw [if_pos (by omega)]
         simp only [Bool.not_true,Bool.not_false,Bool.false_eq_true,if_false,if_true,Sem.run_bind,hcell]
         rw [show Sem.run P _ w=.ok vs w from hv w.drawn]
         rfl
      ·rename_i hn
       split at h
       ·rename_i hb
        simp only [Option.some.injEq,Prod.mk.injEq] at h
        obtain ⟨rfl,rfl⟩:=h
        have hrun:=append_run (rest:=rest) (base:=none) (sLen:=0) (sCap:=0) ty hu hinf hA (by rw [Nat.zero_add];exact hb) hold hzr
        rw [if_neg (by omega)] at hrun
        have hH1:HRel F G i H ({ w with drawn:=w.drawn+1 }:World).heap:=hH
        have hnew:=hH1.newCells (w:={ w with drawn:=w.drawn+1 }) (cs:=ys) (vs:=#[]++vs++Builtin.zeroCells zv.cells (drawnCap w (0+n) 0 e-(0+n))) e
         (by have:=hvs.1;simp at this;simp;omega)
         (fun j x v a b=>hvs.2 j x v a (by
          have hj:j<vs.size:=by have:=(List.getElem?_eq_some_iff.1 a).1;have h2:=hvs.1;simp at h2;omega
          rw [Array.getElem?_append_left (by simpa using hj)] at b
          simpa using b))
        refine ⟨_,_,_,.inl (by simp only [Sem.run_bind,hrun,Result.andThen_ok,Sem.run_pure];rfl),?_,hnew.1,(ext_drew (w.drawn+1)).trans hnew.2 (Nat.le_refl _),by simp⟩
        have hle:=drawnCap_le w (0+n) 0 e
        have:=slice_new (F:=F) (i:=i) (H:=H) (w:={ w with drawn:=w.drawn+1 }) (vs:=#[]++vs++Builtin.zeroCells zv.cells (drawnCap w (0+n) 0 e-(0+n))) (t:=e)
         (len:=n) (cap:=drawnCap w (0+n) 0 e) (esz:=inf.size) (by omega) (by
          have h2:=hvs.1;simp at h2
          simp only [Array.size_append,zc,←h2,hyl]
          simp only [Array.size_empty,Nat.zero_add]
          rw [←Nat.add_mul]
          exact Nat.mul_le_mul_right _ (by omega))
        simpa using this
       ·cases h
     ·rename_i r off len esz
      split at h
      ·rename_i cs hwr
       have hr:=wrowOf_row hwr
       split at h
       ·rename_i hcnd
        obtain ⟨rfl,rfl,hlen,hb⟩:=hcnd
        simp only [Option.some.injEq,Prod.mk.injEq] at h
        obtain ⟨rfl,rfl⟩:=h
        cases hs with
        | slice _ _ _ _ cap hrl hc hbk=>
        obtain ⟨hlt,c,e',z',hblk,hcok⟩:=hH.cells hr
        obtain ⟨c2,e2,z2,hblk2,hcap⟩:=hbk
        rw [hblk] at hblk2;cases hblk2
        have hcap:cap*inf.size<=c.size:=by omega
        have hac:acellsOf H inf.size (.slice r 0 len inf.size)=some (len,(cs.drop 0).take (len*inf.size)):=by
         simp only [acellsOf,hr]
         rw [if_pos ⟨trivial,by omega⟩]
        obtain ⟨_,_,hfc⟩:=acellsOf_run (P:=P) hH (VRel.slice (E:=⟨F,w.heap,i,H.n⟩) r 0 len inf.size cap hrl hc ⟨c,e',z',hblk,by omega⟩) hac
        obtain ⟨olds,hold,holdr⟩:=hfc len (Nat.le_refl _)
        have holdr:VRels ⟨F,w.heap,i,H.n⟩ (cs.take (len*inf.size)) olds.toList:=by
         rw [List.drop_zero,List.take_take,Nat.min_self] at holdr;exact holdr
        have hall:=holdr.append hvs
        have hrun:=append_run (rest:=rest) (base:=some ⟨i r,0,none⟩) (sLen:=len) (sCap:=cap) ty hu hinf hA hb hold hzr
        have hvl:vs.size=n*inf.size:=by have:=hvs.1;simp at this;omega
        by_cases hfit:len+n<=cap
        ·rw [if_pos hfit] at hrun
         have hv1:∀ v∈vs.toList,v.oneCell'=true:=by
          intro v hv
          obtain ⟨j,hj,rfl⟩:=List.getElem_of_mem hv
          have hjx:j<ys.length:=by rw [hvs.1];exact hj
          exact (hvs.2 j ys[j] _ (by simp [hjx]) (by simp [hj])).one (hone _ (List.getElem_mem hjx))
         have hroom:(len+n)*inf.size<=c.size:=Nat.le_trans (Nat.mul_le_mul_right _ hfit) hcap
         rw [Nat.add_mul] at hroom
         have hst:=run_storeCells (P:=P) vs.toList w (i r) (len*inf.size) 0 c e' z' hblk (by simp;omega) hcok.free hv1
         rw [Nat.add_zero] at hst
         simp only [Addr.add_lit,Nat.zero_add,hst,Result.andThen_ok] at hrun
         have hput:=hH.put (rowOf_spec hr) (wrowOf_lim hwr) (.cells (putArr c (len*inf.size) vs.toList) e' z') (.cells (cs.take (len*inf.size)++ys))
          (fun c2 e2 z2 h2=>by rw [hblk] at h2;cases h2;exact ⟨_,_,_,rfl,by rw [putArr_size];exact Nat.le_refl _⟩) ?_
         ·obtain ⟨hp1,hp2⟩:=hput
          have hmv:=hp1.move (r:=r) (row:=.cells (cs.take (len*inf.size)++ys)) (by rw [Heap.get_upd hH.ok _ hlt,if_pos rfl]) (show H.lim<=r from wrowOf_lim hwr)
          have ee:(H.upd r (.cells (cs.take (len*inf.size)++ys))).kill r=H.kill r:=by simp [Heap.upd,Heap.kill]
          rw [ee] at hmv
          simp only [Heap.n_upd] at hmv
          refine ⟨_,_,_,.inl (by simp only [Sem.run_bind,hrun,Result.andThen_ok,Sem.run_pure];rfl),?_,hmv,hp2.trans (ext_move H.n (i r) (Nat.le_refl _)) (Nat.le_refl _),by simp⟩
          have hblt:i r<w.heap.size:=(Array.getElem?_eq_some_iff.1 hblk).1
          have:=VRel.slice (E:=⟨F,w.heap.setIfInBounds (i r) (.cells (putArr c (len*inf.size) vs.toList) e' z'),Abs.put i H.n (i r),H.n+1⟩) H.n 0 (len+n) inf.size cap
           (Nat.lt_succ_self _) hfit ⟨putArr c (len*inf.size) vs.toList,e',z',by
            show (w.heap.setIfInBounds (i r) _)[Abs.put i H.n (i r) H.n]?=_
            rw [put_self,Array.getElem?_setIfInBounds,if_pos rfl,if_pos hblt],by rw [putArr_size];omega⟩
          simpa [put_self] using this
         ·have le:Env.le ⟨F,w.heap,i,H.n⟩ ⟨F,w.heap.setIfInBounds (i r) (.cells (putArr c (len*inf.size) vs.toList) e' z'),i,H.n⟩:=by
           refine ⟨fun _ h=>h,?_,Nat.le_refl _,fun _ _=>rfl,?_⟩
           ·intro b hF
            rw [Array.getElem?_setIfInBounds,if_neg]
            rintro rfl
            exact (hH.out r _ (rowOf_spec hr)).1 hF
           ·intro b c2 e2 z2 h2
            rw [Array.getElem?_setIfInBounds]
            by_cases hbb:i r=b
            ·subst hbb
             rw [hblk] at h2;cases h2
             rw [if_pos rfl,if_pos (Array.getElem?_eq_some_iff.1 hblk).1]
             exact ⟨_,_,_,rfl,by rw [putArr_size];exact Nat.le_refl _⟩
            ·rw [if_neg hbb];exact ⟨c2,e2,z2,h2,Nat.le_refl _⟩
          refine .cells _ _ _ _ ⟨by rw [putArr_size];simp;omega,?_,by rw [putArr_size];exact hcok.free⟩
          intro j x v h1 h2
          have e3:(cs.take (len*inf.size)).length=len*inf.size:=by rw [List.length_take];omega
          have hc0:=putCells_at ys (cs.take (len*inf.size)) (List.replicate ys.length .top) (by simp)
          rw [e3] at hc0
          rw [←hc0] at h1
          refine (putCells_rel ys vs.toList _ c (len*inf.size) hvs (by simp;omega) ?_ j x v h1 h2).mono le
          intro j y u a b
          by_cases hj:j<(cs.take (len*inf.size)).length
          ·rw [List.getElem?_append_left hj,List.getElem?_take] at a
           split at a
           ·exact hcok.val j y u a b
           ·cases a
          ·rw [List.getElem?_append_right (by omega),List.getElem?_replicate] at a
           split at a
           ·simp at a;subst a;exact .top _
           ·cases a
        ·rw [if_neg hfit] at hrun
         have hH1:HRel F G i H ({ w with drawn:=w.drawn+1 }:World).heap:=hH
         have holdl:olds.size=len*inf.size:=by have:=holdr.1;simp at this;omega
         have hnew:=hH1.newCells (w:={ w with drawn:=w.drawn+1 }) (cs:=cs.take (len*inf.size)++ys) (vs:=olds++vs++Builtin.zeroCells zv.cells (drawnCap w (len+n) cap e-(len+n))) e
          (by simp [holdl,hvl,hyl];omega)
          (fun j x v a b=>hall.2 j x v a (by
           have hj:j<(olds++vs).size:=by have:=(List.getElem?_eq_some_iff.1 a).1;have h2:=hall.1;simp at h2 this;simp;omega
           rw [Array.getElem?_append_left hj] at b
           rw [←Array.toList_append,Array.getElem?_toList];exact b))
         have hk:=hnew.1.kill (r:=r) (by simp;omega)
         have ee:(H.push (.cells (cs.take (len*inf.size)++ys))).kill r=(H.kill r).push (.cells (cs.take (len*inf.size)++ys)):=by
          have e1:H.n+1-1-r=(H.n-1-r)+1:=by omega
          simp only [Heap.push,Heap.kill,e1,List.set_cons_succ]
         rw [ee] at hk
         refine ⟨_,_,_,.inl (by simp only [Sem.run_bind,hrun,Result.andThen_ok,Sem.run_pure];rfl),?_,hk,(ext_drew (w.drawn+1)).trans hnew.2 (Nat.le_refl _),by simp⟩
         have hle:=drawnCap_le w (len+n) cap e
         have:=slice_new (F:=F) (i:=i) (H:=H) (w:={ w with drawn:=w.drawn+1 }) (vs:=olds++vs++Builtin.zeroCells zv.cells (drawnCap w (len+n) cap e-(len+n))) (t:=e)
          (len:=len+n) (cap:=drawnCap w (len+n) cap e) (esz:=inf.size) (by omega) (by
           simp only [Array.size_append,zc,holdl,hvl]
           rw [←Nat.add_mul,←Nat.add_mul]
           exact Nat.mul_le_mul_right _ (by omega))
         simpa using this
       ·cases h
      ·cases h
     ·cases h
    ·cases h
   ·cases h
  ·cases h
 ·cases h
end
end Go.Abs
end
noncomputable section
namespace Go.Abs
def alen (P:Program) (t:TypeId) (x:AV):Option AV:=
 match P.underlying t with
 | some .string=>match x with
  | .string s=>some (.int .i64 s.data.toList.length)
  | _=>none
 | some (.array n _)=>some (.int .i64 n)
 | some (.slice _)=>match x with
  | .nilslice=>some (.int .i64 0)
  | .slice _ _ n _=>some (.int .i64 n)
  | .list n _=>some (.int .i64 n)
  | .nl n _=>some (.int .i64 n)
  | _=>none
 | some (.pointer a)=>match P.underlying a with
  | some (.array n _)=>some (.int .i64 n)
  | _=>none
 | _=>none
def amax2 (x y:AV):Option AV:=
 match x,y with
 | .int k a,.int _ b=>some (.int k (if b>a then b else a))
 | .flo k (some a),.flo _ (some b)=>match k.format.order a b with
  | some .lt=>some (.float k b)
  | some .gt=>some (.float k a)
  | some .eq=>some (.float k (if (k.decode a).neg then b else a))
  | none=>none
 | _,_=>none
def amin2 (x y:AV):Option AV:=
 match x,y with
 | .int k a,.int _ b=>some (.int k (if b<a then b else a))
 | .flo k (some a),.flo _ (some b)=>match k.format.order a b with
  | some .lt=>some (.float k a)
  | some .gt=>some (.float k b)
  | some .eq=>some (.float k (if (k.decode a).neg then a else b))
  | none=>none
 | _,_=>none
def afold (f:AV->AV->Option AV):AV->List AV->Option AV
 | x,[]=>some x
 | x,y::ys=>match f x y with
  | some z=>afold f z ys
  | none=>none
def aunary (op:UnOp) (x:AV):Option AV:=
 match op,x with
 | .neg,.int k n=>some (.int k (k.wrap (0-n)))
 | .xor,.int k n=>some (.int k (bits .xor k (if k.signed then -1 else k.max) n))
 | .neg,.flo k (some b)=>some (.float k (Op.negFloat k b))
 | .not,.bool b=>some (.bool !b)
 | _,_=>none
def abytes (cs:List AV):Option (List UInt8):=
 match cs with
 | []=>some []
 | .int .u8 n::cs=>match abytes cs with
  | some l=>some (UInt8.ofNat n.toNat::l)
  | none=>none
 | _=>none
def isStr:AV->Bool
 | .string _=>true
 | _=>false
def aconvert (P:Program) (H:Heap) (src dst:TypeId) (x:AV):Option AV:=
 match P.underlying src,P.underlying dst with
 | some s,some d=>
  match d with
  | .int k=>match x with
   | .int _ n=>some (.int k (k.wrap n))
   | .flo s (some b)=>match floatToIntVal s b k with
    | some n=>some (.int k n)
    | none=>none
   | _=>none
  | .float k=>match x with
   | .int _ n=>some (.float k (k.nearest n))
   | .flo s (some b)=>if s=k then some (.float k b) else match s.decode b with
    | .number g m e=>if (k.decode (k.encode (.number g m e))).isInfinity then none else some (.float k (k.encode (.number g m e)))
    | _=>none
   | _=>none
  | .string=>match s with
   | .string=>match x with
    | .string b=>some (.string b)
    | _=>none
   | .slice e=>match P.underlying e with
    | some (.int .u8)=>if isStr x then none else match acellsOf H 1 x with
     | some (_,cs)=>match abytes cs with
      | some l=>some (.string ⟨l.toArray⟩)
      | none=>none
     | none=>none
    | _=>none
   | _=>none
  | _=>none
 | _,_=>none
def aiface (P:Program) (t:TypeId) (x:AV):Option AV:=
 match P.underlying t with
 | some (.interface _)=>none
 | some _=>some (.iface t x)
 | none=>none
def anilCheck (x:AV):Option AV:=
 match x with
 | .ptr _ _ | .cptr _ _ | .func _ _ _ | .yield _ | .slice _ _ _ _=>some x
 | _=>none
def aextract (x:AV) (k:Nat):Option AV:=
 match x with
 | .tuple vs=>vs[k]?
 | _=>none
section
variable {P : Program} {F G : Nat → Prop} {i : Nat → Nat} {H : Heap} {w : World}
theorem copy_does (hH:HRel F G i H w.heap) {dT ty:TypeId} {rest:List TypeId} {d s y:AV} {H':Heap} {dv sv:Value} (hd:VRel ⟨F,w.heap,i,H.n⟩ d dv) (hs:VRel ⟨F,w.heap,i,H.n⟩ s sv)
  (h:acopy P H dT d s=some (y,H')):Does P (do pure (.value (←Builtin.copy_ (dT::rest).toArray ty #[dv,sv]))) F G i H w y H':=by
 unfold acopy at h
 split at h
 ·rename_i e hu
  split at h
  ·rename_i inf hinf
   have hcell:P.cellsOf e=inf.size:=by simp [Program.cellsOf,hinf]
   split at h
   ·rename_i n ys hac
    obtain ⟨hlen,hyl,hfc⟩:=acellsOf_run (P:=P) hH hs hac
    have stuckfree:∀ base dLen dCap (vs:Array Value),dv=.slice base dLen dCap->(∀ o:Nat,(Builtin.firstCells inf.size (Nat.min n dLen) sv).run P { w with drawn:=o }=.ok vs { w with drawn:=o })->
      (Builtin.copy_ (dT::rest).toArray ty #[dv,sv]).run P w=(match base with | some a=>(storeCells a vs.toList).run P w | none=>.ok () w).andThen fun _ w'=>.ok (.int .i64 (Nat.min n dLen:Nat)) w':=by
     intro base dLen dCap vs hdv hv
     subst hdv
     simp only [Builtin.copy_,List.getElem?_toArray,List.getElem?_cons_zero,List.getElem?_cons_succ,Sem.run_bind,run_underlying hu,Result.andThen_ok,run_sizeOf w hinf,hcell,hlen]
     rw [show Sem.run P _ w=.ok vs w from hv w.drawn]
     simp only [Result.andThen_ok]
     cases base<;>simp only [Sem.run_bind,Sem.run_pure,goInt,Result.andThen_ok]
    split at h
    ·simp only [Option.some.injEq,Prod.mk.injEq] at h
     obtain ⟨rfl,rfl⟩:=h
     cases hd
     obtain ⟨vs,hvs,hr⟩:=hfc (Nat.min n 0) (Nat.min_le_left _ _)
     refine does_pure hH ⟨.int .i64 (Nat.min n 0:Nat),?_,by simpa using VRel.int (E:=⟨F,w.heap,i,H.n⟩) .i64 0⟩
     rw [stuckfree _ _ _ vs rfl hvs]
     rfl
    ·simp only [Option.some.injEq,Prod.mk.injEq] at h
     obtain ⟨rfl,rfl⟩:=h
     cases hd with
     | listNil _ cap a hc=>
      obtain ⟨vs,hvs,hr⟩:=hfc (Nat.min n 0) (Nat.min_le_left _ _)
      refine does_pure hH ⟨.int .i64 (Nat.min n 0:Nat),?_,by simpa using VRel.int (E:=⟨F,w.heap,i,H.n⟩) .i64 0⟩
      rw [stuckfree _ _ _ vs rfl hvs]
      have:vs=#[]:=by
       have:=hr.1;simp at this;exact Array.eq_empty_of_size_eq_zero this.symm
      subst this
      cases a<;>rfl
     | list _ cap _ b o vs' hc hF hm hl hv=>
      obtain ⟨vs,hvs,hr⟩:=hfc (Nat.min n 0) (Nat.min_le_left _ _)
      refine does_pure hH ⟨.int .i64 (Nat.min n 0:Nat),?_,by simpa using VRel.int (E:=⟨F,w.heap,i,H.n⟩) .i64 0⟩
      rw [stuckfree _ _ _ vs rfl hvs]
      have:vs=#[]:=by
       have:=hr.1;simp at this;exact Array.eq_empty_of_size_eq_zero this.symm
      subst this
      rfl
    ·rename_i r off len esz
     split at h
     ·rename_i cs hwrow
      have hrow:=wrowOf_row hwrow
      split at h
      ·rename_i hcnd
       obtain ⟨rfl,hle,hone⟩:=hcnd
       simp only [Option.some.injEq,Prod.mk.injEq] at h
       obtain ⟨rfl,rfl⟩:=h
       simp only [List.all_eq_true] at hone
       cases hd with
       | slice _ _ _ _ cap hr hc hb=>
        obtain ⟨vs,hvs,hrel⟩:=hfc (Nat.min n len) (Nat.min_le_left _ _)
        have hml:Nat.min n len*inf.size<=len*inf.size:=Nat.mul_le_mul_right _ (Nat.min_le_right _ _)
        obtain ⟨w',h1,h2,h3⟩:=hH.write (off:=off) hrow (wrowOf_lim hwrow) hrel hone (by rw [List.length_take];omega) P
        refine ⟨.int .i64 (Nat.min n len:Nat),w',i,.inl ?_,.int _ _,h2,h3,by simp⟩
        simp only [Sem.run_bind,stuckfree _ _ _ vs rfl hvs,h1,Result.andThen_ok,Sem.run_pure]
      ·cases h
     ·cases h
    ·cases h
   ·cases h
  ·cases h
 ·cases h
theorem clear_does (hH:HRel F G i H w.heap) {t ty:TypeId} {rest:List TypeId} {x:AV} {H':Heap} {xv:Value} (hx:VRel ⟨F,w.heap,i,H.n⟩ x xv)
  (h:aclear P H t x=some H') (hu:(P.underlying t).isSome=true):Does P (do pure (.value (←Builtin.clear_ (t::rest).toArray ty #[xv]))) F G i H w .top H':=by
 obtain ⟨d,hu⟩:=Option.isSome_iff_exists.1 hu
 unfold aclear at h
 split at h
 ·simp only [Option.some.injEq] at h;subst h
  cases hx
  refine does_pure hH ⟨.tuple #[],?_,.top _⟩
  simp only [Builtin.clear_,List.getElem?_toArray,List.getElem?_cons_zero,Sem.run_bind,run_underlying hu,Result.andThen_ok,Sem.run_pure]
 ·simp only [Option.some.injEq] at h;subst h
  have key:∀ a cap,xv=.slice a 0 cap->(Builtin.clear_ (t::rest).toArray ty #[xv]).run P w=.ok (.tuple #[]) w:=by
   intro a cap e;subst e
   cases a<;>simp only [Builtin.clear_,List.getElem?_toArray,List.getElem?_cons_zero,Sem.run_bind,run_underlying hu,Result.andThen_ok,Sem.run_pure]
  cases hx with
  | listNil _ cap a hc=>exact does_pure hH ⟨.tuple #[],key _ _ rfl,.top _⟩
  | list _ cap _ b o vs hc hF hm hl hv=>exact does_pure hH ⟨.tuple #[],key _ _ rfl,.top _⟩
 ·simp only [Option.some.injEq] at h;subst h
  cases hx with
  | slice _ _ _ _ cap hr hc hb=>
   refine does_pure hH ⟨.tuple #[],?_,.top _⟩
   simp only [Builtin.clear_,List.getElem?_toArray,List.getElem?_cons_zero,Sem.run_bind,run_underlying hu,Result.andThen_ok,Sem.run_pure]
 ·rename_i r off len esz _
  split at h
  ·rename_i e hu'
   rw [hu] at hu';cases hu'
   split at h
   ·rename_i inf z cs hinf hz hwrow
    have hrow:=wrowOf_row hwrow
    split at h
    ·rename_i hcnd
     obtain ⟨rfl,hzl,hle,hone,hlen,hne⟩:=hcnd
     simp only [Option.some.injEq] at h;subst h
     simp only [List.all_eq_true] at hone
     obtain ⟨zv,hzr,hzrel,hzk⟩:=zero_all hz
     cases hx with
     | slice _ _ _ _ cap hr hc hb=>
      have hz0:=(hzrel ⟨F,w.heap,i,H.n⟩).cells hzk
      have hzpos:0<inf.size:=by rw [←hzl];exact List.length_pos_iff.2 hne
      have hrel:=zrow_zero hz0 len inf.size hzl (by have:=Nat.mul_pos hlen hzpos;omega)
      have hone':∀ x∈zrow z.cells (len*inf.size),x.one=true:=by
       intro x hx
       simp only [zrow,List.mem_map] at hx
       obtain ⟨j,hj,rfl⟩:=hx
       have hm:j%z.cells.length<z.cells.length:=Nat.mod_lt _ (by omega)
       rw [List.getElem?_eq_getElem hm]
       exact hone _ (List.getElem_mem hm)
      obtain ⟨w',h1,h2,h3⟩:=hH.write (off:=off) hrow (wrowOf_lim hwrow) hrel hone' (by simp [zrow];exact hle) P
      refine ⟨.tuple #[],w',i,.inl ?_,.top _,h2,h3,by simp⟩
      cases len with
      | zero=>omega
      | succ len=>
       simp only [Builtin.clear_,List.getElem?_toArray,List.getElem?_cons_zero,Sem.run_bind,run_underlying hu,Result.andThen_ok,Sem.run_pure,hzr,h1]
    ·cases h
   ·cases h
  ·cases h
 ·cases h
theorem alen_run {E:Env} {t ty:TypeId} {rest:List TypeId} {x y:AV} {v:Value} (hx:VRel E x v) (h:alen P t x=some y):
  ∃ u,(Builtin.len_ (t::rest).toArray ty #[v]).run P w=.ok u w/\VRel E y u:=by
 unfold alen at h
 split at h
 ·rename_i hu
  split at h
  ·cases hx
   simp only [Option.some.injEq] at h;subst h
   exact ⟨_,by simp only [Builtin.len_,List.getElem?_toArray,List.getElem?_cons_zero,Sem.run_bind,run_underlying hu,Result.andThen_ok,Sem.run_pure,goInt]<;>rfl,.int _ _⟩
  ·cases h
 ·rename_i n e hu
  simp only [Option.some.injEq] at h;subst h
  exact ⟨_,by simp only [Builtin.len_,List.getElem?_toArray,List.getElem?_cons_zero,Sem.run_bind,run_underlying hu,Result.andThen_ok,Sem.run_pure,goInt]<;>rfl,.int _ _⟩
 ·rename_i e hu
  split at h
  ·cases hx
   simp only [Option.some.injEq] at h;subst h
   exact ⟨_,by simp only [Builtin.len_,List.getElem?_toArray,List.getElem?_cons_zero,Sem.run_bind,run_underlying hu,Result.andThen_ok,Sem.run_pure,goInt]<;>rfl,.int _ _⟩
  ·cases hx
   simp only [Option.some.injEq] at h;subst h
   exact ⟨_,by simp only [Builtin.len_,List.getElem?_toArray,List.getElem?_cons_zero,Sem.run_bind,run_underlying hu,Result.andThen_ok,Sem.run_pure,goInt]<;>rfl,.int _ _⟩
  ·simp only [Option.some.injEq] at h;subst h
   cases hx<;>exact ⟨_,by simp only [Builtin.len_,List.getElem?_toArray,List.getElem?_cons_zero,Sem.run_bind,run_underlying hu,Result.andThen_ok,Sem.run_pure,goInt]<;>rfl,.int _ _⟩
  ·simp only [Option.some.injEq] at h;subst h
   cases hx<;>exact ⟨_,by simp only [Builtin.len_,List.getElem?_toArray,List.getElem?_cons_zero,Sem.run_bind,run_underlying hu,Result.andThen_ok,Sem.run_pure,goInt]<;>rfl,.int _ _⟩
  ·cases h
 ·rename_i a hu
  split at h
  ·rename_i n e hu2
   simp only [Option.some.injEq] at h;subst h
   exact ⟨_,by simp only [Builtin.len_,List.getElem?_toArray,List.getElem?_cons_zero,Sem.run_bind,run_underlying hu,run_underlying hu2,Result.andThen_ok,Sem.run_pure,goInt]<;>rfl,.int _ _⟩
  ·cases h
 ·cases h
theorem afold_run {E:Env} {f:AV->AV->Option AV} {g:Value->Value->Sem Value} (hfg:∀ x y z v u,f x y=some z->VRel E x v->VRel E y u->∃ t,(g v u).run P w=.ok t w/\VRel E z t):
  ∀ (ys:List AV) (us:List Value) (x z:AV) (v:Value),VRels E ys us->VRel E x v->afold f x ys=some z->∃ t,(us.foldlM g v).run P w=.ok t w/\VRel E z t
 | [],[],x,z,v,_,hx,h=>by simp only [afold,Option.some.injEq] at h;subst h;exact ⟨v,rfl,hx⟩
 | [],_::_,_,_,_,h,_,_=>by simp [VRels] at h
 | _::_,[],_,_,_,h,_,_=>by simp [VRels] at h
 | y::ys,u::us,x,z,v,hs,hx,h=>by
  simp only [afold] at h
  split at h
  ·rename_i t ht
   obtain ⟨tv,h1,h2⟩:=hfg _ _ _ _ _ ht hx (hs.2 0 y u rfl rfl)
   have hss:VRels E ys us:=⟨by have:=hs.1;simpa using this,fun j a b p q=>hs.2 (j+1) a b (by simpa using p) (by simpa using q)⟩
   obtain ⟨r,h3,h4⟩:=afold_run hfg ys us t z tv hss h2 h
   exact ⟨r,by simp only [List.foldlM_cons,Sem.run_bind,h1,Result.andThen_ok,h3],h4⟩
  ·cases h
theorem amax2_run {E:Env} {x y z:AV} {v u:Value} (h:amax2 x y=some z) (hx:VRel E x v) (hy:VRel E y u):∃ t,(Builtin.max2 v u).run P w=.ok t w/\VRel E z t:=by
 unfold amax2 at h
 split at h
 ·cases hx;cases hy
  simp only [Option.some.injEq] at h;subst h
  exact ⟨_,rfl,.int _ _⟩
 ·cases hx;cases hy
  split at h<;>first
   | (cases h;done)
   | (rename_i ho;simp only [Option.some.injEq] at h;subst h;exact ⟨_,by simp only [Builtin.max2,ho];rfl,.float _ _⟩)
 ·cases h
theorem amin2_run {E:Env} {x y z:AV} {v u:Value} (h:amin2 x y=some z) (hx:VRel E x v) (hy:VRel E y u):∃ t,(Builtin.min2 v u).run P w=.ok t w/\VRel E z t:=by
 unfold amin2 at h
 split at h
 ·cases hx;cases hy
  simp only [Option.some.injEq] at h;subst h
  exact ⟨_,rfl,.int _ _⟩
 ·cases hx;cases hy
  split at h<;>first
   | (cases h;done)
   | (rename_i ho;simp only [Option.some.injEq] at h;subst h;exact ⟨_,by simp only [Builtin.min2,ho];rfl,.float _ _⟩)
 ·cases h
theorem aunary_run {E:Env} {op:UnOp} {x y:AV} {v:Value} (hx:VRel E x v) (h:aunary op x=some y):∃ u,(Op.unary op v).run P w=.ok u w/\VRel E y u:=by
 unfold aunary at h
 split at h<;>first
  | (cases h;done)
  | (cases hx;simp only [Option.some.injEq] at h;subst h;exact ⟨_,by simp only [Op.unary,Op.intArith];rfl,by constructor⟩)
theorem abytes_run {E:Env}:∀ (cs:List AV) (vs:List Value) (l:List UInt8) (acc:ByteArray),abytes cs=some l->VRels E cs vs->
  (forIn vs acc (fun c s=>do
   let .int .u8 n := c | stuck "bytesToString: byte expected"
   let s:=s.push (UInt8.ofNat n.toNat)
   do pure PUnit.unit
     pure (ForInStep.yield s)):Sem ByteArray).run P w=.ok ⟨acc.data++l.toArray⟩ w
 | [],[],l,acc,h,_=>by simp only [abytes,Option.some.injEq] at h;subst h;simp
 | [],_::_,_,_,_,h=>by simp [VRels] at h
 | _::_,[],_,_,_,h=>by simp [VRels] at h
 | c::cs,v::vs,l,acc,h,hr=>by
  have hc:=hr.2 0 c v rfl rfl
  have hs:VRels E cs vs:=⟨by have:=hr.1;simpa using this,fun j a b p q=>hr.2 (j+1) a b (by simpa using p) (by simpa using q)⟩
  unfold abytes at h
  split at h
  ·rename_i e;cases e
  ·rename_i n cs' e
   simp only [List.cons.injEq] at e
   obtain ⟨rfl,rfl⟩:=e
   split at h
   ·rename_i l' hl
    simp only [Option.some.injEq] at h;subst h
    cases hc
    rw [List.forIn_cons]
    have ih:=abytes_run cs vs l' (acc.push (UInt8.ofNat n.toNat)) hl hs
    simp only [Sem.run_bind,Sem.run_pure,Result.andThen_ok]
    rw [ih]
    congr 1
    apply ByteArray.ext
    simp [ByteArray.push]
   ·cases h
  ·cases h
end
end Go.Abs
end
noncomputable section
namespace Go.Abs
def isConst:Operand->Bool
 | .const _=>true
 | _=>false
def plainEq:AV->Bool
 | .bool _ | .nilptr | .ptr _ _ | .cptr _ _ | .nilslice | .slice _ _ _ _ | .nl _ _ | .nilmap | .map _ | .nilFunc | .func _ _ _ | .nilIface | .iface _ _ | .agg _=>true
 | _=>false
def bothNil:AV->AV->Bool
 | .nilIface,.nilIface=>true
 | _,_=>false
def bothAgg:AV->AV->Bool
 | .agg _,.agg _=>true
 | _,_=>false
def abinOp (P:Program) (op:BinOp) (t:TypeId) (cx cy:Bool) (x y:AV):Option AV:=
 match op,x,y with
 | .shl,.int k a,.int _ b=>ashift .shl k a b
 | .shr,.int k a,.int _ b=>ashift .shr k a b
 | op,.int k a,.int k' b=>if k=k' then aint op k a b else none
 | op,.flo k (some a),.flo k' (some b)=>if k=k' then aflo op k a b else none
 | op,.flo k none,.flo k' (some _)=>if k=k' then aflonan op k else none
 | op,.flo k (some _),.flo k' none=>if k=k' then aflonan op k else none
 | op,.flo k none,.flo k' none=>if k=k' then aflonan op k else none
 | op,.string a,.string b=>astr op a b
 | op,x,y=>
  if plainEq x&&plainEq y&&!(bothNil x y&&!(cx||cy))&&!(bothAgg x y&&P.eqGuardType P.depth t) then
   match op,aeq P 64 t x y with
   | .eql,some r=>some (.bool r)
   | .neq,some r=>some (.bool !r)
   | _,_=>none
  else none
section
variable {P : Program} {F G : Nat → Prop} {i : Nat → Nat} {H : Heap} {w : World}
theorem eq_run {E:Env} {t:TypeId} {x y:AV} {v u:Value} {b:Bool} (h:aeq P 64 t x y=some b) (hx:VRel E x v) (hy:VRel E y u) (w:World):(Op.equal t v u).run P w=.ok b w:=
 aeq_run 64 10000 (by omega) w t x y v u b h hx hy
theorem eqGuard_num {op:BinOp} {t:TypeId} {a b:Operand} {v u:Value} (h:∀ x,v≠.agg x) (h2:v≠.nilIface):eqGuard op t a b v u=pure ():=by
 cases op<;>first
  | rfl
  | (unfold eqGuard;cases v<;>first | rfl | exact absurd rfl (h _) | exact absurd rfl h2)
inductive PlainV:AV->Value->Prop
 | bool (b):PlainV (.bool b) (.bool b)
 | ptr (x:AV) (a) (h1:∀ c,x≠.agg c) (h2:x≠.nilIface):PlainV x (.pointer a)
 | slice (x:AV) (a n c) (h1:∀ c,x≠.agg c) (h2:x≠.nilIface):PlainV x (.slice a n c)
 | map (x:AV) (r) (h1:∀ c,x≠.agg c) (h2:x≠.nilIface):PlainV x (.map r)
 | func (x:AV) (f a b) (h1:∀ c,x≠.agg c) (h2:x≠.nilIface):PlainV x (.func f a b)
 | nilFunc (x:AV) (h1:∀ c,x≠.agg c) (h2:x≠.nilIface):PlainV x .nilFunc
 | iface (x:AV) (t v) (h1:∀ c,x≠.agg c) (h2:x≠.nilIface):PlainV x (.iface t v)
 | nilIface:PlainV .nilIface .nilIface
 | agg (c d):PlainV (.agg c) (.agg d)
theorem plainV {E:Env} {x:AV} {v:Value} (hx:VRel E x v) (h:plainEq x=true):PlainV x v:=by
 cases hx<;>first
  | (simp [plainEq] at h;done)
  | (constructor<;>simp)
theorem bin_eq {t:TypeId} {x:AV} {v:Value} (h:PlainV x v) (u:Value) (hu:∃ y,PlainV y u):
  binOp .eql t v u=(do pure (.bool (←Op.equal t v u)))/\binOp .neq t v u=(do pure (.bool (!(←Op.equal t v u)))):=by
 obtain ⟨y,hu⟩:=hu
 cases h<;>cases hu<;>exact ⟨rfl,rfl⟩
theorem eqGuard_run {t:TypeId} {cx cy:Operand} {x y:AV} {v u:Value} (hx:PlainV x v) (hy:PlainV y u) (h1:(bothNil x y&&!(isConst cx||isConst cy))=false)
  (h2:(bothAgg x y&&P.eqGuardType P.depth t)=false) (op:BinOp) (w:World):(eqGuard op t cx cy v u).run P w=.ok () w:=by
 cases hx with
 | nilIface=>
  cases hy with
  | nilIface=>
   have hc:(isConst cx||isConst cy)=true:=by
    cases hcc:(isConst cx||isConst cy) with
    | true=>rfl
    | false=>rw [hcc] at h1;simp [bothNil] at h1
   cases op<;>cases cx<;>cases cy<;>first | rfl | simp [isConst] at hc
  | _=>cases op<;>rfl
 | agg c d=>
  cases hy with
  | agg c' d'=>
   have hg:P.eqGuardType P.depth t=false:=by simpa [bothAgg] using h2
   exact run_eqGuard_agg w op t cx cy d d' hg
  | _=>cases op<;>rfl
 | _=>cases op<;>first | rfl | (cases hy<;>rfl)
theorem abinOp_run {op:BinOp} {t:TypeId} {cx cy:Operand} {x y z:AV} {v u:Value} {E:Env} (hx:VRel E x v) (hy:VRel E y u)
  (h:abinOp P op t (isConst cx) (isConst cy) x y=some z):Draws P (do eqGuard op t cx cy v u;binOp op t v u) E w z:=by
 have guard:∀ s:Sem Value,eqGuard op t cx cy v u=pure ()->Draws P s E w z->Draws P (do eqGuard op t cx cy v u;s) E w z:=by
  intro s hg hd
  rw [hg];exact hd
 unfold abinOp at h
 split at h
 ·cases hx;cases hy
  exact guard _ rfl (draws_same (ashift_run t h))
 ·cases hx;cases hy
  exact guard _ rfl (draws_same (ashift_run t h))
 ·cases hx;cases hy
  split at h
  ·rename_i e;subst e
   exact guard _ (eqGuard_num (by simp) (by simp)) (draws_same (aint_run t h))
  ·cases h
 ·cases hx;cases hy
  split at h
  ·rename_i e;subst e
   exact guard _ (eqGuard_num (by simp) (by simp)) (aflo_run t h)
  ·cases h
 ·cases hx;cases hy
  rename_i hn
  split at h
  ·rename_i e;subst e
   exact guard _ (eqGuard_num (by simp) (by simp)) (aflonan_run t h (.inl hn))
  ·cases h
 ·cases hx;cases hy
  rename_i hn
  split at h
  ·rename_i e;subst e
   exact guard _ (eqGuard_num (by simp) (by simp)) (aflonan_run t h (.inr hn))
  ·cases h
 ·cases hx;cases hy
  rename_i hn _ _
  split at h
  ·rename_i e;subst e
   exact guard _ (eqGuard_num (by simp) (by simp)) (aflonan_run t h (.inl hn))
  ·cases h
 ·cases hx;cases hy
  exact guard _ (eqGuard_num (by simp) (by simp)) (draws_same (astr_run t h))
 ·split at h
  ·rename_i hc
   simp only [Bool.and_eq_true,Bool.not_eq_true'] at hc
   obtain ⟨⟨⟨h1,h2⟩,h3⟩,h4⟩:=hc
   have px:=plainV hx h1
   have py:=plainV hy h2
   have hg:=eqGuard_run (P:=P) (t:=t) px py h3 h4
   have hb:=bin_eq (t:=t) px u ⟨_,py⟩
   cases hr:aeq P 64 t x y with
   | none=>rw [hr] at h;cases op<;>simp at h
   | some r=>
   rw [hr] at h
   cases op<;>simp only [reduceCtorEq] at h
   ·simp only [Option.some.injEq] at h;subst h
    refine draws_same ⟨.bool r,?_,.bool _⟩
    simp only [Sem.run_bind,hg,Result.andThen_ok,hb.1,eq_run hr hx hy,Sem.run_pure]
   ·simp only [Option.some.injEq] at h;subst h
    refine draws_same ⟨.bool !r,?_,.bool _⟩
    simp only [Sem.run_bind,hg,Result.andThen_ok,hb.2,eq_run hr hx hy,Sem.run_pure]
  ·cases h
end
end Go.Abs
end
noncomputable section
namespace Go.Abs
section
variable {P : Program} {F G : Nat → Prop} {i : Nat → Nat} {H : Heap} {w : World}
theorem bytesToString_run (hH:HRel F G i H w.heap) {x:AV} {v:Value} {n:Nat} {cs:List AV} {l:List UInt8} (hx:VRel ⟨F,w.heap,i,H.n⟩ x v) (hs:∀ s,v≠.string s)
  (h:acellsOf H 1 x=some (n,cs)) (hb:abytes cs=some l):(Conv.bytesToString v).run P w=.ok (.string ⟨l.toArray⟩) w:=by
 obtain ⟨hlen,hcl,hfc⟩:=acellsOf_run (P:=P) hH hx h
 obtain ⟨vs,hv,hr⟩:=hfc n (Nat.le_refl _)
 rw [List.take_of_length_le (by omega)] at hr
 have hv:(Builtin.firstCells 1 n v).run P w=.ok vs w:=hv w.drawn
 have hby:=abytes_run (P:=P) (w:=w) cs vs.toList l .empty hb hr
 cases v with
 | string s=>exact absurd rfl (hs s)
 | slice a len cap=>
  simp only [Builtin.lenOf,Sem.run_pure,Result.ok.injEq] at hlen
  obtain ⟨rfl,_⟩:=hlen
  cases a with
  | none=>
   simp only [Builtin.firstCells,Sem.run_pure,Result.ok.injEq] at hv
   obtain ⟨rfl,_⟩:=hv
   have:cs=[]:=by have:=hr.1;simpa using this
   subst this
   simp only [abytes,Option.some.injEq] at hb;subst hb
   rfl
  | some a=>
   simp only [Builtin.firstCells,Nat.mul_one] at hv
   simp only [Conv.bytesToString,Sem.run_bind,hv,Result.andThen_ok]
   rw [←Array.forIn_toList]
   have e:(⟨l.toArray⟩:ByteArray)=⟨ByteArray.empty.data++l.toArray⟩:=by
    apply ByteArray.ext;simp
   rw [e]
   exact congrArg (fun r=>Result.andThen r fun a w'=>Sem.run P (Pure.pure (Value.string a)) w') hby
 | _=>simp [Builtin.lenOf] at hlen
theorem aconvert_run (hH:HRel F G i H w.heap) {src dst:TypeId} {x y:AV} {v:Value} (hx:VRel ⟨F,w.heap,i,H.n⟩ x v) (h:aconvert P H src dst x=some y):
  ∃ u,(convert src dst v).run P w=.ok u w/\VRel ⟨F,w.heap,i,H.n⟩ y u:=by
 unfold aconvert at h
 split at h
 ·rename_i s d hs hd
  split at h
  ·rename_i k
   split at h
   ·cases hx
    simp only [Option.some.injEq] at h;subst h
    exact ⟨_,by simp only [convert,Sem.run_bind,run_underlying hs,run_underlying hd,Result.andThen_ok,Conv.intToInt];rfl,.int _ _⟩
   ·cases hx
    split at h
    ·rename_i n hn
     simp only [Option.some.injEq] at h;subst h
     exact ⟨_,run_convert_float_int w src dst _ k _ n (by simp [hs]) hd hn,.int _ _⟩
    ·cases h
   ·cases h
  ·rename_i k
   split at h
   ·cases hx
    simp only [Option.some.injEq] at h;subst h
    exact ⟨_,by simp only [convert,Sem.run_bind,run_underlying hs,run_underlying hd,Result.andThen_ok,Conv.intToFloat];rfl,.float _ _⟩
   ·rename_i g b
    cases hx
    split at h
    ·rename_i e;subst e
     simp only [Option.some.injEq] at h;subst h
     exact ⟨_,by simp only [convert,Sem.run_bind,run_underlying hs,run_underlying hd,Result.andThen_ok,Conv.floatToFloat,if_true];rfl,.float _ _⟩
    ·rename_i hne
     split at h
     ·rename_i g2 m e hdec
      split at h
      ·cases h
      ·rename_i hinf
       simp only [Option.some.injEq] at h;subst h
       refine ⟨_,?_,.float _ _⟩
       simp only [convert,Sem.run_bind,run_underlying hs,run_underlying hd,Result.andThen_ok,Conv.floatToFloat]
       rw [if_neg hne]
       simp only [hdec]
       rw [if_neg hinf]
       rfl
     ·cases h
   ·cases h
  ·split at h
   ·split at h
    ·cases hx
     simp only [Option.some.injEq] at h;subst h
     exact ⟨_,by simp only [convert,Sem.run_bind,run_underlying hs,run_underlying hd,Result.andThen_ok];rfl,.string _⟩
    ·cases h
   ·rename_i e
    split at h
    ·rename_i he
     split at h
     ·cases h
     ·rename_i hstr
      split at h
      ·rename_i n cs hc
       split at h
       ·rename_i l hl
        simp only [Option.some.injEq] at h;subst h
        have hns:∀ s,v≠.string s:=by
         rintro s rfl
         cases hx with
         | top=>simp [acellsOf] at hc
         | string=>simp [isStr] at hstr
        have hni:∀ k n,v≠.int k n:=by
         rintro k n rfl
         cases hx<;>simp [acellsOf] at hc
        have hrun:=bytesToString_run (P:=P) hH hx hns hc hl
        refine ⟨_,?_,.string _⟩
        simp only [convert,Sem.run_bind,run_underlying hs,run_underlying hd,Result.andThen_ok]
        cases v<;>first
         | exact absurd rfl (hns _)
         | exact absurd rfl (hni _ _)
         | (simp only [Sem.run_bind,run_underlying he,Result.andThen_ok,hrun])
       ·cases h
      ·cases h
    ·cases h
   ·cases h
  ·cases h
 ·cases h
end
end Go.Abs
end
noncomputable section
namespace Go.Abs
def akeyFs (f:TypeId->AV->Bool) (P:Program) (cs:List AV):List Field->Bool
 | []=>true
 | fd :: fs => (fd.name == "_" || (match apart P fd.type cs fd.offset with
  | some x=>f fd.type x
  | none=>false))&&akeyFs f P cs fs
def akey (P:Program):Nat->TypeId->AV->Bool
 | 0,_,_=>false
 | d+1,t,x=>match P.underlying t with
  | some (.int _) | some .bool | some .string | some (.float _)=>true
  | some (.struct fs)=>match x with
   | .agg cs=>akeyFs (akey P d) P cs fs.toList
   | _=>false
  | some (.array n e)=>match x,P.info? e with
   | .agg cs,some i=>(List.range n).all fun j=>match apart P e cs (j*i.size) with
    | some y=>akey P d e y
    | none=>false
   | _,_=>false
  | _=>false
def asameKey:Nat->AV->AV->Bool
 | _,.bool a,.bool b=>a==b
 | _,.int j a,.int k b=>j==k&&a==b
 | _,.flo j (some a),.flo k (some b)=>j==k&&a==b
 | _,.string a,.string b=>a.data.toList==b.data.toList
 | n+1,.agg a,.agg b=>a.length==b.length&&all n a b
 | _,_,_=>false
 where all (n:Nat):List AV->List AV->Bool
 | [],[]=>true
 | x::xs,y::ys=>asameKey n x y&&all n xs ys
 | _,_=>false
def afindKey (P:Program) (kt:TypeId) (k:AV):List (AV × AV × Nat)->Nat->Option (Option (Nat × AV))
 | [],_=>some none
 | e::es,i=>match aeq P 64 kt k e.1 with
  | some true=>some (some (i,e.2.1))
  | some false=>afindKey P kt k es (i+1)
  | none=>none
def amapRow (H:Heap):AV->Option (List (AV × AV × Nat))
 | .nilmap=>some []
 | .map r=>match H.get r with
  | some (.map es _)=>some es
  | _=>none
 | _=>none
def alookup (P:Program) (H:Heap) (t:TypeId) (x k:AV) (ok:Bool):Option AV:=
 match P.underlying t with
 | some (.map kt e)=>match amapRow H x with
  | some es=>match akey P 64 kt k with
   | true=>match afindKey P kt k es 0 with
    | some (some (_,v))=>some (if ok=true then .tuple [v,.bool true] else v)
    | some none=>match zeroOf P e with
     | some z=>some (if ok=true then .tuple [z,.bool false] else z)
     | none=>none
    | none=>none
   | false=>none
  | none=>none
 | _=>none
def amapUpdate (P:Program) (H:Heap) (t:TypeId) (m k v:AV):Option Heap:=
 match P.underlying t with
 | some (.map kt _)=>match m with
  | .map r=>match H.get r with
   | some (.map es clock)=>match akey P 64 kt k&&decide (H.lim<=r) with
    | true=>match afindKey P kt k es 0 with
     | some (some (i,_))=>match es[i]? with
      | some e=>match asameKey 64 e.1 k with
       | true=>some (H.upd r (.map (es.set i (k,v,e.2.2)) clock))
       | false=>none
      | none=>none
     | some none=>some (H.upd r (.map (es++[(k,v,clock)]) (clock+1)))
     | none=>none
    | false=>none
   | _=>none
  | _=>none
 | _=>none
def amapEntry (P:Program) (H:Heap) (t:TypeId) (m k:AV):Option (AV × Heap):=
 match P.underlying t with
 | some (.map kt el)=>match m with
  | .map r=>match H.get r with
   | some (.map es clock)=>match akey P 64 kt k&&decide (H.lim<=r) with
    | true=>match afindKey P kt k es 0 with
     | some (some (i,v))=>match es[i]? with
      | some e=>match asameKey 64 e.1 k with
       | true=>some (.tuple [v,.int .i64 e.2.2],H.upd r (.map (es.set i (k,e.2.1,e.2.2)) clock))
       | false=>none
      | none=>none
     | some none=>match zeroOf P el with
      | some z=>some (.tuple [z,.int .i64 clock],H.upd r (.map (es++[(k,z,clock)]) (clock+1)))
      | none=>none
     | none=>none
    | false=>none
   | _=>none
  | _=>none
 | _=>none
def abornAt (b:Int):List (AV × AV × Nat)->Nat->Option Nat
 | [],_=>none
 | e::es,i=>if (e.2.2:Int)=b then some i else abornAt b es (i+1)
def aentryStore (H:Heap) (m s v:AV):Option Heap:=
 match m,s with
 | .map r,.int _ b=>match H.get r with
  | some (.map es clock)=>match decide (H.lim<=r) with
   | true=>match abornAt b es 0 with
    | some i=>match es[i]? with
     | some e=>some (H.upd r (.map (es.set i (e.1,v,e.2.2)) clock))
     | none=>none
    | none=>none
   | false=>none
  | _=>none
 | _,_=>none
def isInt:Option AV->Bool
 | some (.int _ _)=>true
 | none=>true
 | _=>false
def amakeMap (P:Program) (H:Heap) (t:TypeId) (hint:Option AV):Option (AV × Heap):=
 match P.underlying t,isInt hint with
 | some (.map _ _),true=>some (.map H.n,H.push (.map [] 0))
 | _,_=>none
section
variable {P : Program} {F G : Nat → Prop} {i : Nat → Nat} {H : Heap} {w : World} {E : Env}
theorem akeyFs_run {f:TypeId->AV->Bool} {n:Nat} {e:Bool} (hf:∀ (t:TypeId) (x:AV) (v:Value),f t x=true->VRel E x v->(Instr.checkKey e n t v).run P w=.ok () w) {cs:List AV} {vs:Array Value} (hv:VRels E cs vs.toList):
  ∀ (fs:List Field),akeyFs f P cs fs=true->
   (forIn (m:=Sem) fs PUnit.unit fun fd _=>do
    if fd.name ≠ "_" then Instr.checkKey e n fd.type (← part fd.type vs fd.offset)
    pure (ForInStep.yield PUnit.unit)).run P w=.ok PUnit.unit w
 | [],h=>by simp
 | fd::fs,h=>by
  simp only [akeyFs,Bool.and_eq_true,Bool.or_eq_true,beq_iff_eq] at h
  obtain ⟨h1,h2⟩:=h
  have ih:=akeyFs_run hf hv fs h2
  rw [List.forIn_cons]
  by_cases hn : fd.name = "_"
  ·simp only [hn,ne_eq,not_true_eq_false,if_false,Sem.run_bind,Sem.run_pure,Result.andThen_ok]
   exact ih
  ·rcases h1 with h1 | h1
   ·exact absurd h1 hn
   ·split at h1
    ·rename_i x hx
     obtain ⟨v,hp,hr⟩:=apart_run (w:=w) hx hv
     simp only [ne_eq,hn,not_false_eq_true,if_true,Sem.run_bind,hp,Result.andThen_ok,hf _ _ _ h1 hr,Sem.run_pure]
     exact ih
    ·cases h1
theorem akeyIs_run {f:TypeId->AV->Bool} {n:Nat} {b:Bool} (hf:∀ (t:TypeId) (x:AV) (v:Value),f t x=true->VRel E x v->(Instr.checkKey b n t v).run P w=.ok () w) {cs:List AV} {vs:Array Value} (hv:VRels E cs vs.toList)
  {e:TypeId} {inf:TypeInfo} (hi:P.info? e=some inf):
  ∀ (l:List Nat),(l.all fun j=>match apart P e cs (j*inf.size) with | some y=>f e y | none=>false)=true->
   (forIn (m:=Sem) l PUnit.unit fun j _=>do
    Instr.checkKey b n e (←part e vs (j*(←sizeOf e)))
    pure (ForInStep.yield PUnit.unit)).run P w=.ok PUnit.unit w
 | [],h=>by simp
 | j::l,h=>by
  simp only [List.all_cons,Bool.and_eq_true] at h
  obtain ⟨h1,h2⟩:=h
  have ih:=akeyIs_run hf hv hi l h2
  rw [List.forIn_cons]
  split at h1
  ·rename_i x hx
   obtain ⟨v,hp,hr⟩:=apart_run (w:=w) hx hv
   have hs:(sizeOf e).run P w=.ok inf.size w:=by simp [sizeOf,run_typeInfo w hi]
   simp only [Sem.run_bind,hs,Result.andThen_ok,hp,hf _ _ _ h1 hr,Sem.run_pure]
   exact ih
  ·cases h1
theorem akey_run:∀ (d D:Nat),d<=D->∀ (b:Bool) (t:TypeId) (x:AV) (v:Value),akey P d t x=true->VRel E x v->(Instr.checkKey b D t v).run P w=.ok () w
 | 0,_,_,b,t,x,v,h,_=>by simp [akey] at h
 | d+1,0,h,_,_,_,_,_,_=>by omega
 | d+1,D+1,hle,b,t,x,v,h,hx=>by
  unfold akey at h
  have plain:∀ ty,P.underlying t=some ty->(∀ a,ty≠.interface a)->(∀ n e,ty≠.array n e)->(∀ fs,ty≠.struct fs)->(Instr.checkKey b (D+1) t v).run P w=.ok () w:=by
   intro ty hu h1 h2 h3
   simp only [Instr.checkKey,Sem.run_bind,run_underlying hu,Result.andThen_ok]
   cases ty<;>first
    | exact absurd rfl (h1 _)
    | exact absurd rfl (h2 _ _)
    | exact absurd rfl (h3 _)
    | rfl
  split at h
  ·rename_i hu;exact plain _ hu (by simp) (by simp) (by simp)
  ·rename_i hu;exact plain _ hu (by simp) (by simp) (by simp)
  ·rename_i hu;exact plain _ hu (by simp) (by simp) (by simp)
  ·rename_i hu;exact plain _ hu (by simp) (by simp) (by simp)
  ·rename_i fs hu
   split at h
   ·rename_i cs
    cases hx with
    | agg _ vs hl hv=>
     have:=akeyFs_run (P:=P) (w:=w) (e:=b) (n:=D) (f:=akey P d) (fun t x v a c=>akey_run d D (by omega) b t x v a c) (cs:=cs) (vs:=vs) ⟨by simpa using hl,fun j x v h1 h2=>hv j x v h1 (by simpa using h2)⟩ fs.toList h
     simp only [Instr.checkKey,Sem.run_bind,run_underlying hu,Result.andThen_ok]
     rw [←Array.forIn_toList]
     exact (congrArg (fun r=>Result.andThen r fun _ w'=>Result.ok () w') this)
   ·cases h
  ·rename_i n e hu
   split at h
   ·rename_i cs inf hi
    cases hx with
    | agg _ vs hl hv=>
     have:=akeyIs_run (P:=P) (w:=w) (b:=b) (n:=D) (f:=akey P d) (fun t x v a c=>akey_run d D (by omega) b t x v a c) (cs:=cs) (vs:=vs) ⟨by simpa using hl,fun j x v h1 h2=>hv j x v h1 (by simpa using h2)⟩ hi (List.range n) h
     simp only [Instr.checkKey,Sem.run_bind,run_underlying hu,Result.andThen_ok]
     rw [Std.Legacy.Range.forIn_eq_forIn_range']
     have er:List.range' 0 ((n-0+1-1) / 1) 1=List.range n:=by rw [List.range_eq_range'];simp
     simp only [Std.Legacy.Range.size]
     rw [er]
     exact (congrArg (fun r=>Result.andThen r fun _ w'=>Result.ok () w') this)
   ·cases h
  ·cases h
def FoundR (E:Env):Option (Nat × AV)->Option (Nat × Value)->Prop
 | none,none=>True
 | some (i,x),some (j,v)=>i=j/\VRel E x v
 | _,_=>False
theorem findAsking_run {kt:TypeId} {k:AV} {kv:Value} (hk:VRel E k kv):∀ (es:List (AV × AV × Nat)) (es':List MapEntry) (i:Nat) (r:Option (Nat × AV)),MapOk E es es'->afindKey P kt k es i=some r->
  ∃ r',(Instr.findAsking kt kv es' i).run P w=.ok r' w/\FoundR E r r'
 | [],[],i,r,_,h=>by
  simp only [afindKey,Option.some.injEq] at h;subst h
  exact ⟨none,rfl,trivial⟩
 | [],_::_,_,_,hm,_=>by have:=hm.len;simp at this
 | _::_,[],_,_,hm,_=>by have:=hm.len;simp at this
 | e::es,e'::es',i,r,hm,h=>by
  have h0:VRel E e.1 e'.key:=hm.key 0 _ _ rfl rfl
  have h1:VRel E e.2.1 e'.val:=hm.val 0 _ _ rfl rfl
  simp only [afindKey] at h
  split at h
  ·rename_i he
   simp only [Option.some.injEq] at h;subst h
   refine ⟨some (i,e'.val),?_,rfl,h1⟩
   simp only [Instr.findAsking,Sem.run_bind,eq_run he hk h0,Result.andThen_ok,if_true,Sem.run_pure]
  ·rename_i he
   have hm':MapOk E es es':=⟨by have:=hm.len;simpa using this,fun j a b p q=>hm.key (j+1) a b (by simpa using p) (by simpa using q),fun j a b p q=>hm.val (j+1) a b (by simpa using p) (by simpa using q),fun j a b p q=>hm.born (j+1) a b (by simpa using p) (by simpa using q)⟩
   obtain ⟨r',q1,q2⟩:=findAsking_run hk es es' (i+1) r hm' h
   refine ⟨r',?_,q2⟩
   simp only [Instr.findAsking,Sem.run_bind,eq_run he hk h0,Result.andThen_ok,Bool.false_eq_true,if_false,q1]
  ·cases h
theorem bytes_beq (a b:ByteArray):(a==b)=(a.data.toList==b.data.toList):=by
 obtain ⟨a⟩:=a
 obtain ⟨b⟩:=b
 show (a==b)=(a.toList==b.toList)
 by_cases e:a=b
 ·subst e;simp
 ·have e2:¬ a.toList=b.toList:=fun h=>e (Array.toList_inj.1 h)
  have e4:(a.toList==b.toList)=false:=by simpa using e2
  have e3:(a==b)=false:=by simpa using e
  rw [e3,e4]
theorem sameNow_eq {kt:TypeId} {d:TypeDesc} {x y:AV} {v u:Value} {b c:Bool} (hu:P.underlying kt=some d) (hx:VRel E x v) (hy:VRel E y u) (h:Instr.sameNow d v u=some b) (ha:aeq P 64 kt x y=some c):b=c:=by
 unfold Instr.sameNow at h
 unfold aeq at ha
 rw [hu] at ha
 split at h
 ·split at h
  ·rename_i e;subst e
   simp only [Option.some.injEq] at h;subst h
   simp only at ha
   split at ha
   ·cases hx;cases hy;simp only [if_true,Option.some.injEq] at ha;exact ha
   ·cases ha
  ·cases h
 ·simp only [Option.some.injEq] at h;subst h
  simp only at ha
  split at ha
  ·cases hx;cases hy
   simp only [Option.some.injEq] at ha;subst ha
   exact bytes_beq _ _
  ·cases ha
 ·simp only [Option.some.injEq] at h;subst h
  simp only at ha
  split at ha
  ·cases hx;cases hy;simp only [Option.some.injEq] at ha;exact ha
  ·cases ha
 ·cases h
theorem findNow_run {kt:TypeId} {d:TypeDesc} {k:AV} {kv:Value} (hu:P.underlying kt=some d) (hk:VRel E k kv):∀ (es:List (AV × AV × Nat)) (es':List MapEntry) (i:Nat) (r:Option (Nat × AV)) (r':Option (Nat × Value)),
  MapOk E es es'->afindKey P kt k es i=some r->Instr.findNow d kv es' i=some r'->FoundR E r r'
 | [],[],i,r,r',_,h,h'=>by
  simp only [afindKey,Option.some.injEq] at h;subst h
  simp only [Instr.findNow,Option.some.injEq] at h';subst h'
  trivial
 | [],_::_,_,_,_,hm,_,_=>by have:=hm.len;simp at this
 | _::_,[],_,_,_,hm,_,_=>by have:=hm.len;simp at this
 | e::es,e'::es',i,r,r',hm,h,h'=>by
  have h0:VRel E e.1 e'.key:=hm.key 0 _ _ rfl rfl
  have h1:VRel E e.2.1 e'.val:=hm.val 0 _ _ rfl rfl
  have hm':MapOk E es es':=⟨by have:=hm.len;simpa using this,fun j a b p q=>hm.key (j+1) a b (by simpa using p) (by simpa using q),fun j a b p q=>hm.val (j+1) a b (by simpa using p) (by simpa using q),fun j a b p q=>hm.born (j+1) a b (by simpa using p) (by simpa using q)⟩
  simp only [afindKey] at h
  simp only [Instr.findNow] at h'
  split at h'
  ·rename_i hs
   simp only [Option.some.injEq] at h';subst h'
   split at h
   ·simp only [Option.some.injEq] at h;subst h;exact ⟨rfl,h1⟩
   ·rename_i he;exact absurd (sameNow_eq hu hk h0 hs he) (by decide)
   ·cases h
  ·rename_i hs
   split at h
   ·rename_i he;exact absurd (sameNow_eq hu hk h0 hs he) (by decide)
   ·exact findNow_run hu hk es es' (i+1) r r' hm' h h'
   ·cases h
  ·cases h'
theorem findKey_run {kt:TypeId} {k:AV} {kv:Value} (hu:∃ d,P.underlying kt=some d) (hk:VRel E k kv) {es:List (AV × AV × Nat)} {es':List MapEntry} {r:Option (Nat × AV)} (hm:MapOk E es es') (h:afindKey P kt k es 0=some r):
  ∃ r',(Instr.findKey kt kv es').run P w=.ok r' w/\FoundR E r r':=by
 obtain ⟨d,hu⟩:=hu
 simp only [Instr.findKey,Sem.run_bind,run_underlying hu,Result.andThen_ok]
 cases hn:Instr.findNow d kv es' 0 with
 | some r'=>exact ⟨r',rfl,findNow_run hu hk es es' 0 r r' hm h hn⟩
 | none=>exact findAsking_run hk es es' 0 r hm h
theorem akey_under {kt:TypeId} {k:AV} (h:akey P 64 kt k=true):∃ d,P.underlying kt=some d:=by
 unfold akey at h
 cases hu:P.underlying kt with
 | some d=>exact ⟨d,rfl⟩
 | none=>rw [hu] at h;cases h
theorem asameKey_run:∀ (n:Nat) (x y:AV) (v u:Value),asameKey n x y=true->VRel E x v->VRel E y u->∀ m,n<=m->Instr.sameBits m v u=true:=by
 have base:∀ (n:Nat) (x y:AV) (v u:Value),(∀ a b,x=.agg a->y=.agg b->False)->asameKey n x y=true->VRel E x v->VRel E y u->∀ m,Instr.sameBits m v u=true:=by
  intro n x y v u hna h hx hy m
  unfold asameKey at h
  split at h
  ·cases hx;cases hy;simp only [beq_iff_eq] at h;subst h;unfold Instr.sameBits;simp
  ·cases hx;cases hy;simp only [Bool.and_eq_true,beq_iff_eq] at h;obtain ⟨rfl,rfl⟩:=h;unfold Instr.sameBits;simp
  ·cases hx;cases hy;simp only [Bool.and_eq_true,beq_iff_eq] at h;obtain ⟨rfl,rfl⟩:=h;unfold Instr.sameBits;simp
  ·cases hx;cases hy
   simp only [beq_iff_eq] at h
   rename_i a b
   have:a=b:=ByteArray.ext (Array.toList_inj.1 h)
   subst this;unfold Instr.sameBits;rw [bytes_beq];simp
  ·exact (hna _ _ rfl rfl).elim
  ·cases h
 intro n
 induction n with
 | zero=>
  intro x y v u h hx hy m _
  refine base 0 x y v u ?_ h hx hy m
  rintro a b rfl rfl
  simp [asameKey] at h
 | succ n ih=>
  intro x y v u h hx hy m hm
  by_cases hag:∃ a b,x=.agg a/\y=.agg b
  ·obtain ⟨a,b,rfl,rfl⟩:=hag
   obtain ⟨m,rfl⟩:∃ m',m=m' + 1:=⟨m-1,by omega⟩
   cases hx with
   | agg _ vs hl hv=>
   cases hy with
   | agg _ us hl' hu=>
   simp only [asameKey,Bool.and_eq_true,beq_iff_eq] at h
   obtain ⟨h1,h2⟩:=h
   unfold Instr.sameBits
   simp only [Bool.and_eq_true,beq_iff_eq]
   refine ⟨by omega,?_⟩
   have key:∀ (a b:List AV) (vs us:List Value),a.length=vs.length->b.length=us.length->(∀ (j:Nat) x v,a[j]?=some x->vs[j]?=some v->VRel E x v)->(∀ (j:Nat) x v,b[j]?=some x->us[j]?=some v->VRel E x v)->
     asameKey.all n a b=true->((vs.zip us).all fun (x,y)=>Instr.sameBits m x y)=true:=by
    intro a
    induction a with
    | nil=>intro b vs us e1 _ _ _ _;have:vs=[]:=List.eq_nil_of_length_eq_zero e1.symm;subst this;rfl
    | cons x a iha=>
     intro b vs us e1 e2 hv hu h
     cases b with
     | nil=>simp [asameKey.all] at h
     | cons y b=>
      match vs,us,e1,e2 with
      | v::vs,u::us,e1,e2=>
       simp only [asameKey.all,Bool.and_eq_true] at h
       simp only [List.zip_cons_cons,List.all_cons,Bool.and_eq_true]
       exact ⟨ih x y v u h.1 (hv 0 _ _ rfl rfl) (hu 0 _ _ rfl rfl) m (by omega),iha b vs us (by simpa using e1) (by simpa using e2) (fun j x v p q=>hv (j+1) x v (by simpa using p) (by simpa using q)) (fun j x v p q=>hu (j+1) x v (by simpa using p) (by simpa using q)) h.2⟩
   exact key a b vs.toList us.toList (by simpa using hl) (by simpa using hl') (fun j x v p q=>hv j x v p (by simpa using q)) (fun j x v p q=>hu j x v p (by simpa using q)) h2
  ·exact base (n+1) x y v u (fun a b e1 e2=>hag ⟨a,b,e1,e2⟩) h hx hy m
theorem keyStays_run {x y:AV} {v u:Value} (h:asameKey 64 x y=true) (hx:VRel E x v) (hy:VRel E y u):(Instr.keyThatStays v u).run P w=.ok u w:=by
 have:=asameKey_run 64 x y v u h hx hy 10000 (by omega)
 simp only [Instr.keyThatStays,this,if_true,Sem.run_pure]
end
end Go.Abs
end
noncomputable section
namespace Go.Abs
section
variable {P : Program} {F G : Nat → Prop} {i : Nat → Nat} {H : Heap} {w : World}
theorem get_map {r:Nat} {b:Nat} {es:Array MapEntry} {clock:Nat} (h:w.heap[b]?=some (.map es clock)):(getObj b).run P w=.ok (.map es clock) w:=by
 simp [getObj,Sem.run,h]
theorem set_map {b:Nat} {es:Array MapEntry} {clock:Nat} (o:Obj) (h:w.heap[b]?=some (.map es clock)):(setObj b o).run P w=.ok () { w with heap:=w.heap.setIfInBounds b o }:=by
 simp [setObj,Sem.run,h]
theorem MapOk.nil {E:Env}:MapOk E [] []:=⟨rfl,fun j x v h=>by simp at h,fun j x v h=>by simp at h,fun j x v h=>by simp at h⟩
theorem mapRow (hH:HRel F G i H w.heap) {r:Nat} {es:List (AV × AV × Nat)} {clock:Nat} (h:H.get r=some (.map es clock)):
  ∃ es',w.heap[i r]?=some (.map es' clock)/\MapOk ⟨F,w.heap,i,H.n⟩ es es'.toList:=by
 obtain ⟨o,ho,hr⟩:=hH.row r _ h
 cases hr with
 | map _ es' _ hm=>exact ⟨es',ho,hm⟩
def lookTail (kt e:TypeId) (kv:Value) (ok:Bool) (es:Array MapEntry):Sem Value:=do
 Instr.checkKey es.isEmpty 10000 kt kv
 let (v,o)←match←Instr.findKey kt kv es.toList with
  | some (_,v)=>pure (v,true)
  | none=>pure (←zeroValue e,false)
 pure (if ok then .tuple #[v,.bool o] else v)
theorem pair_rel {E:Env} {x y:AV} {v u:Value} (hx:VRel E x v) (hy:VRel E y u):VRel E (.tuple [x,y]) (.tuple #[v,u]):=
 .tuple _ _ rfl (fun j a b h1 h2=>by
  match j with
  | 0=>simp at h1 h2;subst h1;subst h2;exact hx
  | 1=>simp at h1 h2;subst h1;subst h2;exact hy
  | j+2=>simp at h1)
theorem lookTail_run {E:Env} {kt e:TypeId} {k y:AV} {kv:Value} {ok:Bool} {es:List (AV × AV × Nat)} {es':Array MapEntry} (hk:VRel E k kv) (hm:MapOk E es es'.toList) (hkey:akey P 64 kt k=true)
  (h:(match afindKey P kt k es 0 with
    | some (some (_,v))=>some (if ok=true then .tuple [v,.bool true] else v)
    | some none=>match zeroOf P e with
     | some z=>some (if ok=true then .tuple [z,.bool false] else z)
     | none=>none
    | none=>none)=some y):∃ u,(lookTail kt e kv ok es').run P w=.ok u w/\VRel E y u:=by
 have hck:(Instr.checkKey es'.isEmpty 10000 kt kv).run P w=.ok () w:=akey_run 64 10000 (by omega) _ kt k kv hkey hk
 simp only [lookTail,Sem.run_bind,hck,Result.andThen_ok]
 split at h
 ·rename_i j v hf
  obtain ⟨r',q1,q2⟩:=findKey_run (w:=w) ⟨_,(akey_under hkey).choose_spec⟩ hk hm hf
  simp only [Option.some.injEq] at h;subst h
  match r',q2 with
  | some (j',v'),q2=>
   simp only [q1,Result.andThen_ok,Sem.run_bind,Sem.run_pure]
   cases ok with
   | true=>exact ⟨_,rfl,pair_rel q2.2 (.bool _)⟩
   | false=>exact ⟨_,rfl,by simpa using q2.2⟩
 ·rename_i hf
  split at h
  ·rename_i z hz
   obtain ⟨r',q1,q2⟩:=findKey_run (w:=w) ⟨_,(akey_under hkey).choose_spec⟩ hk hm hf
   simp only [Option.some.injEq] at h;subst h
   obtain ⟨zv,z1,z2,_⟩:=zeroOf_run hz E w
   match r',q2 with
   | none,q2=>
    simp only [q1,Result.andThen_ok,Sem.run_bind,z1,Sem.run_pure]
    cases ok with
    | true=>exact ⟨_,rfl,pair_rel z2 (.bool _)⟩
    | false=>exact ⟨_,rfl,by simpa using z2⟩
  ·cases h
 ·cases h
theorem lookup_does (hH:HRel F G i H w.heap) {t:TypeId} {x k y:AV} {xv kv:Value} {ok:Bool} (hx:VRel ⟨F,w.heap,i,H.n⟩ x xv) (hk:VRel ⟨F,w.heap,i,H.n⟩ k kv)
  (h:alookup P H t x k ok=some y):Does P (do pure (.value (←Instr.lookup t xv kv ok))) F G i H w y H:=by
 unfold alookup at h
 split at h
 ·rename_i kt e hu
  split at h
  ·rename_i es hes
   split at h
   ·rename_i hkey
    refine does_pure hH ?_
    unfold amapRow at hes
    split at hes
    ·simp only [Option.some.injEq] at hes;subst hes
     cases hx
     obtain ⟨u,h1,h2⟩:=lookTail_run (w:=w) (es':=#[]) hk MapOk.nil hkey h
     refine ⟨u,?_,h2⟩
     rw [←h1]
     simp only [Instr.lookup,lookTail,Sem.run_bind,run_underlying hu,Result.andThen_ok,Sem.run_pure]
     rfl
    ·rename_i r
     split at hes
     ·rename_i es0 clock hg
      simp only [Option.some.injEq] at hes;subst hes
      obtain ⟨es',h1,h2⟩:=mapRow hH hg
      cases hx
      obtain ⟨u,h3,h4⟩:=lookTail_run (w:=w) (es':=es') hk h2 hkey h
      refine ⟨u,?_,h4⟩
      rw [←h3]
      simp only [Instr.lookup,lookTail,Sem.run_bind,run_underlying hu,get_map (r:=0) h1,Result.andThen_ok,Sem.run_pure]
      rfl
     ·cases hes
    ·cases hes
   ·cases h
  ·cases h
 ·cases h
theorem MapOk.mono {E E':Env} (le:E.le E') {es:List (AV × AV × Nat)} {es':List MapEntry} (h:MapOk E es es'):MapOk E' es es':=
 ⟨h.len,fun j x v a b=>(h.key j x v a b).mono le,fun j x v a b=>(h.val j x v a b).mono le,h.born⟩
theorem MapOk.set {E:Env} {es:List (AV × AV × Nat)} {es':Array MapEntry} (h:MapOk E es es'.toList) (j:Nat) {k v:AV} {b:Nat} {f:MapEntry->MapEntry} (hk:∀ e',es'[j]?=some e'->VRel E k (f e').key) (hv:∀ e',es'[j]?=some e'->VRel E v (f e').val)
  (hb:∀ e',es'[j]?=some e'->b=(f e').born):MapOk E (es.set j (k,v,b)) (es'.modify j f).toList:=by
 have get:∀ (n:Nat) (x:AV × AV × Nat) (u:MapEntry),(es.set j (k,v,b))[n]?=some x->(es'.modify j f).toList[n]?=some u->(n=j/\x=(k,v,b)/\∃ e',es'[j]?=some e'/\u=f e')\/(n≠j/\es[n]?=some x/\es'.toList[n]?=some u):=by
  intro n x u h1 h2
  rw [Array.getElem?_toList,Array.getElem?_modify] at h2
  rw [List.getElem?_set] at h1
  by_cases e:j=n
  ·subst e
   rw [if_pos rfl] at h1 h2
   split at h1
   ·simp only [Option.some.injEq] at h1
    rw [Option.map_eq_some_iff] at h2
    obtain ⟨e',h3,h4⟩:=h2
    exact .inl ⟨rfl,h1.symm,e',h3,h4.symm⟩
   ·cases h1
  ·rw [if_neg e] at h1 h2
   exact .inr ⟨fun h=>e h.symm,h1,by rw [Array.getElem?_toList];exact h2⟩
 refine ⟨by simp [h.len],fun n x u h1 h2=>?_,fun n x u h1 h2=>?_,fun n x u h1 h2=>?_⟩
 ·rcases get n x u h1 h2 with ⟨_,rfl,e',h3,rfl⟩ | ⟨_,h3,h4⟩
  ·exact hk e' h3
  ·exact h.key n x u h3 h4
 ·rcases get n x u h1 h2 with ⟨_,rfl,e',h3,rfl⟩ | ⟨_,h3,h4⟩
  ·exact hv e' h3
  ·exact h.val n x u h3 h4
 ·rcases get n x u h1 h2 with ⟨_,rfl,e',h3,rfl⟩ | ⟨_,h3,h4⟩
  ·exact hb e' h3
  ·exact h.born n x u h3 h4
theorem MapOk.push {E:Env} {es:List (AV × AV × Nat)} {es':Array MapEntry} (h:MapOk E es es'.toList) {k v:AV} {e:MapEntry} (hk:VRel E k e.key) (hv:VRel E v e.val):MapOk E (es++[(k,v,e.born)]) (es'.push e).toList:=by
 have get:∀ (n:Nat) (x:AV × AV × Nat) (u:MapEntry),(es++[(k,v,e.born)])[n]?=some x->(es'.push e).toList[n]?=some u->(x=(k,v,e.born)/\u=e)\/(es[n]?=some x/\es'.toList[n]?=some u):=by
  intro n x u h1 h2
  rw [Array.toList_push] at h2
  by_cases hn:n<es.length
  ·rw [List.getElem?_append_left hn] at h1
   rw [List.getElem?_append_left (by rw [←h.len];exact hn)] at h2
   exact .inr ⟨h1,h2⟩
  ·rw [List.getElem?_append_right (by omega)] at h1
   rw [List.getElem?_append_right (by rw [←h.len];omega),←h.len] at h2
   have:n-es.length=0:=by
    have:=(List.getElem?_eq_some_iff.1 h1).1
    simp at this;omega
   rw [this] at h1 h2
   simp at h1 h2
   exact .inl ⟨h1.symm,h2.symm⟩
 refine ⟨by simp [h.len],fun n x u h1 h2=>?_,fun n x u h1 h2=>?_,fun n x u h1 h2=>?_⟩
 ·rcases get n x u h1 h2 with ⟨rfl,rfl⟩ | ⟨h3,h4⟩
  ·exact hk
  ·exact h.key n x u h3 h4
 ·rcases get n x u h1 h2 with ⟨rfl,rfl⟩ | ⟨h3,h4⟩
  ·exact hv
  ·exact h.val n x u h3 h4
 ·rcases get n x u h1 h2 with ⟨rfl,rfl⟩ | ⟨h3,h4⟩
  ·rfl
  ·exact h.born n x u h3 h4
theorem putMap (hH:HRel F G i H w.heap) {r:Nat} {es:List (AV × AV × Nat)} {clock:Nat} (hr:H.get r=some (.map es clock)) (hlim:H.lim<=r) {es2:List (AV × AV × Nat)} {es2':Array MapEntry} {clock2:Nat}
  (hm:MapOk ⟨F,w.heap,i,H.n⟩ es2 es2'.toList):∃ le:Env.le ⟨F,w.heap,i,H.n⟩ ⟨F,w.heap.setIfInBounds (i r) (.map es2' clock2),i,H.n⟩,
  HRel F G i (H.upd r (.map es2 clock2)) (w.heap.setIfInBounds (i r) (.map es2' clock2))/\Ext H.n F G i w F i { w with heap:=w.heap.setIfInBounds (i r) (.map es2' clock2) }:=by
 obtain ⟨es',ho,_⟩:=mapRow hH hr
 have hlt:i r<w.heap.size:=(Array.getElem?_eq_some_iff.1 ho).1
 have hrow:=hH.out r _ hr
 have le:Env.le ⟨F,w.heap,i,H.n⟩ ⟨F,w.heap.setIfInBounds (i r) (.map es2' clock2),i,H.n⟩:=by
  refine ⟨fun _ h=>h,fun b hb=>?_,Nat.le_refl _,fun _ _=>rfl,fun b c e z hc=>⟨c,e,z,?_,Nat.le_refl _⟩⟩
  ·show (w.heap.setIfInBounds _ _)[b]?=_
   rw [Array.getElem?_setIfInBounds,if_neg]
   rintro rfl;exact hrow.1 hb
  ·show (w.heap.setIfInBounds _ _)[b]?=_
   rw [Array.getElem?_setIfInBounds,if_neg]
   ·exact hc
   ·rintro rfl
    have hc:w.heap[i r]?=_:=hc
    rw [ho] at hc;cases hc
 obtain ⟨h1,h2⟩:=hH.put hr hlim (.map es2' clock2) (.map es2 clock2) (fun c e z hc=>by rw [ho] at hc;cases hc) (.map _ _ _ (hm.mono le))
 exact ⟨le,h1,h2⟩
theorem mapUpdate_does (hH:HRel F G i H w.heap) {t:TypeId} {m k v:AV} {mv kv vv:Value} {H':Heap} (hm:VRel ⟨F,w.heap,i,H.n⟩ m mv) (hk:VRel ⟨F,w.heap,i,H.n⟩ k kv) (hv:VRel ⟨F,w.heap,i,H.n⟩ v vv)
  (h:amapUpdate P H t m k v=some H'):Does P (do Instr.mapUpdate t mv kv vv;pure .skip) F G i H w .top H':=by
 unfold amapUpdate at h
 split at h
 ·rename_i kt el hu
  split at h
  ·rename_i r
   split at h
   ·rename_i es clock hg
    split at h
    ·rename_i hkey
     simp only [Bool.and_eq_true,decide_eq_true_eq] at hkey
     obtain ⟨hkey,hlim⟩:=hkey
     obtain ⟨es',ho,hmo⟩:=mapRow hH hg
     have hck:(Instr.checkKey false 10000 kt kv).run P w=.ok () w:=akey_run 64 10000 (by omega) _ kt k kv hkey hk
     cases hm
     split at h
     ·rename_i j x hf
      obtain ⟨r',q1,q2⟩:=findKey_run (w:=w) ⟨_,(akey_under hkey).choose_spec⟩ hk hmo hf
      split at h
      ·rename_i e he
       split at h
       ·rename_i hs
        simp only [Option.some.injEq] at h;subst h
        match r',q2 with
        | some (j',v'),q2=>
         obtain ⟨rfl,q3⟩:=q2
         have hj:j<es'.size:=by
          have:=(List.getElem?_eq_some_iff.1 he).1
          have:=hmo.len;simp at this;omega
         have he':es'[j]?=some es'[j]:=Array.getElem?_eq_getElem hj
         have hkst:(Instr.keyThatStays es'[j].key kv).run P w=.ok kv w:=keyStays_run hs (hmo.key j e _ he (by rw [Array.getElem?_toList];exact he')) hk
         have hm2:MapOk ⟨F,w.heap,i,H.n⟩ (es.set j (k,v,e.2.2)) (es'.modify j fun e=>{ e with key:=kv,val:=vv }).toList:=
          hmo.set j (fun _ _=>hk) (fun _ _=>hv) (fun e' h'=>hmo.born j e e' he (by rw [Array.getElem?_toList];exact h'))
         obtain ⟨le,h1,h2⟩:=putMap hH hg hlim hm2 (clock2:=clock)
         refine ⟨undef,_,i,.inr ⟨?_,rfl⟩,.top _,h1,h2,by simp⟩
         simp only [Instr.mapUpdate,Sem.run_bind,run_underlying hu,get_map (r:=0) ho,hck,q1,Result.andThen_ok,he',Option.map_some,Option.getD_some,hkst,set_map _ ho,Sem.run_pure]
       ·cases h
      ·cases h
     ·rename_i hf
      obtain ⟨r',q1,q2⟩:=findKey_run (w:=w) ⟨_,(akey_under hkey).choose_spec⟩ hk hmo hf
      simp only [Option.some.injEq] at h;subst h
      match r',q2 with
      | none,q2=>
       have hm2:MapOk ⟨F,w.heap,i,H.n⟩ (es++[(k,v,clock)]) (es'.push { key:=kv,val:=vv,born:=clock }).toList:=hmo.push (e:={ key:=kv,val:=vv,born:=clock }) hk hv
       obtain ⟨le,h1,h2⟩:=putMap hH hg hlim hm2 (clock2:=clock+1)
       refine ⟨undef,_,i,.inr ⟨?_,rfl⟩,.top _,h1,h2,by simp⟩
       simp only [Instr.mapUpdate,Sem.run_bind,run_underlying hu,get_map (r:=0) ho,hck,q1,Result.andThen_ok,set_map _ ho,Sem.run_pure]
     ·cases h
    ·cases h
   ·cases h
  ·cases h
 ·cases h
theorem mapEntry_does (hH:HRel F G i H w.heap) {t:TypeId} {m k y:AV} {mv kv:Value} {H':Heap} (hm:VRel ⟨F,w.heap,i,H.n⟩ m mv) (hk:VRel ⟨F,w.heap,i,H.n⟩ k kv)
  (h:amapEntry P H t m k=some (y,H')):Does P (do pure (.value (←Instr.mapEntry t mv kv))) F G i H w y H':=by
 unfold amapEntry at h
 split at h
 ·rename_i kt el hu
  split at h
  ·rename_i r
   split at h
   ·rename_i es clock hg
    split at h
    ·rename_i hkey
     simp only [Bool.and_eq_true,decide_eq_true_eq] at hkey
     obtain ⟨hkey,hlim⟩:=hkey
     obtain ⟨es',ho,hmo⟩:=mapRow hH hg
     have hck:(Instr.checkKey false 10000 kt kv).run P w=.ok () w:=akey_run 64 10000 (by omega) _ kt k kv hkey hk
     cases hm
     split at h
     ·rename_i j x hf
      obtain ⟨r',q1,q2⟩:=findKey_run (w:=w) ⟨_,(akey_under hkey).choose_spec⟩ hk hmo hf
      split at h
      ·rename_i e he
       split at h
       ·rename_i hs
        simp only [Option.some.injEq,Prod.mk.injEq] at h
        obtain ⟨rfl,rfl⟩:=h
        match r',q2 with
        | some (j',v'),q2=>
         obtain ⟨rfl,q3⟩:=q2
         have hj:j<es'.size:=by
          have:=(List.getElem?_eq_some_iff.1 he).1
          have:=hmo.len;simp at this;omega
         have he':es'[j]?=some es'[j]:=Array.getElem?_eq_getElem hj
         have hel:es'.toList[j]?=some es'[j]:=by rw [Array.getElem?_toList];exact he'
         have hkst:(Instr.keyThatStays es'[j].key kv).run P w=.ok kv w:=keyStays_run hs (hmo.key j e _ he hel) hk
         have hm2:MapOk ⟨F,w.heap,i,H.n⟩ (es.set j (k,e.2.1,e.2.2)) (es'.modify j fun e=>{ e with key:=kv }).toList:=
          hmo.set j (fun _ _=>hk) (fun e' h'=>hmo.val j e e' he (by rw [Array.getElem?_toList];exact h')) (fun e' h'=>hmo.born j e e' he (by rw [Array.getElem?_toList];exact h'))
         obtain ⟨le,h1,h2⟩:=putMap hH hg hlim hm2 (clock2:=clock)
         refine ⟨_,_,i,.inl ?_,pair_rel (q3.mono le) (u:=.int .i64 es'[j].born) ?_,h1,h2,by simp⟩
         ·simp only [Instr.mapEntry,Sem.run_bind,run_underlying hu,get_map (r:=0) ho,hck,q1,Result.andThen_ok,he',Option.map_some,Option.getD_some,hkst,set_map _ ho,Sem.run_pure,goInt]
         ·rw [hmo.born j e _ he hel];exact .int _ _
       ·cases h
      ·cases h
     ·rename_i hf
      obtain ⟨r',q1,q2⟩:=findKey_run (w:=w) ⟨_,(akey_under hkey).choose_spec⟩ hk hmo hf
      split at h
      ·rename_i z hz
       simp only [Option.some.injEq,Prod.mk.injEq] at h
       obtain ⟨rfl,rfl⟩:=h
       obtain ⟨zv,z1,z2,_⟩:=zeroOf_run hz ⟨F,w.heap,i,H.n⟩ w
       match r',q2 with
       | none,q2=>
        have hm2:MapOk ⟨F,w.heap,i,H.n⟩ (es++[(k,z,clock)]) (es'.push { key:=kv,val:=zv,born:=clock }).toList:=hmo.push (e:={ key:=kv,val:=zv,born:=clock }) hk z2
        obtain ⟨le,h1,h2⟩:=putMap hH hg hlim hm2 (clock2:=clock+1)
        refine ⟨_,_,i,.inl ?_,pair_rel (z2.mono le) (.int .i64 clock),h1,h2,by simp⟩
        simp only [Instr.mapEntry,Sem.run_bind,run_underlying hu,get_map (r:=0) ho,hck,q1,Result.andThen_ok,z1,set_map _ ho,Sem.run_pure,goInt]
      ·cases h
     ·cases h
    ·cases h
   ·cases h
  ·cases h
 ·cases h
theorem born_find:∀ (es:List (AV × AV × Nat)) (es':List MapEntry) (b:Int) (n j:Nat),es.length=es'.length->(∀ (j:Nat) (x:AV × AV × Nat) (v:MapEntry),es[j]?=some x->es'[j]?=some v->x.2.2=v.born)->
  abornAt b es n=some j->n<=j/\es'.findIdx? (fun e=>(e.born:Int)==b)=some (j-n)
 | [],_,b,n,j,_,_,h=>by simp [abornAt] at h
 | e::es,[],b,n,j,hl,_,_=>by simp at hl
 | e::es,e'::es',b,n,j,hl,hb,h=>by
  have h0:=hb 0 e e' rfl rfl
  simp only [abornAt] at h
  rw [List.findIdx?_cons]
  split at h
  ·rename_i he
   simp only [Option.some.injEq] at h;subst h
   rw [if_pos (by rw [←h0];simpa using he)]
   simp
  ·rename_i he
   obtain ⟨h1,h2⟩:=born_find es es' b (n+1) j (by simpa using hl) (fun j x v p q=>hb (j+1) x v (by simpa using p) (by simpa using q)) h
   rw [if_neg (by rw [←h0];simpa using he),h2]
   exact ⟨by omega,by simp;omega⟩
theorem entryStore_does (hH:HRel F G i H w.heap) {t:TypeId} {m s v:AV} {mv sv vv:Value} {H':Heap} (hm:VRel ⟨F,w.heap,i,H.n⟩ m mv) (hs:VRel ⟨F,w.heap,i,H.n⟩ s sv) (hv:VRel ⟨F,w.heap,i,H.n⟩ v vv)
  (h:aentryStore H m s v=some H'):Does P (do Instr.entryStore t mv sv vv;pure .skip) F G i H w .top H':=by
 unfold aentryStore at h
 split at h
 ·rename_i r _ b
  split at h
  ·rename_i es clock hg
   split at h
   ·rename_i hlim
    have hlim:=of_decide_eq_true hlim
    obtain ⟨es',ho,hmo⟩:=mapRow hH hg
    cases hm
    cases hs
    split at h
    ·rename_i j hf
     split at h
     ·rename_i e he
      simp only [Option.some.injEq] at h;subst h
      obtain ⟨_,hfi⟩:=born_find es es'.toList b 0 j hmo.len hmo.born hf
      have hfi':es'.findIdx? (fun e=>(e.born:Int)==b)=some j:=by
       have e:es'=es'.toList.toArray:=by simp
       rw [e,List.findIdx?_toArray];simpa using hfi
      have hm2:MapOk ⟨F,w.heap,i,H.n⟩ (es.set j (e.1,v,e.2.2)) (es'.modify j fun e=>{ e with val:=vv }).toList:=
       hmo.set j (fun e' h'=>hmo.key j e e' he (by rw [Array.getElem?_toList];exact h')) (fun _ _=>hv) (fun e' h'=>hmo.born j e e' he (by rw [Array.getElem?_toList];exact h'))
      obtain ⟨le,h1,h2⟩:=putMap hH hg hlim hm2 (clock2:=clock)
      refine ⟨undef,_,i,.inr ⟨?_,rfl⟩,.top _,h1,h2,by simp⟩
      simp only [Instr.entryStore,asInt,asIntOf,Sem.run_bind,get_map (r:=0) ho,Result.andThen_ok,Sem.run_pure,hfi',set_map _ ho]
     ·cases h
    ·cases h
   ·cases h
  ·cases h
 ·cases h
theorem makeMap_does (hH:HRel F G i H w.heap) {t:TypeId} {x:Option AV} {xv:Option Value} {y:AV} {H':Heap} (hx:ORel ⟨F,w.heap,i,H.n⟩ x xv) (h:amakeMap P H t x=some (y,H')):
  Does P (do pure (.value (←Instr.makeMap t xv))) F G i H w y H':=by
 unfold amakeMap at h
 split at h
 ·rename_i kt el hu hi
  simp only [Option.some.injEq,Prod.mk.injEq] at h
  obtain ⟨rfl,rfl⟩:=h
  have ext:=ext_alloc (K:=H.n) (F:=F) (G:=G) (i:=i) (w:=w) (.map #[] 0) hH.old H.n w.heap.size (Nat.le_refl _)
  have h1:=hH.alloc (.map #[] 0) (.map [] 0) (.map [] #[] 0 MapOk.nil)
  have run:(Instr.makeMap t xv).run P w=.ok (.map (some w.heap.size)) (w.alloc (.map #[] 0)):=by
   cases x with
   | none=>
    cases xv with
    | none=>simp [Instr.makeMap,newObj,Sem.run]
    | some v=>exact hx.elim
   | some x=>
    cases xv with
    | none=>exact hx.elim
    | some v=>
     have hx:VRel _ x v:=hx
     cases x<;>simp only [isInt,Bool.false_eq_true] at hi
     cases hx
     simp [Instr.makeMap,Sem.run_bind,run_underlying hu,asInt,asIntOf,newObj,Sem.run]
  refine ⟨_,_,_,.inl (by rw [Sem.run_bind,run];rfl),?_,h1,ext,by simp⟩
  have:=VRel.map (E:=⟨F,(w.alloc (.map #[] 0)).heap,put i H.n w.heap.size,H.n+1⟩) H.n (Nat.lt_succ_self _)
  simpa [put_self] using this
 ·cases h
end
end Go.Abs
end
noncomputable section
namespace Go.Abs
def anat:AV->Option Nat
 | .int _ n=>if 0<=n then some n.toNat else none
 | _=>none
def abounds3 (len:Nat) (lo:Option AV) (hi mx:AV):Option (Nat × Nat × Nat):=
 match (match lo with | none=>some 0 | some x=>anat x),anat hi,anat mx with
 | some l,some h,some m=>if l<=h/\h<=m/\m<=len then some (l,h,m) else none
 | _,_,_=>none
def aslice3 (P:Program) (t:TypeId) (x:AV) (lo:Option AV) (hi mx:AV):Option AV:=
 match P.underlying t with
 | some (.slice e)=>match P.info? e with
  | some inf=>match x with
   | .slice r off len esz=>match abounds3 len lo hi mx with
    | some (l,h,m)=>if esz=inf.size then (if l=h/\0<l then some (.list 0 []) else some (.slice r (off+l*inf.size) (h-l) inf.size)) else none
    | none=>none
   | .list len cs=>match abounds3 len lo hi mx with
    | some (l,h,m)=>if l=h then some (.list 0 []) else if len*inf.size=cs.length/\cs≠[] then some (.list (h-l) ((cs.drop (l*inf.size)).take ((h-l)*inf.size))) else none
    | none=>none
   | _=>none
  | none=>none
 | _=>none
section
variable {P : Program} {F G : Nat → Prop} {i : Nat → Nat} {H : Heap} {w : World}
theorem anat_run {E:Env} {x:AV} {v:Value} {n y:Nat} {c:BoundsCode} (hx:VRel E x v) (h:anat x=some n) (hle:n<=y):(Instr.sliceBound v y c).run P w=.ok n w:=by
 unfold anat at h
 split at h
 ·rename_i k z
  split at h
  ·rename_i hz
   simp only [Option.some.injEq] at h;subst h
   cases hx
   simp only [Instr.sliceBound,asIntOf,Sem.run_bind,Sem.run_pure,Result.andThen_ok]
   rw [if_pos (by omega)]
   rfl
  ·cases h
 ·cases h
theorem bounds3_run {E:Env} {lo:Option AV} {hi mx:AV} {lo':Option Value} {hi' mx':Value} {len cap l h m:Nat} (hlo:ORel E lo lo') (hhi:VRel E hi hi') (hmx:VRel E mx mx') (hc:len<=cap)
  (hb:abounds3 len lo hi mx=some (l,h,m)):(Instr.sliceBounds true len cap lo' (some hi') (some mx')).run P w=.ok (l,h,m) w/\l<=h/\h<=m/\m<=len:=by
 unfold abounds3 at hb
 split at hb
 ·rename_i l0 h0 m0 e1 e2 e3
  split at hb
  ·rename_i hle
   simp only [Option.some.injEq,Prod.mk.injEq] at hb
   obtain ⟨rfl,rfl,rfl⟩:=hb
   refine ⟨?_,hle⟩
   simp only [Instr.sliceBounds,Sem.run_bind,anat_run (w:=w) hmx e3 (show m0<=cap by omega),anat_run (w:=w) hhi e2 hle.2.1,Result.andThen_ok]
   cases lo with
   | none=>
    cases lo' with
    | some v=>exact hlo.elim
    | none=>
     simp only [Option.some.injEq] at e1;subst e1
     rfl
   | some x=>
    cases lo' with
    | none=>exact hlo.elim
    | some v=>
     simp only [Sem.run_bind,anat_run (w:=w) (show VRel E x v from hlo) e1 hle.1,Result.andThen_ok,Sem.run_pure]
  ·cases hb
 ·cases hb
theorem aslice3_run {t:TypeId} {x y hi mx:AV} {v hi' mx':Value} {lo:Option AV} {lo':Option Value} (hx:VRel ⟨F,w.heap,i,H.n⟩ x v)
  (hlo:ORel ⟨F,w.heap,i,H.n⟩ lo lo') (hhi:VRel ⟨F,w.heap,i,H.n⟩ hi hi') (hmx:VRel ⟨F,w.heap,i,H.n⟩ mx mx') (h:aslice3 P t x lo hi mx=some y):
  ∃ u,(Instr.sliceAt t v lo' (some hi') (some mx')).run P w=.ok u w/\VRel ⟨F,w.heap,i,H.n⟩ y u:=by
 unfold aslice3 at h
 split at h
 ·rename_i e hu
  split at h
  ·rename_i inf hinf
   have hcell:P.cellsOf e=inf.size:=by simp [Program.cellsOf,hinf]
   split at h
   ·rename_i r off len esz
    cases hx with
    | slice _ _ _ _ cap hr hc hbk=>
     split at h
     ·rename_i l k m hb
      obtain ⟨hrun,h1,h2,h3⟩:=bounds3_run (P:=P) (w:=w) hlo hhi hmx hc hb
      obtain ⟨c,e',z,hbk,hle⟩:=hbk
      split at h
      ·rename_i hez;subst hez
       refine ⟨.slice (if m=l then some ⟨i r,off,none⟩ else (some (⟨i r,off,none⟩:Addr)).map (·.add (l*inf.size))) (k-l) (m-l),?_,?_⟩
       ·simp [Instr.sliceAt,run_underlying hu,Instr.slice,hrun,run_sizeOf w hinf,hcell]
       split at h
       ·rename_i h0
        simp only [Option.some.injEq] at h;subst h
        rw [h0.1,Nat.sub_self]
        exact .listNil 0 _ _ (Nat.zero_le _)
       ·rename_i h0
        simp only [Option.some.injEq] at h;subst h
        have hb2:off+l*inf.size+(m-l)*inf.size<=c.size:=by
         rw [Nat.add_assoc,←Nat.add_mul,Nat.add_sub_cancel' (by omega)]
         have:m*inf.size<=cap*inf.size:=Nat.mul_le_mul_right _ (by omega)
         omega
        have hv:=VRel.slice (E:=⟨F,w.heap,i,H.n⟩) r (off+l*inf.size) (k-l) inf.size (m-l) hr (by omega) ⟨c,e',z,hbk,hb2⟩
        by_cases hnl:m=l
        ·have:l=0:=by
          by_cases h1:l=0
          ·exact h1
          ·exact absurd ⟨by omega,by omega⟩ h0
         subst this
         rw [if_pos hnl]
         simpa using hv
        ·rw [if_neg hnl,Option.map_some,Addr.add_lit];exact hv
      ·cases h
     ·cases h
   ·rename_i len cs
    split at h
    ·rename_i l k m hb
     have key:∀ a cap,v=.slice a len cap->len<=cap->∃ u,(Instr.sliceAt t v lo' (some hi') (some mx')).run P w=.ok u w/\u=.slice (if m=l then a else a.map (·.add (l*inf.size))) (k-l) (m-l)/\l<=k/\k<=m/\m<=len:=by
      intro a cap hv hc
      obtain ⟨hrun,h1,h2,h3⟩:=bounds3_run (P:=P) (w:=w) hlo hhi hmx hc hb
      subst hv
      exact ⟨_,by simp [Instr.sliceAt,run_underlying hu,Instr.slice,hrun,run_sizeOf w hinf,hcell],rfl,h1,h2,h3⟩
     split at h
     ·rename_i h0
      simp only [Option.some.injEq] at h;subst h
      have fin:∀ a cap,v=.slice a len cap->len<=cap->∃ u,(Instr.sliceAt t v lo' (some hi') (some mx')).run P w=.ok u w/\VRel ⟨F,w.heap,i,H.n⟩ (.list 0 []) u:=by
       intro a cap hv hc
       obtain ⟨u,hu1,rfl,_⟩:=key a cap hv hc
       exact ⟨_,hu1,by rw [h0,Nat.sub_self];exact .listNil 0 _ _ (Nat.zero_le _)⟩
      cases hx with
      | listNil _ cap a hc=>exact fin _ _ rfl hc
      | list _ cap _ b o vs hc hF hm hl hv=>exact fin _ _ rfl hc
     ·rename_i h0
      split at h
      ·rename_i hlen
       simp only [Option.some.injEq] at h;subst h
       cases hx with
       | listNil=>exact absurd rfl hlen.2
       | list _ cap _ b o vs hc hF hm hl hv=>
        obtain ⟨u,hu1,rfl,h1,h2,h3⟩:=key _ cap rfl hc
        refine ⟨_,hu1,?_⟩
        rw [if_neg (by omega),Option.map_some,Addr.add_lit]
        refine list_sub hF hm hl hv (l*inf.size) ((k-l)*inf.size) (k-l) (m-l) ?_ (by omega)
        rw [←Nat.add_mul,Nat.add_sub_cancel' (by omega),←hlen.1]
        exact Nat.mul_le_mul_right _ (by omega)
      ·cases h
    ·cases h
   ·cases h
  ·cases h
 ·cases h
end
end Go.Abs
end
noncomputable section
namespace Go.Abs
def aarrayAt (P:Program) (H:Heap) (t:TypeId) (x:AV):Option AV:=
 match P.underlying t with
 | some (.array n _)=>match x with
  | .slice r off len _=>if n<=len then some (.ptr r off) else none
  | .list len cells=>if n<=len/\0<cells.length then some (.cptr cells 0) else none
  | _=>none
 | _=>none
def abuiltin (P:Program) (H:Heap) (b:Builtin) (ts:List TypeId) (args:List AV):Option (AV × Heap):=
 match b,ts,args with
 | .append,s::x::_,[sv,xv]=>aappend P H s x sv xv
 | .len,t::_,[x]=>match alen P t x with
  | some y=>some (y,H)
  | none=>none
 | .copy,t::_,[d,s]=>acopy P H t d s
 | .clear,t::_,[x]=>if (P.underlying t).isSome then match aclear P H t x with
   | some H'=>some (.top,H')
   | none=>none
  else none
 | .max,_,x::xs=>match afold amax2 x xs with
  | some y=>some (y,H)
  | none=>none
 | .min,_,x::xs=>match afold amin2 x xs with
  | some y=>some (y,H)
  | none=>none
 | _,_,_=>none
def oev (ρ:Operand->AV):Option Operand->Option AV
 | some x=>some (ρ x)
 | none=>none
def aop (P:Program) (ρ:Operand->AV) (H:Heap) (o:Oper):Option (AV × Heap):=
 let v (x:Option AV):Option (AV × Heap):=match x with
  | some y=>some (y,H)
  | none=>none
 match o.op with
 | .move x | .assign x=>some (ρ x,H)
 | .pick c a b=>match ρ c with
  | .bool t=>some (if t then ρ a else ρ b,H)
  | _=>none
 | .alloc t=>match zeroOf P t with
  | some z=>some (.ptr H.n 0,H.push (.cells z.cells))
  | none=>none
 | .box _ x=>if (ρ x).known then some (.ptr H.n 0,H.push (.cells (ρ x).cells)) else none
 | .build t parts=>v (abuild P t (parts.toList.map fun p=>(p.1,ρ p.2)))
 | .buildSlice t n parts=>abuildSlice P H t n (parts.toList.map fun p=>(p.1,ρ p.2))
 | .load t a=>v (aload P H t (ρ a))
 | .store t a x=>match astore P H t (ρ a) (ρ x) with
  | some H'=>some (.top,H')
  | none=>none
 | .nilCheck x=>v (anilCheck (ρ x))
 | .binOp op t x y _=>v (abinOp P op t (isConst x) (isConst y) (ρ x) (ρ y))
 | .unOp op _ x=>v (aunary op (ρ x))
 | .convert s d x=>v (aconvert P H s d (ρ x))
 | .sliceToArrayPointer t x=>v (aarrayAt P H t (ρ x))
 | .makeInterface t x=>v (aiface P t (ρ x))
 | .makeFunc fn first cap=>match fn with
  | .func f=>some (.func f (first.toList.map ρ) (cap.toList.map ρ),H)
  | _=>none
 | .makeSlice t l c=>amakeSlice P H t (ρ l) (ρ c)
 | .slice t x lo hi none=>v (aslice P H t (ρ x) (oev ρ lo) (oev ρ hi))
 | .slice t x lo (some hi) (some mx)=>v (aslice3 P t (ρ x) (oev ρ lo) (ρ hi) (ρ mx))
 | .fieldAddr s x f=>v (afieldAddr P s (ρ x) f)
 | .field t x f=>v (afield P t (ρ x) f)
 | .indexAddr t x ix=>v (aindexAddr P t (ρ x) (ρ ix))
 | .index t x ix=>v (aindex P t (ρ x) (ρ ix))
 | .extract x k=>v (aextract (ρ x) k)
 | .makeMap t r=>amakeMap P H t (oev ρ r)
 | .lookup t x k ok=>v (alookup P H t (ρ x) (ρ k) ok)
 | .mapUpdate t m k x=>match amapUpdate P H t (ρ m) (ρ k) (ρ x) with
  | some H'=>some (.top,H')
  | none=>none
 | .insert t m k x=>match amapUpdate P H t (ρ m) (ρ k) (ρ x) with
  | some H'=>some (.top,H')
  | none=>none
 | .mapEntry t m k=>amapEntry P H t (ρ m) (ρ k)
 | .entryStore t m s x=>match aentryStore H (ρ m) (ρ s) (ρ x) with
  | some H'=>some (.top,H')
  | none=>none
 | .call { callee:=.builtin b,args,argTypes }=>abuiltin P H b argTypes.toList (args.toList.map ρ)
 | _=>none
section
variable {P : Program} {F G : Nat → Prop} {i : Nat → Nat} {H : Heap} {w : World}
theorem does_same (hH:HRel F G i H w.heap) {s:Sem Next} {v:Value} {x:AV} (hs:s.run P w=.ok (.value v) w) (hx:VRel ⟨F,w.heap,i,H.n⟩ x v):Does P s F G i H w x H:=
 ⟨v,w,i,.inl hs,hx,hH,Ext.refl _ _ _ _ _,Nat.le_refl _⟩
theorem map_rel {E:Env} {ρ:Operand->AV} {ρ':Operand->Value} (h:∀ x,VRel E (ρ x) (ρ' x)) (l:Array Operand):VRels E (l.toList.map ρ) (l.map ρ').toList:=by
 refine ⟨by simp,fun j x v h1 h2=>?_⟩
 rw [Array.toList_map] at h2
 simp only [List.getElem?_map,Option.map_eq_some_iff] at h1 h2
 obtain ⟨a,ha,rfl⟩:=h1
 obtain ⟨b,hb,rfl⟩:=h2
 rw [ha] at hb;cases hb
 exact h a
theorem oev_rel {E:Env} {ρ:Operand->AV} {ρ':Operand->Value} (h:∀ x,VRel E (ρ x) (ρ' x)) (o:Option Operand):ORel E (oev ρ o) (o.map ρ'):=by
 cases o with
 | none=>trivial
 | some x=>exact h x
theorem parts_rel {E:Env} {ρ:Operand->AV} {ρ':Operand->Value} (h:∀ x,VRel E (ρ x) (ρ' x)) (l:Array (Nat × Operand)):
  (l.toList.map fun p=>(p.1,ρ p.2)).length=(l.map fun (i,x)=>(i,ρ' x)).size/\
  ∀ (j:Nat) (p:Nat × AV) (q:Nat × Value),(l.toList.map fun p=>(p.1,ρ p.2))[j]?=some p->(l.map fun (i,x)=>(i,ρ' x))[j]?=some q->p.1=q.1/\VRel E p.2 q.2:=by
 refine ⟨by simp,fun j p q h1 h2=>?_⟩
 simp only [List.getElem?_map,Array.getElem?_map,Option.map_eq_some_iff] at h1 h2
 obtain ⟨a,ha,rfl⟩:=h1
 obtain ⟨b,hb,rfl⟩:=h2
 rw [Array.getElem?_toList] at ha
 rw [ha] at hb;cases hb
 exact ⟨rfl,h _⟩
theorem aarrayAt_run {E:Env} {t:TypeId} {x y:AV} {v:Value} (hx:VRel E x v) (h:aarrayAt P H t x=some y):∃ u,(Instr.arrayAt t v).run P w=.ok u w/\VRel E y u:=by
 unfold aarrayAt at h
 split at h
 ·rename_i n e hu
  split at h
  ·rename_i r off len esz
   cases hx with
   | slice _ _ _ _ cap hr hc hb=>
    split at h
    ·rename_i hn
     simp only [Option.some.injEq] at h;subst h
     exact ⟨_,by simp only [Instr.arrayAt,Sem.run_bind,run_underlying hu,Result.andThen_ok];rw [if_neg (by omega)];rfl,.ptr r off hr⟩
    ·cases h
  ·rename_i len cells
   split at h
   ·rename_i hn
    simp only [Option.some.injEq] at h;subst h
    cases hx with
    | listNil=>simp at hn
    | list _ cap _ b o vs hc hF hm hl hv=>
     refine ⟨.pointer (some ⟨b,o+0,none⟩),?_,.cptr cells 0 b o vs hF hm hl hv⟩
     simp only [Instr.arrayAt,Sem.run_bind,run_underlying hu,Result.andThen_ok];rw [if_neg (by omega)];rfl
   ·cases h
  ·cases h
 ·cases h
def nilSem (v:Value):Sem Next:=
 match v with
 | .pointer none | .nilIface | .nilFunc=>runtimePanic .nilDeref
 | .func (.method name) first captured=>
  match (first[0]?:Option Value) with
  | some .nilIface=>runtimePanic .nilDeref
  | some (.iface t w)=>do
   if (←nilAhead ((←program).types.size+Made.depth) t w name) != some false then
    unsupported (.noEntry "op/nilCheck.the method's receiver behind this interface value is a nil pointer, or cannot be seen to be none, and the arguments act or may panic (ledger 612)")
   pure (.value (.func (.method name) first captured))
  | _=>pure (.value (.func (.method name) first captured))
 | x=>pure (.value x)
theorem anilCheck_run {E:Env} {x y:AV} {v:Value} (hx:VRel E x v) (h:anilCheck x=some y):(nilSem v).run P w=.ok (.value v) w/\VRel E y v:=by
 unfold anilCheck at h
 split at h<;>first
  | (cases h;done)
  | (simp only [Option.some.injEq] at h;subst h;cases hx<;>exact ⟨rfl,by constructor<;>assumption⟩)
end
end Go.Abs
end
noncomputable section
namespace Go.Abs
section
variable {P : Program} {F G : Nat → Prop} {i : Nat → Nat} {H : Heap} {w : World}
theorem v_some {x:Option AV} {H H':Heap} {y:AV} (h:(match x with | some y=>some (y,H) | none=>none)=some (y,H')):x=some y/\H=H':=by
 cases x with
 | none=>simp at h
 | some z=>simp at h;exact ⟨by rw [h.1],h.2⟩
theorem abuiltin_does (hH:HRel F G i H w.heap) {b:Builtin} {ts:List TypeId} {xs:List AV} {vs:List Value} {ty:TypeId} {cons:Array Bool} {y:AV} {H':Heap} (hx:VRels ⟨F,w.heap,i,H.n⟩ xs vs)
  (h:abuiltin P H b ts xs=some (y,H')):Does P (builtin b ts.toArray ty cons vs.toArray) F G i H w y H':=by
 unfold abuiltin at h
 have one:∀ {x:AV},VRels ⟨F,w.heap,i,H.n⟩ [x] vs->∃ v,vs=[v]/\VRel ⟨F,w.heap,i,H.n⟩ x v:=by
  intro x hx
  match vs,hx with
  | [v],hx=>exact ⟨v,rfl,hx.2 0 x v rfl rfl⟩
  | [],hx=>simp [VRels] at hx
  | _::_::_,hx=>simp [VRels] at hx
 have two:∀ {x y:AV},VRels ⟨F,w.heap,i,H.n⟩ [x,y] vs->∃ v u,vs=[v,u]/\VRel ⟨F,w.heap,i,H.n⟩ x v/\VRel ⟨F,w.heap,i,H.n⟩ y u:=by
  intro x y hx
  match vs,hx with
  | [v,u],hx=>exact ⟨v,u,rfl,hx.2 0 x v rfl rfl,hx.2 1 y u rfl rfl⟩
  | [],hx=>simp [VRels] at hx
  | [_],hx=>simp [VRels] at hx
  | _::_::_::_,hx=>simp [VRels] at hx
 split at h
 ·obtain ⟨v,u,rfl,h1,h2⟩:=two hx
  exact append_does hH h1 h2 h
 ·obtain ⟨v,rfl,h1⟩:=one hx
  split at h
  ·rename_i y' hy
   simp only [Option.some.injEq,Prod.mk.injEq] at h
   obtain ⟨rfl,rfl⟩:=h
   exact does_pure hH (alen_run h1 hy)
  ·cases h
 ·obtain ⟨v,u,rfl,h1,h2⟩:=two hx
  exact copy_does hH h1 h2 h
 ·obtain ⟨v,rfl,h1⟩:=one hx
  split at h
  ·rename_i hu
   split at h
   ·rename_i H2 hc
    simp only [Option.some.injEq,Prod.mk.injEq] at h
    obtain ⟨rfl,rfl⟩:=h
    exact clear_does hH h1 hc hu
   ·cases h
  ·cases h
 ·rename_i x xs
  split at h
  ·rename_i y' hy
   simp only [Option.some.injEq,Prod.mk.injEq] at h
   obtain ⟨rfl,rfl⟩:=h
   match vs,hx with
   | [],hx=>simp [VRels] at hx
   | v::vs,hx=>
    have h0:=hx.2 0 x v rfl rfl
    have hs:VRels ⟨F,w.heap,i,H.n⟩ xs vs:=⟨by have:=hx.1;simpa using this,fun j a b p q=>hx.2 (j+1) a b (by simpa using p) (by simpa using q)⟩
    exact does_pure hH (s:=Builtin.max_ ts.toArray ty (v::vs).toArray) (afold_run (fun _ _ _ _ _ a b c=>amax2_run a b c) xs vs x y' v hs h0 hy)
  ·cases h
 ·rename_i x xs
  split at h
  ·rename_i y' hy
   simp only [Option.some.injEq,Prod.mk.injEq] at h
   obtain ⟨rfl,rfl⟩:=h
   match vs,hx with
   | [],hx=>simp [VRels] at hx
   | v::vs,hx=>
    have h0:=hx.2 0 x v rfl rfl
    have hs:VRels ⟨F,w.heap,i,H.n⟩ xs vs:=⟨by have:=hx.1;simpa using this,fun j a b p q=>hx.2 (j+1) a b (by simpa using p) (by simpa using q)⟩
    exact does_pure hH (s:=Builtin.min_ ts.toArray ty (v::vs).toArray) (afold_run (fun _ _ _ _ _ a b c=>amin2_run a b c) xs vs x y' v hs h0 hy)
  ·cases h
 ·cases h
theorem aop_does (hH:HRel F G i H w.heap) {ρ:Operand->AV} {ρ':Operand->Value} (hρ:∀ x,VRel ⟨F,w.heap,i,H.n⟩ (ρ x) (ρ' x)) {o:Oper} {y:AV} {H':Heap}
  (h:aop P ρ H o=some (y,H')):Does P (execOp ρ' o) F G i H w y H':=by
 unfold aop at h
 cases ho:o.op<;>simp only [ho,reduceCtorEq] at h
 case move x=>
  simp only [Option.some.injEq,Prod.mk.injEq] at h
  obtain ⟨rfl,rfl⟩:=h
  simp only [execOp,ho]
  exact does_same hH rfl (hρ x)
 case assign x=>
  simp only [Option.some.injEq,Prod.mk.injEq] at h
  obtain ⟨rfl,rfl⟩:=h
  simp only [execOp,ho]
  exact does_same hH rfl (hρ x)
 case pick c a b=>
  split at h
  ·rename_i t hc
   simp only [Option.some.injEq,Prod.mk.injEq] at h
   obtain ⟨rfl,rfl⟩:=h
   have:=hρ c
   rw [hc] at this
   simp only [execOp,ho]
   generalize hvc:ρ' c=vc at this
   cases this
   refine does_same hH (v:=if t then ρ' a else ρ' b) ?_ (by cases t<;>exact hρ _)
   simp only [asBool,Sem.run_bind,Sem.run_pure,Result.andThen_ok]
  ·cases h
 case alloc t=>
  split at h
  ·rename_i z hz
   simp only [Option.some.injEq,Prod.mk.injEq] at h
   obtain ⟨rfl,rfl⟩:=h
   simp only [execOp,ho]
   exact alloc_does hH hz
  ·cases h
 case box t x=>
  split at h
  ·rename_i hk
   simp only [Option.some.injEq,Prod.mk.injEq] at h
   obtain ⟨rfl,rfl⟩:=h
   simp only [execOp,ho]
   exact box_does hH t (hρ x) hk
  ·cases h
 case build t ps=>
  obtain ⟨k1,rfl⟩:=v_some h
  clear h
  have h:=k1
  simp only [execOp,ho]
  obtain ⟨hl,hp⟩:=parts_rel hρ ps
  exact does_pure hH (build_run h hl hp)
 case buildSlice t n ps=>
  simp only [execOp,ho]
  obtain ⟨hl,hp⟩:=parts_rel hρ ps
  exact buildSlice_does hH h hl hp
 case load t a=>
  obtain ⟨k1,rfl⟩:=v_some h
  clear h
  have h:=k1
  simp only [execOp,ho]
  exact does_pure hH (aload_run hH (hρ a) h)
 case store t a x=>
  split at h
  ·rename_i H2 hs
   simp only [Option.some.injEq,Prod.mk.injEq] at h
   obtain ⟨rfl,rfl⟩:=h
   simp only [execOp,ho]
   exact store_does hH (hρ a) (hρ x) hs
  ·cases h
 case nilCheck x=>
  obtain ⟨k1,rfl⟩:=v_some h
  clear h
  have h:=k1
  obtain ⟨h1,h2⟩:=anilCheck_run (P:=P) (w:=w) (hρ x) h
  have e:execOp ρ' o=nilSem (ρ' x):=by simp only [execOp,ho];rfl
  rw [e]
  exact does_same hH h1 h2
 case binOp op t x z yt=>
  obtain ⟨k1,rfl⟩:=v_some h
  clear h
  have h:=k1
  simp only [execOp,ho]
  exact does_draws hH (abinOp_run (hρ x) (hρ z) h)
 case unOp op t x=>
  obtain ⟨k1,rfl⟩:=v_some h
  clear h
  have h:=k1
  simp only [execOp,ho]
  exact does_pure hH (aunary_run (hρ x) h)
 case convert s d x=>
  obtain ⟨k1,rfl⟩:=v_some h
  clear h
  have h:=k1
  simp only [execOp,ho]
  exact does_pure hH (aconvert_run hH (hρ x) h)
 case sliceToArrayPointer t x=>
  obtain ⟨k1,rfl⟩:=v_some h
  clear h
  have h:=k1
  simp only [execOp,ho]
  exact does_pure hH (aarrayAt_run (hρ x) h)
 case makeInterface t x=>
  obtain ⟨k1,rfl⟩:=v_some h
  clear h
  have h:=k1
  simp only [execOp,ho]
  refine does_pure hH ?_
  unfold aiface at h
  split at h
  ·cases h
  ·rename_i d hd hu
   simp only [Option.some.injEq] at h;subst h
   refine ⟨.iface t (ρ' x),?_,.iface t _ _ (hρ x)⟩
   simp only [Instr.makeInterface,Sem.run_bind,run_underlying hu,Result.andThen_ok]
   cases d<;>first | rfl | exact absurd hu (hd _)
  ·cases h
 case makeFunc fn first cap=>
  cases fn<;>simp only [reduceCtorEq] at h
  rename_i f
  simp only [Option.some.injEq,Prod.mk.injEq] at h
  obtain ⟨rfl,rfl⟩:=h
  simp only [execOp,ho]
  have r1:=map_rel hρ first
  have r2:=map_rel hρ cap
  exact does_pure hH ⟨.func (.func f) (first.map ρ') (cap.map ρ'),rfl,.func f _ _ _ _ (by simp) (by simp) (fun j x v a b=>r1.2 j x v a (by simpa using b)) (fun j x v a b=>r2.2 j x v a (by simpa using b))⟩
 case makeSlice t l c=>
  simp only [execOp,ho]
  exact makeSlice_does hH (hρ l) (hρ c) h
 case slice t x lo hi mx=>
  cases mx with
  | some m=>
   cases hi with
   | none=>simp at h
   | some hi=>
    simp only at h
    obtain ⟨k1,rfl⟩:=v_some h
    clear h
    have h:=k1
    simp only [execOp,ho]
    exact does_pure hH (aslice3_run (hρ x) (oev_rel hρ lo) (hρ hi) (hρ m) h)
  | none=>
   simp only at h
   obtain ⟨k1,rfl⟩:=v_some h
   clear h
   have h:=k1
   simp only [execOp,ho]
   exact does_pure hH (aslice_run hH (hρ x) (oev_rel hρ lo) (oev_rel hρ hi) h)
 case fieldAddr s x f=>
  obtain ⟨k1,rfl⟩:=v_some h
  clear h
  have h:=k1
  simp only [execOp,ho]
  exact does_pure hH (afieldAddr_run (hρ x) h)
 case field t x f=>
  obtain ⟨k1,rfl⟩:=v_some h
  clear h
  have h:=k1
  simp only [execOp,ho]
  exact does_pure hH (afield_run (hρ x) h)
 case indexAddr t x ix=>
  obtain ⟨k1,rfl⟩:=v_some h
  clear h
  have h:=k1
  simp only [execOp,ho]
  exact does_pure hH (aindexAddr_run (hρ x) (hρ ix) h)
 case index t x ix=>
  obtain ⟨k1,rfl⟩:=v_some h
  clear h
  have h:=k1
  simp only [execOp,ho]
  exact does_pure hH (aindex_run (hρ x) (hρ ix) h)
 case extract x k=>
  obtain ⟨k1,rfl⟩:=v_some h
  clear h
  have h:=k1
  simp only [execOp,ho]
  refine does_pure hH ?_
  unfold aextract at h
  split at h
  ·rename_i vs hv
   have:=hρ x
   rw [hv] at this
   generalize ρ' x=u at this
   cases this with
   | tuple _ us hl hr=>
    have hk:k<us.size:=by rw [←hl];exact (List.getElem?_eq_some_iff.1 h).1
    refine ⟨us[k],?_,hr k y us[k] h (by simp [hk])⟩
    simp only [Instr.extract,Array.getElem?_eq_getElem hk]
    rfl
  ·cases h
 case makeMap t r=>
  simp only [execOp,ho]
  exact makeMap_does hH (oev_rel hρ r) h
 case lookup t x k ok=>
  obtain ⟨k1,rfl⟩:=v_some h
  clear h
  have h:=k1
  simp only [execOp,ho]
  exact lookup_does hH (hρ x) (hρ k) h
 case mapUpdate t m k x=>
  split at h
  ·rename_i H2 hs
   simp only [Option.some.injEq,Prod.mk.injEq] at h
   obtain ⟨rfl,rfl⟩:=h
   simp only [execOp,ho]
   exact mapUpdate_does hH (hρ m) (hρ k) (hρ x) hs
  ·cases h
 case insert t m k x=>
  split at h
  ·rename_i H2 hs
   simp only [Option.some.injEq,Prod.mk.injEq] at h
   obtain ⟨rfl,rfl⟩:=h
   simp only [execOp,ho]
   exact mapUpdate_does hH (hρ m) (hρ k) (hρ x) hs
  ·cases h
 case mapEntry t m k=>
  simp only [execOp,ho]
  exact mapEntry_does hH (hρ m) (hρ k) h
 case entryStore t m s x=>
  split at h
  ·rename_i H2 hs
   simp only [Option.some.injEq,Prod.mk.injEq] at h
   obtain ⟨rfl,rfl⟩:=h
   simp only [execOp,ho]
   exact entryStore_does hH (hρ m) (hρ s) (hρ x) hs
  ·cases h
 case call c=>
  obtain ⟨callee,args,ats⟩:=c
  cases callee with
  | builtin b=>
   simp only at h
   simp only [execOp,ho,resolve,pure_bind,invoke]
   exact abuiltin_does (P:=P) (ty:=o.type) hH (map_rel hρ args) h
  | value f=>simp at h
  | invoke r m=>simp at h
end
end Go.Abs
end
noncomputable section
namespace Go.Abs
inductive Turn (H:Heap):Heap->Prop
  | same:Turn H H
  | push (row:ARow):Turn H (H.push row)
  | upd (r:Nat) (row row0:ARow) (h:H.get r=some row0):Turn H (H.upd r row)
  | move (r:Nat) (row row0:ARow) (h:H.get r=some row0):Turn H ((H.kill r).push row)
structure Grow (H H':Heap):Prop where
  ok:H'.rev.length=H'.n
  n:H.n<=H'.n
  lim:H'.lim=H.lim
  live:∀ r row,r<H.n->H'.get r=some row->∃ row0,H.get r=some row0
theorem Grow.refl {H:Heap} (hok:H.rev.length=H.n):Grow H H:=⟨hok,Nat.le_refl _,rfl,fun _ row _ h=>⟨row,h⟩⟩
theorem Grow.trans {A B C:Heap} (h:Grow A B) (k:Grow B C):Grow A C where
  ok:=k.ok
  n:=Nat.le_trans h.n k.n
  lim:=k.lim.trans h.lim
  live r row hr hc:=by
    obtain ⟨row0,h0⟩:=k.live r row (Nat.lt_of_lt_of_le hr h.n) hc
    exact h.live r row0 hr h0
theorem Turn.grow {H H':Heap} (hok:H.rev.length=H.n) (h:Turn H H'):Grow H H':=by
  cases h with
  | same=>exact Grow.refl hok
  | push row=>
    refine ⟨by simp [Heap.push,hok],by simp,rfl,fun r ro hr h=>?_⟩
    rw [Heap.get_push_lt hr] at h;exact ⟨ro,h⟩
  | upd r row row0 h0=>
    refine ⟨by simp [Heap.upd,hok],by simp,rfl,fun s ro hs h=>?_⟩
    rw [Heap.get_upd hok _ (Heap.get_lt h0)] at h
    split at h
    · rename_i e;subst e;exact ⟨row0,h0⟩
    · exact ⟨ro,h⟩
  | move r row row0 h0=>
    refine ⟨by simp [Heap.push,Heap.kill,hok],by simp,rfl,fun s ro hs h=>?_⟩
    rw [Heap.get_push_lt (by simpa using hs),Heap.get_kill hok (Heap.get_lt h0)] at h
    split at h
    · cases h
    · exact ⟨ro,h⟩
theorem wrowOf_get {H:Heap} {r:Nat} {cs:List AV} (h:wrowOf H r=some cs):H.get r=some (.cells cs):=rowOf_spec (wrowOf_row h)
theorem aappend_turn {P:Program} {H H':Heap} {sT xT:TypeId} {s x y:AV} (h:aappend P H sT xT s x=some (y,H')):Turn H H':=by
  unfold aappend at h
  repeat' (split at h)
  all_goals first
    | (cases h;done)
    | (simp only [Option.some.injEq,Prod.mk.injEq] at h
       obtain ⟨rfl,rfl⟩:=h
       first
        | exact .same
        | exact .push _
        | exact .move _ _ _ (wrowOf_get (by assumption)))
theorem acopy_turn {P:Program} {H H':Heap} {t:TypeId} {d s y:AV} (h:acopy P H t d s=some (y,H')):Turn H H':=by
  unfold acopy at h
  repeat' (split at h)
  all_goals first
    | (cases h;done)
    | (simp only [Option.some.injEq,Prod.mk.injEq] at h
       obtain ⟨rfl,rfl⟩:=h
       first
        | exact .same
        | exact .upd _ _ _ (wrowOf_get (by assumption)))
theorem aclear_turn {P:Program} {H H':Heap} {t:TypeId} {x:AV} (h:aclear P H t x=some H'):Turn H H':=by
  unfold aclear at h
  repeat' (split at h)
  all_goals first
    | (cases h;done)
    | (simp only [Option.some.injEq] at h
       subst h
       first
        | exact .same
        | exact .upd _ _ _ (wrowOf_get (by assumption)))
theorem astore_turn {P:Program} {H H':Heap} {t:TypeId} {x y:AV} (h:astore P H t x y=some H'):Turn H H':=by
  unfold astore at h
  repeat' (split at h)
  all_goals first
    | (cases h;done)
    | (simp only [Option.some.injEq] at h
       subst h
       exact .upd _ _ _ (wrowOf_get (by assumption)))
theorem abuildSlice_turn {P:Program} {H H':Heap} {t:TypeId} {n:Nat} {ps:List (Nat × AV)} {y:AV} (h:abuildSlice P H t n ps=some (y,H')):Turn H H':=by
  unfold abuildSlice at h
  repeat' (split at h)
  all_goals first
    | (cases h;done)
    | (simp only [Option.map_eq_some_iff,Prod.mk.injEq] at h
       obtain ⟨_,_,rfl,rfl⟩:=h
       exact .push _)
theorem amakeSlice_turn {P:Program} {H H':Heap} {t:TypeId} {a b:AV} {y:AV} (h:amakeSlice P H t a b=some (y,H')):Turn H H':=by
  unfold amakeSlice at h
  repeat' (split at h)
  all_goals first
    | (cases h;done)
    | (simp only [Option.some.injEq,Prod.mk.injEq] at h
       obtain ⟨rfl,rfl⟩:=h
       exact .push _)
theorem abuiltin_turn {P:Program} {H H':Heap} {b:Builtin} {ts:List TypeId} {xs:List AV} {y:AV} (h:abuiltin P H b ts xs=some (y,H')):Turn H H':=by
  unfold abuiltin at h
  repeat' (split at h)
  all_goals first
    | (cases h;done)
    | exact aappend_turn h
    | exact acopy_turn h
    | (simp only [Option.some.injEq,Prod.mk.injEq] at h
       obtain ⟨_,rfl⟩:=h
       first
        | exact .same
        | exact aclear_turn (by assumption))
theorem amapUpdate_turn {P:Program} {H H':Heap} {t:TypeId} {m k v:AV} (h:amapUpdate P H t m k v=some H'):Turn H H':=by
  unfold amapUpdate at h
  repeat' (split at h)
  all_goals first
    | (cases h;done)
    | (simp only [Option.some.injEq] at h
       subst h
       exact .upd _ _ _ (by assumption))
theorem aentryStore_turn {H H':Heap} {m k v:AV} (h:aentryStore H m k v=some H'):Turn H H':=by
  unfold aentryStore at h
  repeat' (split at h)
  all_goals first
    | (cases h;done)
    | (simp only [Option.some.injEq] at h
       subst h
       exact .upd _ _ _ (by assumption))
theorem amapEntry_turn {P:Program} {H H':Heap} {t:TypeId} {m k y:AV} (h:amapEntry P H t m k=some (y,H')):Turn H H':=by
  unfold amapEntry at h
  repeat' (split at h)
  all_goals first
    | (cases h;done)
    | (simp only [Option.some.injEq,Prod.mk.injEq] at h
       obtain ⟨_,rfl⟩:=h
       exact .upd _ _ _ (by assumption))
theorem amakeMap_turn {P:Program} {H H':Heap} {t:TypeId} {x:Option AV} {y:AV} (h:amakeMap P H t x=some (y,H')):Turn H H':=by
  unfold amakeMap at h
  split at h
  · simp only [Option.some.injEq,Prod.mk.injEq] at h
    obtain ⟨_,rfl⟩:=h
    exact .push _
  · cases h
theorem aop_turn {P:Program} {ρ:Operand->AV} {H H':Heap} {o:Oper} {y:AV} (h:aop P ρ H o=some (y,H')):Turn H H':=by
  unfold aop at h
  cases ho:o.op<;>simp only [ho,reduceCtorEq] at h
  all_goals first
    | exact ((v_some h).2 ▸ Turn.same)
    | exact abuildSlice_turn h
    | exact amakeSlice_turn h
    | exact amakeMap_turn h
    | exact amapEntry_turn h
    | (repeat' (split at h)
       all_goals first
        | (cases h;done)
        | exact abuiltin_turn h
        | exact ((v_some h).2 ▸ Turn.same)
        | (simp only [Option.some.injEq,Prod.mk.injEq] at h
           obtain ⟨_,rfl⟩:=h
           first
            | exact .same
            | exact .push _
            | exact astore_turn (by assumption)
            | exact amapUpdate_turn (by assumption)
            | exact aentryStore_turn (by assumption)))
    | (simp only [Option.some.injEq,Prod.mk.injEq] at h
       obtain ⟨_,rfl⟩:=h
       exact .same)
    | skip
  case slice t x lo hi mx=>
    cases mx with
    | none=>exact (v_some h).2 ▸ Turn.same
    | some _=>cases hi with
      | none=>simp at h
      | some _=>exact (v_some h).2 ▸ Turn.same
  case call c=>
    obtain ⟨ce,args,ats⟩:=c
    cases ce with
    | builtin b=>exact abuiltin_turn h
    | _=>simp at h
def quietOp:Op->Bool
  | .move _ | .assign _ | .pick .. | .build .. | .load .. | .nilCheck _ | .binOp .. | .unOp .. | .convert .. | .sliceToArrayPointer .. | .makeInterface .. | .makeFunc .. | .slice .. | .fieldAddr .. | .field .. |
    .indexAddr .. | .index .. | .extract .. | .lookup ..=>true
  | .call { callee:=.builtin b,.. }=>match b with
    | .len | .max | .min=>true
    | _=>false
  | _=>false
theorem abuiltin_quiet {P:Program} {H H':Heap} {b:Builtin} {ts:List TypeId} {xs:List AV} {y:AV} (hq:b=.len\/b=.max\/b=.min) (h:abuiltin P H b ts xs=some (y,H')):H'=H:=by
  unfold abuiltin at h
  repeat' (split at h)
  all_goals first
    | (cases h;done)
    | (rcases hq with hq | hq | hq<;>cases hq;done)
    | (simp only [Option.some.injEq,Prod.mk.injEq] at h;exact h.2.symm)
theorem aop_quiet {P:Program} {ρ:Operand->AV} {H H':Heap} {o:Oper} {y:AV} (hq:quietOp o.op=true) (h:aop P ρ H o=some (y,H')):H'=H:=by
  unfold aop at h
  cases ho:o.op<;>simp only [ho,reduceCtorEq] at h
  all_goals rw [ho] at hq
  all_goals first
    | exact absurd (show false=true from hq) (by decide)
    | exact (v_some h).2.symm
    | (simp only [Option.some.injEq,Prod.mk.injEq] at h;exact h.2.symm)
    | skip
  case pick c a b=>
    split at h
    · simp only [Option.some.injEq,Prod.mk.injEq] at h;exact h.2.symm
    · cases h
  case makeFunc fn a b=>
    split at h
    · simp only [Option.some.injEq,Prod.mk.injEq] at h;exact h.2.symm
    · cases h
  case slice t x lo hi mx=>
    cases mx with
    | none=>exact (v_some h).2.symm
    | some _=>cases hi with
      | none=>simp at h
      | some _=>exact (v_some h).2.symm
  case call c=>
    obtain ⟨ce,args,ats⟩:=c
    cases ce with
    | builtin b=>
      refine abuiltin_quiet ?_ h
      revert hq
      cases b<;>simp [quietOp]
    | _=>exact absurd (show false=true from hq) (by decide)
end Go.Abs
end
noncomputable section
namespace Go.Abs
def fz1 (H:Heap):AV->AV × Heap
 | .slice r 0 n esz=>match H.get r with
  | some (.cells cs)=>(.list n cs,H.kill r)
  | _=>(.slice r 0 n esz,H)
 | .nilslice=>(.list 0 [],H)
 | x=>(x,H)
def fzL (H:Heap):List AV->List AV × Heap
 | []=>([],H)
 | x::xs=>((fz1 H x).1::(fzL (fz1 H x).2 xs).1,(fzL (fz1 H x).2 xs).2)
def fzA (H:Heap) (x:AV):AV × Heap:=
 match x with
 | .agg cs=>(.agg (fzL H cs).1,(fzL H cs).2)
 | x=>fz1 H x
def fzPs (H:Heap):List (Nat × AV)->List (Nat × AV) × Heap
 | []=>([],H)
 | (k,x)::ps=>((k,(fzA H x).1)::(fzPs (fzA H x).2 ps).1,(fzPs (fzA H x).2 ps).2)
def hasSl (P:Program):Nat->TypeId->Bool
 | 0,_=>false
 | d+1,t=>match P.underlying t with
  | some (.slice _)=>true
  | some (.struct fs)=>fs.toList.any fun f=>hasSl P d f.type
  | some (.array _ e)=>hasSl P d e
  | _=>false
def fzT (P:Program) (t:TypeId):Bool:=
 match P.underlying t with
 | some (.slice e)=>hasSl P 4 e
 | _=>false
structure Froze (F G:Nat->Prop) (i:Nat->Nat) (H:Heap) (h:Array Obj) (F':Nat->Prop) (H':Heap):Prop where
 sub:∀ b,F b->F' b
 rel:HRel F' G i H' h
 n:H'.n=H.n
 grow:Grow H H'
section
variable {F G F' F'' : Nat → Prop} {i : Nat → Nat} {H H' H'' : Heap} {h : Array Obj}
theorem Froze.refl (hH:HRel F G i H h):Froze F G i H h F H:=⟨fun _ h=>h,hH,rfl,Grow.refl hH.ok⟩
theorem Froze.trans (a:Froze F G i H h F' H') (b:Froze F' G i H' h F'' H''):Froze F G i H h F'' H'':=⟨fun x hx=>b.sub x (a.sub x hx),b.rel,b.n.trans a.n,a.grow.trans b.grow⟩
theorem Froze.le (a:Froze F G i H h F' H'):Env.le ⟨F,h,i,H.n⟩ ⟨F',h,i,H'.n⟩:=
 ⟨a.sub,fun _ _=>rfl,Nat.le_of_eq a.n.symm,fun _ _=>rfl,fun b c e z hc=>⟨c,e,z,hc,Nat.le_refl _⟩⟩
theorem HRel.freeze (hH:HRel F G i H h) {r:Nat} {cs:List AV} (hr:H.get r=some (.cells cs)):Froze F G i H h (fun b=>F b\/b=i r) (H.kill r):=by
 have hrn:=Heap.get_lt hr
 obtain ⟨o,ho,hro⟩:=hH.row r _ hr
 have hlt:i r<h.size:=(Array.getElem?_eq_some_iff.1 ho).1
 have old:∀ (s:Nat) (row:ARow),(H.kill r).get s=some row->s≠r/\H.get s=some row:=by
  intro s row hs
  rw [Heap.get_kill hH.ok hrn] at hs
  split at hs
  ·cases hs
  ·rename_i e;exact ⟨e,hs⟩
 have le:Env.le ⟨F,h,i,H.n⟩ ⟨fun b=>F b\/b=i r,h,i,(H.kill r).n⟩:=
  ⟨fun _ hb=>.inl hb,fun _ _=>rfl,Nat.le_refl _,fun _ _=>rfl,fun b c e z hc=>⟨c,e,z,hc,Nat.le_refl _⟩⟩
 refine ⟨fun _ hb=>.inl hb,⟨?_,?_,?_,?_,?_,by simp [Heap.kill,hH.ok]⟩,rfl,⟨by simp [Heap.kill,hH.ok],Nat.le_refl _,rfl,?_⟩⟩
 ·intro s row hs
  obtain ⟨_,hs'⟩:=old s row hs
  obtain ⟨o',h1,h2⟩:=hH.row s row hs'
  exact ⟨o',h1,h2.mono le⟩
 ·intro s row hs
  obtain ⟨hne,hs'⟩:=old s row hs
  obtain ⟨h1,h2⟩:=hH.out s row hs'
  exact ⟨fun hb=>hb.elim h1 fun e=>hne (hH.inj s r row _ hs' hr e),h2⟩
 ·intro s s' a b ha hb e
  exact hH.inj s s' a b (old s a ha).2 (old s' b hb).2 e
 ·intro b hb
  rcases hb with (hb | rfl) | hb
  ·exact hH.old b (.inl hb)
  ·exact hlt
  ·exact hH.old b (.inr hb)
 ·intro b hb
  rcases hb with hb | rfl
  ·exact hH.apart b hb
  ·exact (hH.out r _ hr).2
 ·intro s row _ hs
  exact ⟨row,(old s row hs).2⟩
theorem fz1_ok (hH:HRel F G i H h) {x:AV} {v:Value} (hv:VRel ⟨F,h,i,H.n⟩ x v):
  ∃ F',Froze F G i H h F' (fz1 H x).2/\VRel ⟨F',h,i,(fz1 H x).2.n⟩ (fz1 H x).1 v:=by
 unfold fz1
 split
 ·rename_i r n esz
  split
  ·rename_i cs hr
   have hf:=hH.freeze hr
   refine ⟨_,hf,?_⟩
   obtain ⟨o,ho,hro⟩:=hH.row r _ hr
   cases hv with
   | slice _ _ _ _ cap hrn hc hb=>
    cases hro with
    | cells _ c e z hk=>
     have hl:=hk.len
     refine VRel.list n cap cs (i r) 0 (c.toList.take cs.length) hc (.inr rfl) ⟨c,e,z,ho,by simp;omega,?_⟩ (by simp;omega) ?_
     ·intro j u hu
      rw [List.getElem?_take] at hu
      split at hu
      ·simpa using hu
      ·cases hu
     ·intro j y u hy hu
      rw [List.getElem?_take] at hu
      split at hu
      ·exact (hk.val j y u hy (by simpa using hu)).mono hf.le
      ·cases hu
  ·exact ⟨F,Froze.refl hH,hv⟩
 ·refine ⟨F,Froze.refl hH,?_⟩
  cases hv
  exact .listNil 0 0 none (Nat.le_refl _)
 ·exact ⟨F,Froze.refl hH,hv⟩
theorem fzL_ok:∀ {xs:List AV} {vs:List Value} {F:Nat->Prop} {H:Heap},HRel F G i H h->VRels ⟨F,h,i,H.n⟩ xs vs->
  ∃ F',Froze F G i H h F' (fzL H xs).2/\VRels ⟨F',h,i,(fzL H xs).2.n⟩ (fzL H xs).1 vs
 | [],vs,F,H,hH,hv=>⟨F,Froze.refl hH,hv⟩
 | x::xs,[],F,H,hH,hv=>absurd hv.1 (by simp)
 | x::xs,v::vs,F,H,hH,hv=>by
  obtain ⟨F1,k1,k2⟩:=fz1_ok hH (hv.2 0 x v rfl rfl)
  have hs:VRels ⟨F,h,i,H.n⟩ xs vs:=⟨by have:=hv.1;simpa using this,fun j a b p q=>hv.2 (j+1) a b (by simpa using p) (by simpa using q)⟩
  obtain ⟨F2,k3,k4⟩:=fzL_ok k1.rel (hs.mono k1.le)
  exact ⟨F2,k1.trans k3,VRels.cons (k2.mono k3.le) k4⟩
theorem fzA_ok (hH:HRel F G i H h) {x:AV} {v:Value} (hv:VRel ⟨F,h,i,H.n⟩ x v):
  ∃ F',Froze F G i H h F' (fzA H x).2/\VRel ⟨F',h,i,(fzA H x).2.n⟩ (fzA H x).1 v:=by
 unfold fzA
 split
 ·rename_i cs
  cases hv with
  | agg _ vs hl hc=>
   obtain ⟨F1,k1,k2⟩:=fzL_ok hH (xs:=cs) (vs:=vs.toList) ⟨by simpa using hl,fun j x v a b=>hc j x v a (by simpa using b)⟩
   exact ⟨F1,k1,.agg _ vs (by simpa using k2.1) fun j x v a b=>k2.2 j x v a (by simpa using b)⟩
 ·exact fz1_ok hH hv
theorem fzPs_ok:∀ {ps:List (Nat × AV)} {qs:List (Nat × Value)} {F:Nat->Prop} {H:Heap},HRel F G i H h->ps.length=qs.length->
  (∀ (j:Nat) (p:Nat × AV) (q:Nat × Value),ps[j]?=some p->qs[j]?=some q->p.1=q.1/\VRel ⟨F,h,i,H.n⟩ p.2 q.2)->
  ∃ F',Froze F G i H h F' (fzPs H ps).2/\(fzPs H ps).1.length=qs.length/\
   ∀ (j:Nat) (p:Nat × AV) (q:Nat × Value),(fzPs H ps).1[j]?=some p->qs[j]?=some q->p.1=q.1/\VRel ⟨F',h,i,(fzPs H ps).2.n⟩ p.2 q.2
 | [],qs,F,H,hH,hl,hp=>⟨F,Froze.refl hH,hl,fun j p q a=>by simp [fzPs] at a⟩
 | (k,x)::ps,[],F,H,hH,hl,hp=>by simp at hl
 | (k,x)::ps,(k',v)::qs,F,H,hH,hl,hp=>by
  obtain ⟨e,hv⟩:=hp 0 _ _ rfl rfl
  obtain ⟨F1,k1,k2⟩:=fzA_ok hH hv
  obtain ⟨F2,k3,k4,k5⟩:=fzPs_ok (ps:=ps) (qs:=qs) k1.rel (by simpa using hl) fun j p q a b=>by
   obtain ⟨e1,e2⟩:=hp (j+1) p q (by simpa using a) (by simpa using b)
   exact ⟨e1,e2.mono k1.le⟩
  refine ⟨F2,k1.trans k3,by simp [fzPs,k4],fun j p q a b=>?_⟩
  cases j with
  | zero=>
   simp only [fzPs,List.getElem?_cons_zero,Option.some.injEq] at a b
   subst a;subst b
   exact ⟨e,k2.mono k3.le⟩
  | succ j=>exact k5 j p q (by simpa [fzPs] using a) (by simpa using b)
end
theorem Grow.kill {H:Heap} (hok:H.rev.length=H.n) {r:Nat} {row:ARow} (hr:H.get r=some row):Grow H (H.kill r):=by
 refine ⟨by simp [Heap.kill,hok],Nat.le_refl _,rfl,fun s ro _ hs=>?_⟩
 rw [Heap.get_kill hok (Heap.get_lt hr)] at hs
 split at hs
 ·cases hs
 ·exact ⟨ro,hs⟩
theorem fz1_grow {H:Heap} (hok:H.rev.length=H.n) (x:AV):Grow H (fz1 H x).2:=by
 unfold fz1
 split
 ·split
  ·rename_i hr;exact Grow.kill hok hr
  ·exact Grow.refl hok
 ·exact Grow.refl hok
 ·exact Grow.refl hok
theorem fzL_grow:∀ {H:Heap} (hok:H.rev.length=H.n) (xs:List AV),Grow H (fzL H xs).2
 | H,hok,[]=>Grow.refl hok
 | H,hok,x::xs=>(fz1_grow hok x).trans (fzL_grow (fz1_grow hok x).ok xs)
theorem fzA_grow {H:Heap} (hok:H.rev.length=H.n) (x:AV):Grow H (fzA H x).2:=by
 unfold fzA
 split
 ·exact fzL_grow hok _
 ·exact fz1_grow hok x
theorem fzPs_grow:∀ {H:Heap} (hok:H.rev.length=H.n) (ps:List (Nat × AV)),Grow H (fzPs H ps).2
 | H,hok,[]=>Grow.refl hok
 | H,hok,(k,x)::ps=>(fzA_grow hok x).trans (fzPs_grow (fzA_grow hok x).ok ps)
end Go.Abs
end
