/- Part 1 of the library of the proof: an abstract run of the program. -/
import Derived.RangeFuncLeaves
import Derived.OrdersIn
import Derived.Below
import Derived.Laws.Cells
import Derived.Laws.World
import Derived.Laws.FloatArith
import Derived.Laws.StructEq
import Derived.ChangeKeysEq
import Derived.Laws.Append
import Derived.Laws.Build
import Derived.IntWalk
import Derived.RangeFuncRecord
import Derived.LoopNIn
import Derived.TacticsIn
import Derived.Laws.IdiomStrings
import Derived.Laws.AppendOwn
set_option linter.unusedVariables false
set_option linter.unusedSimpArgs false

noncomputable section
namespace Go.Abs
inductive AV where
 | top
 | bool (b:Bool)
 | int (k:IntKind) (n:Int)
 | aL (k:FloatKind) (o:Option Nat)
 | string (s:ByteArray)
 | bI
 | ptr (r off:Nat)
 | dK (cells:List AV) (off:Nat)
 | av
 | slice (r off len aA:Nat)
 | list (len:Nat) (cells:List AV)
 | nl (len:Nat) (cells:List AV)
 | map (r:Nat)
 | fB
 | func (f:FuncId) (first captured:List AV)
 | yield (r:Nat)
 | nilFunc
 | iface (t:TypeId) (v:AV)
 | nilIface
 | agg (cells:List AV)
 | tuple (vs:List AV)
 deriving Inhabited
abbrev AV.float (k:FloatKind) (bits:Nat):AV:=.aL k (some bits)
abbrev AV.nan (k:FloatKind):AV:=.aL k none
structure Env where
 F:Nat->Prop
 h:Array Obj
 i:Nat->Nat
 N:Nat
def sZ (h:Array Obj) (b o:Nat) (vs:List Value):Prop:=
 ∃ c e z,h[b]?=some (.cells c e z)/\o+vs.length<=c.size/\∀ (j:Nat) (v:Value),vs[j]?=some v->c[o+j]?=some v
inductive ao (E:Env):AV->Value->Prop
 | top (v:Value):ao E .top v
 | bool (b:Bool):ao E (.bool b) (.bool b)
 | int (k:IntKind) (n:Int):ao E (.int k n) (.int k n)
 | float (k:FloatKind) (n:Nat):ao E (.float k n) (.float k n)
 | nan (k:FloatKind) (n:Nat) (h:(k.format.read n).isNaN=true):ao E (.nan k) (.float k n)
 | string (s:ByteArray):ao E (.string s) (.string s)
 | bI:ao E .bI (.pointer none)
 | ptr (r off:Nat) (hr:r<E.N):ao E (.ptr r off) (.pointer (some ⟨E.i r,off,none⟩))
 | dK (cells:List AV) (off b o:Nat) (vs:List Value) (hF:E.F b) (hm:sZ E.h b o vs) (hl:cells.length=vs.length)
   (hv:∀ (j:Nat) (x:AV) (v:Value),cells[j]?=some x->vs[j]?=some v->ao E x v):ao E (.dK cells off) (.pointer (some ⟨b,o+off,none⟩))
 | av:ao E .av (.slice none 0 0)
 | slice (r off len aA cap:Nat) (hr:r<E.N) (hc:len<=cap)
   (hb:∃ c e z,E.h[E.i r]?=some (.cells c e z)/\off+cap*aA<=c.size):ao E (.slice r off len aA) (.slice (some ⟨E.i r,off,none⟩) len cap)
 | bY (len cap:Nat) (a:Option Addr) (hc:len<=cap):ao E (.list len []) (.slice a len cap)
 | list (len cap:Nat) (cells:List AV) (b o:Nat) (vs:List Value) (hc:len<=cap) (hF:E.F b) (hm:sZ E.h b o vs) (hl:cells.length=vs.length)
   (hv:∀ (j:Nat) (x:AV) (v:Value),cells[j]?=some x->vs[j]?=some v->ao E x v):ao E (.list len cells) (.slice (some ⟨b,o,none⟩) len cap)
 | wD:ao E (.nl 0 []) (.slice none 0 0)
 | nl (len cap:Nat) (cells:List AV) (b o:Nat) (vs:List Value) (h0:0<len) (hc:len<=cap) (hF:E.F b) (hm:sZ E.h b o vs) (hl:cells.length=vs.length)
   (hv:∀ (j:Nat) (x:AV) (v:Value),cells[j]?=some x->vs[j]?=some v->ao E x v):ao E (.nl len cells) (.slice (some ⟨b,o,none⟩) len cap)
 | map (r:Nat) (hr:r<E.N):ao E (.map r) (.map (some (E.i r)))
 | fB:ao E .fB (.map none)
 | func (f:FuncId) (first captured:List AV) (cX iI:Array Value) (h1:first.length=cX.size) (h2:captured.length=iI.size)
   (hf:∀ (j:Nat) (x:AV) (v:Value),first[j]?=some x->cX[j]?=some v->ao E x v)
   (hc:∀ (j:Nat) (x:AV) (v:Value),captured[j]?=some x->iI[j]?=some v->ao E x v):ao E (.func f first captured) (.func (.func f) cX iI)
 | yield (r:Nat) (hr:r<E.N):ao E (.yield r) (.func (.yield (E.i r)) #[] #[])
 | nilFunc:ao E .nilFunc .nilFunc
 | iface (t:TypeId) (x:AV) (v:Value) (h:ao E x v):ao E (.iface t x) (.iface t v)
 | nilIface:ao E .nilIface .nilIface
 | agg (cells:List AV) (vs:Array Value) (hl:cells.length=vs.size)
   (hv:∀ (j:Nat) (x:AV) (v:Value),cells[j]?=some x->vs[j]?=some v->ao E x v):ao E (.agg cells) (.agg vs)
 | tuple (cells:List AV) (vs:Array Value) (hl:cells.length=vs.size)
   (hv:∀ (j:Nat) (x:AV) (v:Value),cells[j]?=some x->vs[j]?=some v->ao E x v):ao E (.tuple cells) (.tuple vs)
def ay (E:Env) (xs:List AV) (vs:List Value):Prop:=
 xs.length=vs.length/\∀ (j:Nat) (x:AV) (v:Value),xs[j]?=some x->vs[j]?=some v->ao E x v
structure Env.le (E E':Env):Prop where
 F:∀ b,E.F b->E'.F b
 h:∀ b,E.F b->E'.h[b]?=E.h[b]?
 N:E.N<=E'.N
 i:∀ r,r<E.N->E'.i r=E.i r
 sz:∀ (b:Nat) c e z,E.h[b]?=some (.cells c e z)->∃ c' e' z',E'.h[b]?=some (.cells c' e' z')/\c.size<=c'.size
theorem sZ.mono {h h':Array Obj} {b o:Nat} {vs:List Value} (hm:sZ h b o vs) (he:h'[b]?=h[b]?):sZ h' b o vs:=by
 obtain ⟨c,e,z,h1,h2,h3⟩:=hm
 exact ⟨c,e,z,by rw [he,h1],h2,h3⟩
theorem ao.mono {E E':Env} (le:E.le E') {x:AV} {v:Value} (h:ao E x v):ao E' x v:=by
 induction h with
 | top v=>exact .top v
 | bool b=>exact .bool b
 | int k n=>exact .int k n
 | float k n=>exact .float k n
 | nan k n h=>exact .nan k n h
 | string s=>exact .string s
 | bI=>exact .bI
 | ptr r off hr=>rw [←le.i r hr];exact .ptr r off (Nat.lt_of_lt_of_le hr le.N)
 | dK cells off b o vs hF hm hl _ ih=>exact .dK cells off b o vs (le.F b hF) (hm.mono (le.h b hF)) hl ih
 | av=>exact .av
 | slice r off len aA cap hr hc hb=>
  rw [←le.i r hr]
  refine .slice r off len aA cap (Nat.lt_of_lt_of_le hr le.N) hc ?_
  obtain ⟨c,e,z,h1,h2⟩:=hb
  obtain ⟨c2,e2,z2,h3,hle⟩:=le.sz _ c e z h1
  exact ⟨c2,e2,z2,by rw [le.i r hr];exact h3,Nat.le_trans h2 hle⟩
 | bY len cap a hc=>exact .bY len cap a hc
 | list len cap cells b o vs hc hF hm hl _ ih=>exact .list len cap cells b o vs hc (le.F b hF) (hm.mono (le.h b hF)) hl ih
 | wD=>exact .wD
 | nl len cap cells b o vs h0 hc hF hm hl _ ih=>exact .nl len cap cells b o vs h0 hc (le.F b hF) (hm.mono (le.h b hF)) hl ih
 | map r hr=>rw [←le.i r hr];exact .map r (Nat.lt_of_lt_of_le hr le.N)
 | fB=>exact .fB
 | func f first captured cX iI h1 h2 _ _ mC tr=>exact .func f first captured cX iI h1 h2 mC tr
 | yield r hr=>rw [←le.i r hr];exact .yield r (Nat.lt_of_lt_of_le hr le.N)
 | nilFunc=>exact .nilFunc
 | iface t x v _ ih=>exact .iface t x v ih
 | nilIface=>exact .nilIface
 | agg cells vs hl _ ih=>exact .agg cells vs hl ih
 | tuple cells vs hl _ ih=>exact .tuple cells vs hl ih
theorem ay.mono {E E':Env} (le:E.le E') {xs:List AV} {vs:List Value} (h:ay E xs vs):ay E' xs vs:=
 ⟨h.1,fun j x v h1 h2=>(h.2 j x v h1 h2).mono le⟩
end Go.Abs
end
noncomputable section
namespace Go.Abs
structure oD where
 state:LoopState
 pending:Option Code
 tmps:List AV
 params:Array Tmp
 assign:Code
 body:Code
 defers:Nat
inductive eR where
 | cells (cs:List AV)
 | deferred
 | loop (l:oD)
 | iter (s:ByteArray) (pos:Nat)
 | map (es:List (AV × AV × Nat)) (clock:Nat)
structure af where
 rev:List (Option eR)
 n:Nat
 fH:Nat
def af.get (H:af) (r:Nat):Option eR:=
 if r<H.n then match H.rev[H.n-1-r]? with
  | some row=>row
  | none=>none
 else none
def af.push (H:af) (row:eR):af:={ H with rev:=some row::H.rev,n:=H.n+1 }
def af.ij (H:af) (r:Nat) (row:eR):af:={ H with rev:=H.rev.set (H.n-1-r) (some row) }
def af.kill (H:af) (r:Nat):af:={ H with rev:=H.rev.set (H.n-1-r) none }
@[simp] theorem af.OP (H : af) (row : eR) : (H.push row).n = H.n + 1 := rfl
@[simp] theorem af.abc (H : af) (r : Nat) (row : eR) : (H.ij r row).n = H.n := rfl
@[simp] theorem af.WA (H : af) (r : Nat) : (H.kill r).n = H.n := rfl
@[simp] theorem af.abN (H : af) (row : eR) : (H.push row).fH = H.fH := rfl
@[simp] theorem af.adM (H : af) (r : Nat) (row : eR) : (H.ij r row).fH = H.fH := rfl
@[simp] theorem af.abO (H : af) (r : Nat) : (H.kill r).fH = H.fH := rfl
theorem af.cT {H:af} {r:Nat} {row:eR} (h:H.get r=some row):r<H.n:=by
 unfold af.get at h
 split at h
 ·assumption
 ·cases h
theorem af.dV {H:af} {r:Nat} {row:eR} (h:r<H.n):(H.push row).get r=H.get r:=by
 have e:H.n+1-1-r=(H.n-1-r)+1:=by omega
 unfold af.get af.push
 simp only [e,List.getElem?_cons_succ]
 rw [if_pos (by omega),if_pos h]
theorem af.cD {H:af} {row:eR}:(H.push row).get H.n=some row:=by
 unfold af.get af.push
 simp
theorem af.dS {H:af} {r:Nat} {row cS:eR} (h:(H.push row).get r=some cS):(r<H.n/\H.get r=some cS)\/(r=H.n/\cS=row):=by
 have cC:=af.cT h
 simp only [af.OP] at cC
 by_cases hr:r<H.n
 ·rw [af.dV hr] at h;exact .inl ⟨hr,h⟩
 ·have:r=H.n:=by omega
  subst this
  rw [af.cD] at h
  exact .inr ⟨rfl,(Option.some.inj h).symm⟩
theorem af.zy {H:af} (bw:H.rev.length=H.n) {r s:Nat} (x:Option eR) (hr:r<H.n):
  ({ H with rev:=H.rev.set (H.n-1-r) x }:af).get s=if s=r then x else H.get s:=by
 unfold af.get
 simp only [List.getElem?_set]
 by_cases hs:s<H.n
 ·rw [if_pos hs,if_pos hs]
  by_cases e:s=r
  ·subst e
   rw [if_pos rfl,if_pos rfl,if_pos (by omega)]
  ·rw [if_neg (by omega),if_neg e]
 ·rw [if_neg hs,if_neg hs,if_neg (by omega)]
theorem af.iS {H:af} (bw:H.rev.length=H.n) {r s:Nat} (row:eR) (hr:r<H.n):(H.ij r row).get s=if s=r then some row else H.get s:=
 af.zy bw _ hr
theorem af.fa {H:af} (bw:H.rev.length=H.n) {r s:Nat} (hr:r<H.n):(H.kill r).get s=if s=r then none else H.get s:=
 af.zy bw _ hr
structure pU (E:Env) (cs:List AV) (c:Array Value) (z:Nat × Nat):Prop where
 len:cs.length<=c.size
 val:∀ (j:Nat) (x:AV) (v:Value),cs[j]?=some x->c[j]?=some v->ao E x v
 free:∀ j,j<c.size->¬ (z.1<=j/\j<z.2)
structure eD (E:Env) (es:List (AV × AV × Nat)) (cN:List MapEntry):Prop where
 len:es.length=cN.length
 key:∀ (j:Nat) (x:AV × AV × Nat) (v:MapEntry),es[j]?=some x->cN[j]?=some v->ao E x.1 v.key
 val:∀ (j:Nat) (x:AV × AV × Nat) (v:MapEntry),es[j]?=some x->cN[j]?=some v->ao E x.2.1 v.val
 born:∀ (j:Nat) (x:AV × AV × Nat) (v:MapEntry),es[j]?=some x->cN[j]?=some v->x.2.2=v.born
inductive d_ (E:Env):eR->Obj->Prop
 | cells (cs:List AV) (c:Array Value) (e:TypeId) (z:Nat × Nat) (h:pU E cs c z):d_ E (.cells cs) (.cells c e z)
 | deferred:d_ E .deferred (.deferred (some []))
 | loop (l:oD) (fn:FuncId) (t:Array Value) (ht:ay E l.tmps t.toList) (hd:l.defers<E.N):
   d_ E (.loop l) (.loop { state:=l.state,pending:=l.pending,fn:=fn,tmps:=t,params:=l.params,assign:=l.assign,body:=l.body,defers:=E.i l.defers })
 | iter (s:ByteArray) (pos:Nat):d_ E (.iter s pos) (.stringIter s pos)
 | map (es:List (AV × AV × Nat)) (cN:Array MapEntry) (clock:Nat) (h:eD E es cN.toList):d_ E (.map es clock) (.map cN clock)
theorem pU.mono {E E':Env} (le:E.le E') {cs:List AV} {c:Array Value} {z:Nat × Nat} (h:pU E cs c z):pU E' cs c z:=
 ⟨h.len,fun j x v h1 h2=>(h.val j x v h1 h2).mono le,h.free⟩
theorem d_.mono {E E':Env} (le:E.le E') {r:eR} {o:Obj} (h:d_ E r o):d_ E' r o:=by
 cases h with
 | cells cs c e z h=>exact .cells cs c e z (h.mono le)
 | deferred=>exact .deferred
 | loop l fn t ht hd=>rw [←le.i l.defers hd];exact .loop l fn t (ht.mono le) (Nat.lt_of_lt_of_le hd le.N)
 | iter s pos=>exact .iter s pos
 | map es cN clock h=>
  exact .map es cN clock ⟨h.len,fun j x v a b=>(h.key j x v a b).mono le,fun j x v a b=>(h.val j x v a b).mono le,h.born⟩
structure ba (F G:Nat->Prop) (i:Nat->Nat) (H:af) (h:Array Obj):Prop where
 row:∀ (r:Nat) (row:eR),H.get r=some row->∃ o,h[i r]?=some o/\d_ ⟨F,h,i,H.n⟩ row o
 out:∀ (r:Nat) (row:eR),H.get r=some row->¬ F (i r)/\¬ G (i r)
 inj:∀ (r r':Nat) (row cS:eR),H.get r=some row->H.get r'=some cS->i r=i r'->r=r'
 cn:∀ b,F b\/G b->b<h.size
 apart:∀ b,F b->¬ G b
 ok:H.rev.length=H.n
structure Ext (K:Nat) (F G:Nat->Prop) (i:Nat->Nat) (w:World) (F':Nat->Prop) (i':Nat->Nat) (w':World):Prop where
 grow:∀ b,F b->F' b
 aP:∀ b,F b\/G b->w'.heap[b]?=w.heap[b]?
 size:w.heap.size<=w'.heap.size
 cells:∀ (b:Nat) c e z,w.heap[b]?=some (.cells c e z)->∃ c' e' z',w'.heap[b]?=some (.cells c' e' z')/\c.size<=c'.size
 same:∀ r,r<K->i' r=i r
 os:w'.os=w.os
 output:w'.output=w.output
 tape:w'.tape=w.tape
theorem Ext.refl (K:Nat) (F G:Nat->Prop) (i:Nat->Nat) (w:World):Ext K F G i w F i w:=
 ⟨fun _ h=>h,fun _ _=>rfl,Nat.le_refl _,fun _ c e z h=>⟨c,e,z,h,Nat.le_refl _⟩,fun _ _=>rfl,rfl,rfl,rfl⟩
theorem Ext.trans {K K':Nat} {F F' FP G:Nat->Prop} {i i' K0:Nat->Nat} {w w' K2:World} (h:Ext K F G i w F' i' w') (k:Ext K' F' G i' w' FP K0 K2) (hK:K<=K'):
  Ext K F G i w FP K0 K2 where
 grow b hb:=k.grow b (h.grow b hb)
 aP b hb:=(k.aP b (hb.imp (h.grow b) id)).trans (h.aP b hb)
 size:=Nat.le_trans h.size k.size
 cells b c e z hc:=by
  obtain ⟨c2,e2,z2,h2,l2⟩:=h.cells b c e z hc
  obtain ⟨c3,e3,z3,h3,l3⟩:=k.cells b c2 e2 z2 h2
  exact ⟨c3,e3,z3,h3,Nat.le_trans l2 l3⟩
 same r hr:=(k.same r (Nat.lt_of_lt_of_le hr hK)).trans (h.same r hr)
 os:=k.os.trans h.os
 output:=k.output.trans h.output
 tape:=k.tape.trans h.tape
theorem Ext.le {K:Nat} {F F' G:Nat->Prop} {i i':Nat->Nat} {w w':World} (h:Ext K F G i w F' i' w') {N N':Nat} (hN:N<=K) (hN':N<=N'):
  Env.le ⟨F,w.heap,i,N⟩ ⟨F',w'.heap,i',N'⟩:=
 ⟨h.grow,fun b hb=>h.aP b (.inl hb),hN',fun r hr=>h.same r (Nat.lt_of_lt_of_le hr hN),h.cells⟩
structure St where
 tmps:List AV
 H:af
 defers:List Nat
abbrev bz:=Nat->Option (List AV)
structure fq (Γ:bz) (F:Nat->Prop) (h:Array Obj) (i:Nat->Nat) (N:Nat):Prop where
 at_:∀ g cells,Γ g=some cells->ao ⟨F,h,i,N⟩ (.dK cells 0) (.pointer (some ⟨g,0,none⟩))
theorem fq.mono {Γ:bz} {F F':Nat->Prop} {h h':Array Obj} {i i':Nat->Nat} {N N':Nat} (hg:fq Γ F h i N) (le:Env.le ⟨F,h,i,N⟩ ⟨F',h',i',N'⟩):
  fq Γ F' h' i' N':=⟨fun g cells e=>(hg.at_ g cells e).mono le⟩
def mark (i:Nat->Nat) (r:Nat):Deferred:={ target:=.collected (i r),args:=#[] }
structure iz (Γ:bz) (F G:Nat->Prop) (i:Nat->Nat) (σ:St) (a:Act) (w:World):Prop where
 tmps:ay ⟨F,w.heap,i,σ.H.n⟩ σ.tmps a.tmps.toList
 defers:a.defers=σ.defers.map (mark i)
 mZ:∀ r,r∈σ.defers->r<σ.H.n
 heap:ba F G i σ.H w.heap
 dx:fq Γ F w.heap i σ.H.n
end Go.Abs
end
noncomputable section
namespace Go.Abs
def AV.one:AV->Bool
 | .top | .agg _ | .tuple _=>false
 | _=>true
def AV.known:AV->Bool
 | .top=>false
 | _=>true
def AV.cells:AV->List AV
 | .agg cs=>cs
 | v=>[v]
theorem ao.one {E:Env} {x:AV} {v:Value} (h:ao E x v) (ho:x.one=true):v.oneCell'=true:=by
 cases h<;>first | rfl | simp [AV.one] at ho
theorem ao.cells {E:Env} {x:AV} {v:Value} (h:ao E x v) (ho:x.known=true):ay E x.cells v.cells.toList:=by
 have one:∀ (y:AV) (u:Value),ao E y u->ay E [y] [u]:=by
  intro y u hu
  refine ⟨rfl,fun j a b h1 h2=>?_⟩
  cases j with
  | zero=>simp at h1 h2;subst h1;subst h2;exact hu
  | succ j=>simp at h1
 cases h with
 | top v=>simp [AV.known] at ho
 | agg cells vs hl hv=>exact ⟨by simpa [AV.cells,Value.cells] using hl,fun j x v h1 h2=>hv j x v h1 (by simpa [Value.cells] using h2)⟩
 | _=>exact one _ _ (by constructor<;>assumption)
theorem ay.get {E:Env} {xs:List AV} {vs:List Value} (h:ay E xs vs) {j:Nat} {x:AV} (hx:xs[j]?=some x):∃ v,vs[j]?=some v/\ao E x v:=by
 have hj:j<vs.length:=by
  rw [←h.1]
  exact (List.getElem?_eq_some_iff.1 hx).1
 exact ⟨vs[j],by simp [hj],h.2 j x _ hx (by simp [hj])⟩
theorem ay.nil {E:Env}:ay E [] []:=⟨rfl,fun j x v h=>by simp at h⟩
theorem ay.cons {E:Env} {x:AV} {v:Value} {xs:List AV} {vs:List Value} (h:ao E x v) (hs:ay E xs vs):ay E (x::xs) (v::vs):=by
 refine ⟨by simp [hs.1],fun j y u h1 h2=>?_⟩
 cases j with
 | zero=>simp at h1 h2;subst h1;subst h2;exact h
 | succ j=>exact hs.2 j y u (by simpa using h1) (by simpa using h2)
theorem ay.append {E:Env} {xs ys:List AV} {vs us:List Value} (h:ay E xs vs) (k:ay E ys us):ay E (xs++ys) (vs++us):=by
 refine ⟨by simp [h.1,k.1],fun j x v h1 h2=>?_⟩
 by_cases hj:j<xs.length
 ·rw [List.getElem?_append_left hj] at h1
  rw [List.getElem?_append_left (by rw [←h.1];exact hj)] at h2
  exact h.2 j x v h1 h2
 ·rw [List.getElem?_append_right (by omega)] at h1
  rw [List.getElem?_append_right (by rw [←h.1];omega)] at h2
  exact k.2 _ x v h1 (by rw [h.1];exact h2)
theorem ay.take {E:Env} {xs:List AV} {vs:List Value} (h:ay E xs vs) (n:Nat):ay E (xs.take n) (vs.take n):=by
 refine ⟨by simp [h.1],fun j x v h1 h2=>?_⟩
 rw [List.getElem?_take] at h1 h2
 split at h1
 ·rename_i hj;rw [if_pos hj] at h2;exact h.2 j x v h1 h2
 ·cases h1
theorem ay.drop {E:Env} {xs:List AV} {vs:List Value} (h:ay E xs vs) (n:Nat):ay E (xs.drop n) (vs.drop n):=by
 refine ⟨by simp [h.1],fun j x v h1 h2=>?_⟩
 rw [List.getElem?_drop] at h1 h2
 exact h.2 _ x v h1 h2
theorem ay.set {E:Env} {xs:List AV} {vs:List Value} (h:ay E xs vs) (n:Nat) {x:AV} {v:Value} (hv:ao E x v):ay E (xs.set n x) (vs.set n v):=by
 refine ⟨by simp [h.1],fun j y u h1 h2=>?_⟩
 rw [List.getElem?_set] at h1 h2
 split at h1
 ·rename_i hj;subst hj
  rw [if_pos rfl] at h2
  split at h1
  ·split at h2
   ·simp at h1 h2;subst h1;subst h2;exact hv
   ·cases h2
  ·cases h1
 ·rename_i hj;rw [if_neg hj] at h2;exact h.2 j y u h1 h2
theorem ay.replicate {E:Env} {x:AV} {v:Value} (h:ao E x v) (n:Nat):ay E (List.replicate n x) (List.replicate n v):=by
 refine ⟨by simp,fun j y u h1 h2=>?_⟩
 rw [List.getElem?_replicate] at h1 h2
 split at h1
 ·rename_i hj;rw [if_pos hj] at h2;simp at h1 h2;subst h1;subst h2;exact h
 ·cases h1
def put (i:Nat->Nat) (r b:Nat):Nat->Nat:=fun s=>if s=r then b else i s
theorem bD {i:Nat->Nat} {r b s:Nat} (h:s<r):put i r b s=i s:=by unfold put;rw [if_neg (by omega)]
theorem aH {i:Nat->Nat} {r b:Nat}:put i r b r=b:=by simp [put]
theorem iG {K:Nat} {F G:Nat->Prop} {i:Nat->Nat} {w:World} (o:Obj) (hold:∀ b,F b\/G b->b<w.heap.size) (r b:Nat) (hr:K<=r):
  Ext K F G i w F (put i r b) (w.alloc o) where
 grow _ h:=h
 aP k hk:=by
  have:=hold k hk
  simp only [World.alloc,Array.getElem?_push];rw [if_neg (by omega)]
 size:=by simp
 cells k c e z hc:=by
  refine ⟨c,e,z,?_,Nat.le_refl _⟩
  have:k<w.heap.size:=(Array.getElem?_eq_some_iff.1 hc).1
  simp only [World.alloc,Array.getElem?_push];rw [if_neg (by omega)];exact hc
 same s hs:=bD (by omega)
 os:=rfl
 output:=rfl
 tape:=rfl
theorem ba.alloc {F G:Nat->Prop} {i:Nat->Nat} {H:af} {w:World} (hH:ba F G i H w.heap) (o:Obj) (row:eR)
  (aG:d_ ⟨F,(w.alloc o).heap,put i H.n w.heap.size,H.n+1⟩ row o):
  ba F G (put i H.n w.heap.size) (H.push row) (w.alloc o).heap:=by
 have ext:=iG (K:=H.n) (F:=F) (G:=G) (i:=i) (w:=w) o hH.cn H.n w.heap.size (Nat.le_refl _)
 have le:Env.le ⟨F,w.heap,i,H.n⟩ ⟨F,(w.alloc o).heap,put i H.n w.heap.size,H.n+1⟩:=ext.le (Nat.le_refl _) (Nat.le_succ _)
 have lt:∀ (r:Nat) (ro:eR),H.get r=some ro->i r<w.heap.size:=fun r ro h=>by
  obtain ⟨o',ho,_⟩:=hH.row r ro h
  exact (Array.getElem?_eq_some_iff.1 ho).1
 refine ⟨?_,?_,?_,?_,hH.apart,by simp [af.push,hH.ok]⟩
 ·intro r ro h
  rcases af.dS h with ⟨hr,h⟩ | ⟨rfl,rfl⟩
  ·obtain ⟨o',ho,ml⟩:=hH.row r ro h
   have cC:=lt r ro h
   refine ⟨o',?_,ml.mono le⟩
   rw [bD hr]
   simp only [World.alloc,Array.getElem?_push];rw [if_neg (by omega)];exact ho
  ·exact ⟨o,by rw [aH];show (w.heap.push o)[w.heap.size]?=some o;simp,aG⟩
 ·intro r ro h
  rcases af.dS h with ⟨hr,h⟩ | ⟨rfl,rfl⟩
  ·rw [bD hr];exact hH.out r ro h
  ·rw [aH]
   exact ⟨fun hf=>by have:=hH.cn _ (.inl hf);omega,fun hg=>by have:=hH.cn _ (.inr hg);omega⟩
 ·intro r r' ro wJ h h' e
  rcases af.dS h with ⟨hr,k⟩ | ⟨k,k2⟩<;>rcases af.dS h' with ⟨gL,k'⟩ | ⟨k',k2'⟩
  ·rw [bD hr,bD gL] at e;exact hH.inj r r' ro wJ k k' e
  ·rw [bD hr,k',aH] at e;have:=lt r ro k;omega
  ·rw [bD gL,k,aH] at e;have:=lt r' wJ k';omega
  ·omega
 ·intro b hb;have:=hH.cn b hb;simp;omega
theorem ba.put {F G:Nat->Prop} {i:Nat->Nat} {H:af} {w:World} (hH:ba F G i H w.heap) {r:Nat} {row:eR} (hr:H.get r=some row) (dm:H.fH<=r) (o':Obj) (cS:eR)
  (fI:∀ c e z,w.heap[i r]?=some (.cells c e z)->∃ c' e' z',o'=.cells c' e' z'/\c.size<=c'.size)
  (aG:d_ ⟨F,w.heap.setIfInBounds (i r) o',i,H.n⟩ cS o'):
  ba F G i (H.ij r cS) (w.heap.setIfInBounds (i r) o')/\Ext H.n F G i w F i { w with heap:=w.heap.setIfInBounds (i r) o' }:=by
 obtain ⟨o,ho,uJ⟩:=hH.row r row hr
 have hrn:=af.cT hr
 have cC:i r<w.heap.size:=(Array.getElem?_eq_some_iff.1 ho).1
 have other:∀ b,b≠i r->(w.heap.setIfInBounds (i r) o')[b]?=w.heap[b]?:=fun b hb=>by
  rw [Array.getElem?_setIfInBounds,if_neg (fun h=>hb h.symm)]
 have self:(w.heap.setIfInBounds (i r) o')[i r]?=some o':=by
  rw [Array.getElem?_setIfInBounds,if_pos rfl,if_pos cC]
 have ext:Ext H.n F G i w F i { w with heap:=w.heap.setIfInBounds (i r) o' }:=by
  refine ⟨fun _ h=>h,?_,by simp,?_,fun _ _=>rfl,rfl,rfl,rfl⟩
  ·intro b hb
   refine other b ?_
   rintro rfl
   have:=hH.out r row hr
   exact hb.elim this.1 this.2
  ·intro b c e z hc
   by_cases hb:b=i r
   ·subst hb
    obtain ⟨c',e',z',h1,h2⟩:=fI c e z hc
    exact ⟨c',e',z',by rw [←h1];exact self,h2⟩
   ·exact ⟨c,e,z,(other b hb).trans hc,Nat.le_refl _⟩
 refine ⟨?_,ext⟩
 have le:Env.le ⟨F,w.heap,i,H.n⟩ ⟨F,w.heap.setIfInBounds (i r) o',i,H.n⟩:=ext.le (Nat.le_refl _) (Nat.le_refl _)
 have split:∀ (s:Nat) (ro:eR),(H.ij r cS).get s=some ro->(s≠r/\H.get s=some ro)\/(s=r/\ro=cS):=by
  intro s ro h
  rw [af.iS hH.ok _ hrn] at h
  split at h
  ·rename_i e;exact .inr ⟨e,(Option.some.inj h).symm⟩
  ·rename_i e;exact .inl ⟨e,h⟩
 have live:∀ (s:Nat) (ro:eR),(H.ij r cS).get s=some ro->∃ wJ,H.get s=some wJ:=by
  intro s ro h
  rcases split s ro h with ⟨_,h⟩ | ⟨rfl,_⟩
  ·exact ⟨ro,h⟩
  ·exact ⟨row,hr⟩
 refine ⟨?_,?_,?_,?_,hH.apart,by simp [af.ij,hH.ok]⟩
 ·intro s ro h
  rcases split s ro h with ⟨hs,h⟩ | ⟨rfl,rfl⟩
  ·obtain ⟨o2,xD,Tr⟩:=hH.row s ro h
   have ek:i s≠i r:=fun e=>hs (hH.inj s r ro row h hr e)
   exact ⟨o2,(other _ ek).trans xD,Tr.mono le⟩
  ·exact ⟨o',self,aG⟩
 ·intro s ro h
  obtain ⟨wJ,h'⟩:=live s ro h
  exact hH.out s wJ h'
 ·intro s s' ro wJ h h' e
  obtain ⟨x,hx⟩:=live s ro h
  obtain ⟨y,hy⟩:=live s' wJ h'
  exact hH.inj s s' x y hx hy e
 ·intro b hb;have:=hH.cn b hb;simpa using this
theorem ba.forget {F G:Nat->Prop} {i:Nat->Nat} {H H':af} {h:Array Obj} (hH:ba F G i H h) (hl:H'.n=H.n) (hm:H.fH<=H'.fH) (bw:H'.rev.length=H'.n)
  (hs:∀ (r:Nat) (row:eR),H'.get r=some row->H.get r=some row):ba F G i H' h where
 row r row h:=by rw [hl];exact hH.row r row (hs r row h)
 out r row h:=hH.out r row (hs r row h)
 inj r r' a b h h' e:=hH.inj r r' a b (hs r a h) (hs r' b h') e
 cn:=hH.cn
 apart:=hH.apart
 ok:=bw
theorem ba.kill {F G:Nat->Prop} {i:Nat->Nat} {H:af} {h:Array Obj} (hH:ba F G i H h) {r:Nat} (hr:r<H.n):ba F G i (H.kill r) h:=by
 refine hH.forget (by simp) (Nat.le_refl _) (by simp [af.kill,hH.ok]) ?_
 intro s row hs
 rw [af.fa hH.ok hr] at hs
 split at hs
 ·cases hs
 ·exact hs
theorem nY {K:Nat} {F G:Nat->Prop} {i:Nat->Nat} {w:World} (n:Nat):Ext K F G i w F i { w with drawn:=n }:=
 ⟨fun _ h=>h,fun _ _=>rfl,Nat.le_refl _,fun _ c e z h=>⟨c,e,z,h,Nat.le_refl _⟩,fun _ _=>rfl,rfl,rfl,rfl⟩
end Go.Abs
end
noncomputable section
namespace Go.Abs
def qE:Value->AV
  | .bool b=>.bool b
  | .int k n=>.int k n
  | .float k n=>.float k n
  | .string s=>.string s
  | .pointer a=>if a.isNone then .bI else .top
  | .slice a n c=>if a.isNone&&n==0&&c==0 then .av else .top
  | .map r=>if r.isNone then .fB else .top
  | .nilFunc=>.nilFunc
  | .nilIface=>.nilIface
  | .func fn a c=>match fn with
    | .func f=>if a.isEmpty&&c.isEmpty then .func f [] [] else .top
    | _=>.top
  | _=>.top
def cM:Value->AV
  | .agg cs=>.agg (cs.toList.map qE)
  | .tuple cs=>.tuple (cs.toList.map qE)
  | .iface t v=>.iface t (qE v)
  | v=>qE v
theorem zw (E:Env) (v:Value):ao E (qE v) v:=by
  cases v with
  | pointer a=>cases a<;>simp [qE]<;>constructor
  | slice a n c=>
    simp only [qE]
    split
    · rename_i h
      simp only [Bool.and_eq_true,Option.isNone_iff_eq_none,beq_iff_eq] at h
      obtain ⟨⟨rfl,rfl⟩,rfl⟩:=h
      exact .av
    · exact .top _
  | map r=>cases r<;>simp [qE]<;>constructor
  | func fn a c=>
    cases fn with
    | func f=>
      simp only [qE]
      split
      · rename_i h
        simp only [Bool.and_eq_true,Array.isEmpty_iff] at h
        obtain ⟨rfl,rfl⟩:=h
        exact .func f [] [] #[] #[] rfl rfl (fun j x v h=>by simp at h) (fun j x v h=>by simp at h)
      · exact .top _
    | _=>exact .top _
  | _=>constructor
theorem CM (E:Env) (cs:List Value):ay E (cs.map qE) cs:=by
  induction cs with
  | nil=>exact ay.nil
  | cons c cs ih=>exact ay.cons (zw E c) ih
theorem sW (E:Env) (v:Value):ao E (cM v) v:=by
  cases v with
  | agg cs=>
    have h:=CM E cs.toList
    exact .agg _ cs (by simp) (fun j x v h1 h2=>h.2 j x v h1 (by simpa using h2))
  | tuple cs=>
    have h:=CM E cs.toList
    exact .tuple _ cs (by simp) (fun j x v h1 h2=>h.2 j x v h1 (by simpa using h2))
  | iface t v=>exact .iface t _ _ (zw E v)
  | _=>simp only [cM];exact zw E _
def ev (Γ:bz) (tmps:List AV):Operand->AV
  | .tmp t=>(tmps[t]?).getD .top
  | .const v=>cM v
  | .global g=>match Γ g with
    | some cells=>.dK cells 0
    | none=>.top
  | .func f=>.func f [] []
theorem yN {Γ:bz} {F:Nat->Prop} {h:Array Obj} {i:Nat->Nat} {N:Nat} {tmps:List AV} {a:Act} (ht:ay ⟨F,h,i,N⟩ tmps a.tmps.toList)
    (hg:fq Γ F h i N) (x:Operand):ao ⟨F,h,i,N⟩ (ev Γ tmps x) (a.eval x):=by
  cases x with
  | tmp t=>
    simp only [ev,Act.eval]
    cases VK:tmps[t]? with
    | none=>exact .top _
    | some x=>
      obtain ⟨v,hv,hr⟩:=ht.get VK
      have:a.tmps[t]?=some v:=by simpa using hv
      rw [Array.getD_eq_getD_getElem?,this]
      exact hr
  | const v=>exact sW _ v
  | global g=>
    simp only [ev,Act.eval]
    cases hΓ:Γ g with
    | none=>exact .top _
    | some cells=>exact hg.at_ g cells hΓ
  | func f=>exact .func f [] [] #[] #[] rfl rfl (fun j x v h=>by simp at h) (fun j x v h=>by simp at h)
def IW (op:BinOp) (k:IntKind) (a b:Int):Option AV:=
  match op with
  | .add=>some (.int k (k.wrap (a+b)))
  | .sub=>some (.int k (k.wrap (a-b)))
  | .mul=>some (.int k (k.wrap (a*b)))
  | .quo=>if b=0 then none else some (.int k (k.wrap (a.tdiv b)))
  | .rem=>if b=0 then none else some (.int k (a.tmod b))
  | .and=>some (.int k (bits .and k a b))
  | .or=>some (.int k (bits .or k a b))
  | .xor=>some (.int k (bits .xor k a b))
  | .andNot=>some (.int k (bits .andNot k a b))
  | .eql=>some (.bool (a==b))
  | .neq=>some (.bool (a != b))
  | .lss=>some (.bool (decide (a<b)))
  | .leq=>some (.bool (decide (a<=b)))
  | .gtr=>some (.bool (decide (a>b)))
  | .geq=>some (.bool (decide (a>=b)))
  | _=>none
def rm (op:BinOp) (k:IntKind) (a:Int) (b:Int):Option AV:=
  if b<0 then none else
  match op with
  | .shl=>some (.int k (k.wrap (a*2 ^ min b.toNat k.bits)))
  | .shr=>some (.int k (a.fdiv (2 ^ min b.toNat k.bits)))
  | _=>none
def pX (k:FloatKind):Option Nat->AV
  | some r=>.float k r
  | none=>.nan k
def Pv (op:BinOp) (c:Option Ordering):Option AV:=
  match op with
  | .eql=>some (.bool (c==some .eq))
  | .neq=>some (.bool (c != some .eq))
  | .lss=>some (.bool (c==some .lt))
  | .leq=>some (.bool (c==some .lt||c==some .eq))
  | .gtr=>some (.bool (c==some .gt))
  | .geq=>some (.bool (c==some .gt||c==some .eq))
  | _=>none
def Pq (op:BinOp) (k:FloatKind) (a b:Nat):Option AV:=
  match op with
  | .add=>some (pX k (k.format.add a b))
  | .sub=>some (pX k (k.format.sub a b))
  | .mul=>some (pX k (k.format.mul a b))
  | .quo=>some (pX k (k.format.div a b))
  | op=>Pv op (k.format.order a b)
def pW (op:BinOp) (k:FloatKind):Option AV:=
  match op with
  | .add | .sub | .mul | .quo=>some (.nan k)
  | op=>Pv op none
def MS (op:BinOp) (a b:ByteArray):Option AV:=
  let x:=a.data.toList
  let y:=b.data.toList
  match op with
  | .add=>if x.length+y.length<=4611686018427387904 then some (.string ⟨(x++y).toArray⟩) else none
  | .eql=>some (.bool (x==y))
  | .neq=>some (.bool !(x==y))
  | .lss=>some (.bool (Op.bytesLess x y))
  | .leq=>some (.bool (Op.bytesLess x y||x==y))
  | .gtr=>some (.bool !(Op.bytesLess x y||x==y))
  | .geq=>some (.bool !(Op.bytesLess x y))
  | _=>none
section
variable {P : Program} {E : Env} {w : World}
theorem Ps {op:BinOp} {k:IntKind} {a b:Int} {x:AV} (t:TypeId) (h:IW op k a b=some x):
    ∃ v,(binOp op t (.int k a) (.int k b)).run P w=.ok v w/\ao E x v:=by
  cases op<;>simp only [IW,Option.some.injEq,reduceCtorEq] at h<;>first
    | (subst h;exact ⟨_,by simp [binOp,Op.intArith,Op.intCmp];rfl,by constructor⟩)
    | (subst h;exact ⟨_,by simp only [binOp,ne_eq,not_true_eq_false,if_false,intBits_and,intBits_or,intBits_xor,intBits_andNot];rfl,by constructor⟩)
    | (split at h
       · cases h
       · rename_i hb;simp only [Option.some.injEq] at h;subst h
         exact ⟨_,by simp [binOp,Op.intDiv,hb];rfl,by constructor⟩)
theorem zu {op:BinOp} {k k':IntKind} {a b:Int} {x:AV} (t:TypeId) (h:rm op k a b=some x):
    ∃ v,(binOp op t (.int k a) (.int k' b)).run P w=.ok v w/\ao E x v:=by
  unfold rm at h
  split at h
  · cases h
  · rename_i hb
    cases op<;>simp only [Option.some.injEq,reduceCtorEq] at h<;>subst h<;>exact ⟨_,by simp only [binOp,Op.shift,hb,if_false];rfl,by constructor⟩
end
end Go.Abs
end
noncomputable section
namespace Go.Abs
theorem IZ (s r:Nat) (_hs:s<2) (hr:r<8388607):(Ieee.single.read (s*2147483648+2139095040+1+r)).isNaN=true:=by
 have h1:Ieee.single.signWeight=2147483648:=by decide
 have h2:Ieee.single.infRung=2139095040:=by decide
 have h3:Ieee.single.binade=8388608:=by decide
 have e:(s*2147483648+2139095040+1+r)%2147483648=2139095040+1+r:=by omega
 unfold Ieee.Format.read
 simp only [h1,h2,h3,e]
 rw [if_neg (by omega),if_neg (by omega),if_neg (by omega)]
 rfl
theorem I0 (s r:Nat) (_hs:s<2) (hr:r<4503599627370495):(Ieee.double.read (s*9223372036854775808+9218868437227405312+1+r)).isNaN=true:=by
 have h1:Ieee.double.signWeight=9223372036854775808:=by decide
 have h2:Ieee.double.infRung=9218868437227405312:=by decide
 have h3:Ieee.double.binade=4503599627370496:=by decide
 have e:(s*9223372036854775808+9218868437227405312+1+r)%9223372036854775808=9218868437227405312+1+r:=by omega
 unfold Ieee.Format.read
 simp only [h1,h2,h3,e]
 rw [if_neg (by omega),if_neg (by omega),if_neg (by omega)]
 rfl
theorem Tv (k:FloatKind) (x y t:Nat):(k.format.read ((Question.nanBits k x y).cut t)).isNaN=true:=by
 cases k with
 | f32=>exact IZ (t%2) ((t / 2)%(2 ^ 23-1)) (Nat.mod_lt _ (by decide)) (Nat.mod_lt _ (by decide))
 | f64=>exact I0 (t%2) ((t / 2)%(2 ^ 52-1)) (Nat.mod_lt _ (by decide)) (Nat.mod_lt _ (by decide))
theorem lE {d:Ieee.Datum} (h:d.isNaN=true):∃ s t,d=.nan s t:=by
 cases d with
 | nan s t=>exact ⟨s,t,rfl⟩
 | _=>simp [Ieee.Datum.isNaN] at h
theorem j6 {f:Ieee.Format} {a b:Nat} (h:(f.read a).isNaN=true):f.order a b=none:=by
 obtain ⟨s,t,e⟩:=lE h
 simp [Ieee.Format.order,e,Ieee.Datum.order]
theorem nM {f:Ieee.Format} {a b:Nat} (h:(f.read b).isNaN=true):f.order a b=none:=by
 obtain ⟨s,t,e⟩:=lE h
 unfold Ieee.Format.order
 rw [e]
 cases f.read a<;>rfl
theorem zx {f:Ieee.Format} {a b:Nat} (h:(f.read a).isNaN=true):f.add a b=none/\f.sub a b=none/\f.mul a b=none/\f.div a b=none:=by
 obtain ⟨s,t,e⟩:=lE h
 simp [Ieee.Format.add,Ieee.Format.sub,Ieee.Format.mul,Ieee.Format.div,e,Ieee.Datum.sum,Ieee.Datum.product,Ieee.Datum.quotient]
theorem xI {f:Ieee.Format} {a b:Nat} (h:(f.read b).isNaN=true):f.add a b=none/\f.sub a b=none/\f.mul a b=none/\f.div a b=none:=by
 obtain ⟨s,t,e⟩:=lE h
 refine ⟨?_,?_,?_,?_⟩
 ·unfold Ieee.Format.add;rw [e];cases f.read a<;>rfl
 ·unfold Ieee.Format.sub;rw [e];cases f.read a<;>rfl
 ·unfold Ieee.Format.mul;rw [e];cases f.read a<;>rfl
 ·unfold Ieee.Format.div;rw [e];cases f.read a<;>rfl
section
variable {P : Program} {E : Env} {w : World}
def wB (P:Program) (s:Sem Value) (E:Env) (w:World) (x:AV):Prop:=∃ v n,s.run P w=.ok v { w with drawn:=n }/\ao E x v
theorem eX {s:Sem Value} {x:AV} (h:∃ v,s.run P w=.ok v w/\ao E x v):wB P s E w x:=by
 obtain ⟨v,h1,h2⟩:=h;exact ⟨v,w.drawn,h1,h2⟩
theorem Gk {op:BinOp} {k:FloatKind} {a b:Nat} {x:AV} (t:TypeId) (h:Pv op (k.format.order a b)=some x):
  ∃ v,(binOp op t (.float k a) (.float k b)).run P w=.ok v w/\ao E x v:=by
 cases op<;>simp only [Pv,Option.some.injEq,reduceCtorEq] at h<;>subst h<;>
  exact ⟨_,by simp only [binOp,ne_eq,not_true_eq_false,if_false,Op.floatCmp];rfl,by constructor⟩
theorem Gl (k:FloatKind) (a b:Nat):∃ v n,(do pure (Value.float k (←choose (.nanBits k a b))):Sem Value).run P w=.ok v { w with drawn:=n }/\ao E (.nan k) v:=by
 refine ⟨_,w.drawn+1,by simp only [Sem.run_bind,run_choose,Question.forced,Bool.false_eq_true,if_false,Result.andThen_ok,Sem.run_pure];rfl,?_⟩
 exact .nan k _ (Tv k a b _)
theorem tq {op:BinOp} {k:FloatKind} {a b:Nat} (t:TypeId) (r:Option Nat) (OH:op=.add/\k.format.add a b=r\/op=.sub/\k.format.sub a b=r\/op=.mul/\k.format.mul a b=r\/op=.quo/\k.format.div a b=r):
  wB P (binOp op t (.float k a) (.float k b)) E w (pX k r):=by
 cases r with
 | some r=>
  have hb:binOp op t (.float k a) (.float k b)=pure (.float k r):=by
   rcases OH with ⟨rfl,h⟩ | ⟨rfl,h⟩ | ⟨rfl,h⟩ | ⟨rfl,h⟩<;>simp only [binOp,ne_eq,not_true_eq_false,if_false,Op.floatArith,h,pure_bind]
  rw [hb]
  exact eX ⟨_,rfl,.float k r⟩
 | none=>
  have hb:binOp op t (.float k a) (.float k b)=(do pure (Value.float k (←choose (.nanBits k a b)))):=by
   rcases OH with ⟨rfl,h⟩ | ⟨rfl,h⟩ | ⟨rfl,h⟩ | ⟨rfl,h⟩<;>simp only [binOp,ne_eq,not_true_eq_false,if_false,Op.floatArith,h,pure_bind]
  rw [hb]
  exact Gl k a b
theorem Pt {op:BinOp} {k:FloatKind} {a b:Nat} {x:AV} (t:TypeId) (h:Pq op k a b=some x):wB P (binOp op t (.float k a) (.float k b)) E w x:=by
 cases op<;>simp only [Pq,Option.some.injEq] at h<;>first
  | (subst h;exact tq t _ (by simp))
  | exact eX (Gk t h)
theorem oC {op:BinOp} {k:FloatKind} {a b:Nat} {x:AV} (t:TypeId) (h:pW op k=some x) (hn:(k.format.read a).isNaN=true\/(k.format.read b).isNaN=true):
  wB P (binOp op t (.float k a) (.float k b)) E w x:=by
 have ho:k.format.order a b=none:=hn.elim j6 nM
 have ha:k.format.add a b=none/\k.format.sub a b=none/\k.format.mul a b=none/\k.format.div a b=none:=hn.elim zx xI
 cases op<;>simp only [pW,Option.some.injEq] at h<;>first
  | (subst h;exact tq t none (by simp [ha]))
  | exact eX (Gk t (by rw [ho];exact h))
theorem Pu {op:BinOp} {a b:ByteArray} {x:AV} (t:TypeId) (h:MS op a b=some x):
  ∃ v,(binOp op t (.string a) (.string b)).run P w=.ok v w/\ao E x v:=by
 have hb:binOp op t (.string a) (.string b)=Op.stringOp op a b:=by cases op<;>rfl
 rw [hb]
 cases op<;>simp only [MS,Option.some.injEq,reduceCtorEq] at h<;>first
  | (subst h;exact ⟨_,by simp only [Op.stringOp,ByteArray.toList_eq];rfl,by constructor⟩)
  | skip
 split at h
 ·rename_i hle
  simp only [Option.some.injEq] at h;subst h
  have hs:a.size+b.size<=4611686018427387904:=hle
  refine ⟨.string (a++b),?_,?_⟩
  ·simp only [Op.stringOp]
   rw [if_neg (by rw [IntKind.max_i64];omega)]
   rfl
  ·have:(⟨(a.data.toList++b.data.toList).toArray⟩:ByteArray)=a++b:=by
    apply ByteArray.ext
    simp
   rw [this];exact .string _
 ·cases h
end
def apart (P:Program) (t:TypeId) (cs:List AV) (off:Nat):Option AV:=
 match P.underlying t,P.info? t with
 | some (.struct _),some i | some (.array _ _),some i=>if off+i.size<=cs.length then some (.agg ((cs.drop off).take i.size)) else none
 | some _,some _=>cs[off]?
 | _,_=>none
def gB (eq:TypeId->AV->AV->Option Bool) (P:Program) (xs ys:List AV):List Field->Option Bool
 | []=>some true
 | f::fs=>
  if f.name = "_" then gB eq P xs ys fs
  else match apart P f.type xs f.offset,apart P f.type ys f.offset with
   | some a,some b=>match eq f.type a b with
    | some true=>gB eq P xs ys fs
    | some false=>some false
    | none=>none
   | _,_=>none
def jZ (eq:TypeId->AV->AV->Option Bool) (P:Program) (e:TypeId) (c:Nat) (xs ys:List AV):List Nat->Option Bool
 | []=>some true
 | i::is=>match apart P e xs (i*c),apart P e ys (i*c) with
  | some a,some b=>match eq e a b with
   | some true=>jZ eq P e c xs ys is
   | some false=>some false
   | none=>none
  | _,_=>none
def wO (P:Program):Nat->TypeId->AV->AV->Option Bool
 | 0,_,_,_=>none
 | d+1,t,x,y=>
  match P.underlying t with
  | some .bool=>match x,y with
   | .bool a,.bool b=>some (a==b)
   | _,_=>none
  | some (.int _)=>match x,y with
   | .int k a,.int k' b=>if k=k' then some (a==b) else none
   | _,_=>none
  | some (.float _)=>match x,y with
   | .aL k (some a),.aL k' (some b)=>if k=k' then some (k.format.order a b==some .eq) else none
   | .aL k (some _),.aL k' none | .aL k none,.aL k' (some _) | .aL k none,.aL k' none=>if k=k' then some false else none
   | _,_=>none
  | some .string=>match x,y with
   | .string a,.string b=>some (a.data.toList==b.data.toList)
   | _,_=>none
  | some (.pointer _)=>match x,y with
   | .bI,.bI=>some true
   | .bI,.ptr _ _ | .ptr _ _,.bI | .bI,.dK _ _ | .dK _ _,.bI=>some false
   | _,_=>none
  | some (.slice _)=>match x,y with
   | .av,.av=>some true
   | .av,.slice _ _ _ _ | .slice _ _ _ _,.av=>some false
   | .av,.nl n _ | .nl n _,.av=>some (n==0)
   | _,_=>none
  | some (.map _ _)=>match x,y with
   | .fB,.fB=>some true
   | .fB,.map _ | .map _,.fB=>some false
   | _,_=>none
  | some (.func _ _ _)=>match x,y with
   | .nilFunc,.nilFunc=>some true
   | .nilFunc,.func _ _ _ | .func _ _ _,.nilFunc=>some false
   | _,_=>none
  | some (.interface _)=>match x,y with
   | .nilIface,.nilIface=>some true
   | .nilIface,.iface _ _ | .iface _ _,.nilIface=>some false
   | .iface tx vx,.iface ty vy=>if tx=ty then match P.info? tx with
     | some i=>if i.comparable then wO P d tx vx vy else none
     | none=>none
    else some false
   | _,_=>none
  | some (.struct fs)=>match x,y with
   | .agg xs,.agg ys=>if P.stoodInHeld t then none else gB (wO P d) P xs ys fs.toList
   | _,_=>none
  | some (.array n e)=>match x,y,P.info? e with
   | .agg xs,.agg ys,some i=>jZ (wO P d) P e i.size xs ys (List.range n)
   | _,_,_=>none
  | _=>none
section
variable {P : Program} {E : Env} {w : World}
theorem gC {t:TypeId} {cs:List AV} {off:Nat} {x:AV} {vs:Array Value} (h:apart P t cs off=some x) (hv:ay E cs vs.toList):
  ∃ v,(part t vs off).run P w=.ok v w/\ao E x v:=by
 unfold apart at h
 have agg:∀ i,P.info? t=some i->(isAgg t).run P w=.ok true w->(if off+i.size<=cs.length then some (AV.agg ((cs.drop off).take i.size)) else none)=some x->
   ∃ v,(part t vs off).run P w=.ok v w/\ao E x v:=by
  intro i hi ha h
  split at h
  ·rename_i hle
   simp only [Option.some.injEq] at h
   subst h
   refine ⟨.agg (vs.extract off (off+i.size)),?_,?_⟩
   ·simp [part,ha,sizeOf,run_typeInfo w hi]
   ·have:=(hv.drop off).take i.size
    refine .agg _ _ (by have:=this.1;simp at this ⊢;omega) (fun j y u h1 h2=>this.2 j y u h1 ?_)
    rw [←Array.getElem?_toList] at h2
    rw [Array.toList_extract] at h2
    have e:vs.toList.extract off (off+i.size)=(vs.toList.drop off).take i.size:=by
     rw [List.extract_eq_take_drop]
     congr 1
     omega
    rw [e] at h2;exact h2
  ·cases h
 have IQ:∀ d,P.underlying t=some d->(∀ fs,d≠.struct fs)->(∀ n e,d≠.array n e)->cs[off]?=some x->∃ v,(part t vs off).run P w=.ok v w/\ao E x v:=by
  intro d hd h1 h2 h
  obtain ⟨v,ey,hr⟩:=hv.get h
  have ha:(isAgg t).run P w=.ok false w:=by
   simp only [isAgg,Sem.run_bind,run_underlying hd,Result.andThen_ok]
   cases d<;>first | rfl | exact absurd rfl (h1 _) | exact absurd rfl (h2 _ _)
  have e:vs[off]?=some v:=by simpa using ey
  exact ⟨v,by simp [part,ha,e],hr⟩
 split at h
 ·rename_i fs i hu hi
  exact agg i hi (by simp [isAgg,run_underlying hu]) h
 ·rename_i a b i hu hi
  exact agg i hi (by simp [isAgg,run_underlying hu]) h
 ·rename_i d i h1 h2 hu hi
  refine IQ d hu ?_ ?_ h
  ·rintro fs rfl;exact h1 fs rfl
  ·rintro n e rfl;exact h2 n e rfl
 ·cases h
end
end Go.Abs
end
noncomputable section
namespace Go.Abs
section
variable {P : Program} {E : Env}
def W2 (P:Program) (E:Env) (D:Nat) (f:TypeId->AV->AV->Option Bool):Prop:=
 ∀ (w:World) t x y v u b,f t x y=some b->ao E x v->ao E y u->(Op.equalIn D t v u).run P w=.ok b w
theorem l7 {D:Nat} {f:TypeId->AV->AV->Option Bool} (hf:W2 P E D f) (w:World) {xs ys:List AV} {vs us:Array Value} (hx:ay E xs vs.toList) (hy:ay E ys us.toList):
  ∀ (fs:List Field) (b:Bool),gB f P xs ys fs=some b->(Op.eqFields D vs us fs).run P w=.ok b w
 | [],b,h=>by simp only [gB,Option.some.injEq] at h;subst h;rfl
 | g::fs,b,h=>by
  simp only [gB] at h
  simp only [Op.eqFields]
  by_cases hn : g.name = "_"
  ·rw [if_pos hn] at h
   rw [if_neg (by simpa using hn)]
   exact l7 hf w hx hy fs b h
  ·rw [if_neg hn] at h
   rw [if_pos hn]
   split at h
   ·rename_i x y h1 h2
    obtain ⟨v,hv,hrv⟩:=gC (w:=w) h1 hx
    obtain ⟨u,hu,W3⟩:=gC (w:=w) h2 hy
    simp only [Sem.run_bind,hv,hu,Result.andThen_ok]
    split at h
    ·rename_i he
     rw [hf w _ _ _ _ _ _ he hrv W3]
     simp only [Result.andThen_ok,Bool.not_true,Bool.false_eq_true,if_false]
     exact l7 hf w hx hy fs b h
    ·rename_i he
     rw [hf w _ _ _ _ _ _ he hrv W3]
     simp only [Option.some.injEq] at h;subst h
     simp
    ·cases h
   ·cases h
theorem tc {D:Nat} {f:TypeId->AV->AV->Option Bool} (hf:W2 P E D f) (w:World) {e:TypeId} {c:Nat} {xs ys:List AV} {vs us:Array Value} (hx:ay E xs vs.toList) (hy:ay E ys us.toList):
  ∀ (is:List Nat) (b:Bool),jZ f P e c xs ys is=some b->(Op.eqItems D e c vs us is).run P w=.ok b w
 | [],b,h=>by simp only [jZ,Option.some.injEq] at h;subst h;rfl
 | i::is,b,h=>by
  simp only [jZ] at h
  simp only [Op.eqItems]
  split at h
  ·rename_i x y h1 h2
   obtain ⟨v,hv,hrv⟩:=gC (w:=w) h1 hx
   obtain ⟨u,hu,W3⟩:=gC (w:=w) h2 hy
   simp only [Sem.run_bind,hv,hu,Result.andThen_ok]
   split at h
   ·rename_i he
    rw [hf w _ _ _ _ _ _ he hrv W3]
    simp only [Result.andThen_ok,Bool.not_true,Bool.false_eq_true,if_false]
    exact tc hf w hx hy is b h
   ·rename_i he
    rw [hf w _ _ _ _ _ _ he hrv W3]
    simp only [Option.some.injEq] at h;subst h
    simp
   ·cases h
  ·cases h
set_option maxHeartbeats 1600000 in
theorem K9:∀ (d D:Nat),d<=D->W2 P E D (wO P d)
 | 0,_,_=>fun w t x y v u b h=>by simp [wO] at h
 | d+1,0,h=>by omega
 | d+1,D+1,hle=>by
  intro w t x y v u b h hx hy
  have ih:=K9 d D (by omega)
  unfold wO at h
  cases hu:P.underlying t with
  | none=>simp [hu] at h
  | some ty=>
   simp only [hu] at h
   have ru:=run_underlying hu w
   cases ty with
   | bool=>
    simp only at h
    split at h
    ·cases hx;cases hy;simp at h;subst h;simp [Op.equalIn,ru]
    ·cases h
   | int k=>
    simp only at h
    split at h
    ·cases hx;cases hy;simp at h;obtain ⟨rfl,rfl⟩:=h;simp [Op.equalIn,ru]
    ·cases h
   | float k=>
    simp only at h
    split at h
    ·cases hx;cases hy;simp at h;obtain ⟨rfl,rfl⟩:=h;simp [Op.equalIn,ru,Op.floatEq]
    ·cases hx;cases hy;rename_i hn;simp at h;obtain ⟨rfl,rfl⟩:=h;simp [Op.equalIn,ru,Op.floatEq,nM hn]
    ·cases hx;cases hy;rename_i hn;simp at h;obtain ⟨rfl,rfl⟩:=h;simp [Op.equalIn,ru,Op.floatEq,j6 hn]
    ·cases hx;cases hy;rename_i hn _ _;simp at h;obtain ⟨rfl,rfl⟩:=h;simp [Op.equalIn,ru,Op.floatEq,j6 hn]
    ·cases h
   | string=>
    simp only at h
    split at h
    ·cases hx;cases hy;simp at h;subst h;simp [Op.equalIn,ru,beq_toListBytes,ByteArray.toList_eq]
    ·cases h
   | pointer e=>
    simp only at h
    split at h<;>first
     | (cases h;done)
     | (cases hx;cases hy;simp at h;subst h;simp [Op.equalIn,ru])
   | slice e=>
    simp only at h
    split at h
    ·cases hx;cases hy;simp at h;subst h;simp [Op.equalIn,ru]
    ·cases hx;cases hy;simp at h;subst h;simp [Op.equalIn,ru]
    ·cases hx;cases hy;simp at h;subst h;simp [Op.equalIn,ru]
    ·cases hx
     cases hy with
     | wD=>simp at h;subst h;simp [Op.equalIn,ru]
     | nl len cap cells b' o vs h0=>simp at h;subst h;simp [Op.equalIn,ru];omega
    ·cases hy
     cases hx with
     | wD=>simp at h;subst h;simp [Op.equalIn,ru]
     | nl len cap cells b' o vs h0=>simp at h;subst h;simp [Op.equalIn,ru];omega
    ·cases h
   | map k e=>
    simp only at h
    split at h<;>first
     | (cases h;done)
     | (cases hx;cases hy;simp at h;subst h;simp [Op.equalIn,ru])
   | func a b c=>
    simp only at h
    split at h<;>first
     | (cases h;done)
     | (cases hx;cases hy;simp at h;subst h;simp [Op.equalIn,ru])
   | interface ms=>
    simp only at h
    split at h
    ·cases hx;cases hy;simp at h;subst h;simp [Op.equalIn,ru]
    ·cases hx;cases hy;simp at h;subst h;simp [Op.equalIn,ru]
    ·cases hx;cases hy;simp at h;subst h;simp [Op.equalIn,ru]
    ·rename_i t1 x1 t2 x2
     cases hx with
     | iface _ _ v1 h1=>
     cases hy with
     | iface _ _ v2 h2=>
     split at h
     ·rename_i he;subst he
      cases hi:P.info? t1 with
      | none=>simp [hi] at h
      | some i=>
       simp only [hi] at h
       split at h
       ·rename_i hc
        have:=ih w _ _ _ _ _ _ h h1 h2
        simp [Op.equalIn,ru,run_typeInfo w hi,hc,this]
       ·cases h
     ·rename_i he
      simp at h;subst h
      simp [Op.equalIn,ru,he]
    ·cases h
   | struct fs=>
    simp only at h
    split at h
    ·rename_i xs ys
     cases hx with
     | agg _ vs hl hv=>
     cases hy with
     | agg _ us nJ ey=>
     split at h
     ·cases h
     ·rename_i hs
      have e:P.fieldsOf t=fs:=by simp [Program.fieldsOf,hu]
      rw [run_equalIn_struct w D t vs us (by rw [e];exact hu) (by simpa using hs),e]
      exact l7 ih w ⟨by simpa using hl,fun j x v h1 h2=>hv j x v h1 (by simpa using h2)⟩ ⟨by simpa using nJ,fun j x v h1 h2=>ey j x v h1 (by simpa using h2)⟩ _ _ h
    ·cases h
   | array n e=>
    simp only at h
    split at h
    ·rename_i xs ys i hi
     cases hx with
     | agg _ vs hl hv=>
     cases hy with
     | agg _ us nJ ey=>
     rw [run_equalIn_array w D vs us hu hi]
     have e':P.cellsOf e=i.size:=by simp [Program.cellsOf,hi]
     rw [e']
     exact tc ih w ⟨by simpa using hl,fun j x v h1 h2=>hv j x v h1 (by simpa using h2)⟩ ⟨by simpa using nJ,fun j x v h1 h2=>ey j x v h1 (by simpa using h2)⟩ _ _ h
    ·cases h
   | _=>simp at h
end
end Go.Abs
end
noncomputable section
namespace Go.Abs
def nf (d:TypeDesc) (n:Nat) (cs:List AV) (off:Nat):Option AV:=
 match d with
 | .struct _ | .array _ _=>if off+n<=cs.length then some (.agg ((cs.drop off).take n)) else none
 | _=>cs[off]?
def rowOf (H:af) (r:Nat):Option (List AV):=
 match H.get r with
 | some (.cells cs)=>some cs
 | _=>none
def iy (H:af) (r:Nat):Option (List AV):=if H.fH<=r then rowOf H r else none
theorem jV {H:af} {r:Nat} {cs:List AV} (h:iy H r=some cs):H.fH<=r:=by
 unfold iy at h
 split at h
 ·assumption
 ·cases h
theorem jT {H:af} {r:Nat} {cs:List AV} (h:iy H r=some cs):rowOf H r=some cs:=by
 unfold iy at h
 split at h
 ·exact h
 ·cases h
def nN (P:Program) (H:af) (t:TypeId) (x:AV):Option AV:=
 match P.underlying t,P.info? t with
 | some d,some i=>
  match x with
  | .ptr r off=>match rowOf H r with
   | some cs=>nf d i.size cs off
   | none=>none
  | .dK cs off=>nf d i.size cs off
  | _=>none
 | _,_=>none
def gq (P:Program) (s:TypeId) (x:AV) (f:Nat):Option AV:=
 match P.underlying s with
 | some (.struct fs)=>match fs[f]? with
  | some fd=>match P.info? fd.type with
   | some i=>if i.size=0 then none else
    match x with
    | .ptr r off=>some (.ptr r (off+fd.offset))
    | .dK cs off=>some (.dK cs (off+fd.offset))
    | _=>none
   | none=>none
  | none=>none
 | _=>none
def gr (P:Program) (t:TypeId) (x ix:AV):Option AV:=
 match ix with
 | .int _ n=>
  match P.underlying t,x with
  | some (.slice e),.slice r off len _=>match P.info? e with
   | some i=>if 0<=n/\n<len then some (.ptr r (off+n.toNat*i.size)) else none
   | none=>none
  | some (.slice e),.list len cells=>match P.info? e with
   | some i=>if 0<=n/\n<len/\0<cells.length then some (.dK cells (n.toNat*i.size)) else none
   | none=>none
  | some (.array len e),.ptr r off=>match P.info? e with
   | some i=>if 0<=n/\n<len then some (.ptr r (off+n.toNat*i.size)) else none
   | none=>none
  | some (.array len e),.dK cells off=>match P.info? e with
   | some i=>if 0<=n/\n<len then some (.dK cells (off+n.toNat*i.size)) else none
   | none=>none
  | _,_=>none
 | _=>none
def ze (P:Program) (t:TypeId) (x ix:AV):Option AV:=
 match ix with
 | .int _ n=>
  match P.underlying t,x with
  | some (.array len e),.agg cs=>match P.info? e with
   | some i=>if 0<=n/\n<len then apart P e cs (n.toNat*i.size) else none
   | none=>none
  | some .string,.string s=>if 0<=n then match s.data.toList[n.toNat]? with
   | some b=>some (.int .u8 b.toNat)
   | none=>none
   else none
  | _,_=>none
 | _=>none
def rj (P:Program) (t:TypeId) (x:AV) (f:Nat):Option AV:=
 match P.underlying t,x with
 | some (.struct fs),.agg cs=>match fs[f]? with
  | some fd=>apart P fd.type cs fd.offset
  | none=>none
 | _,_=>none
section
variable {P : Program} {F G : Nat → Prop} {i : Nat → Nat} {H : af} {w : World}
theorem cell_of {w:World} {b off:Nat} {c:Array Value} {e:TypeId} {z:Nat × Nat} (h:w.heap[b]?=some (.cells c e z)):w.cell? ⟨b,off,none⟩=c[off]?:=by
 simp [World.cell?,h]
theorem MO {w:World} {b off:Nat} {c:Array Value} {e:TypeId} {z:Nat × Nat} (h:w.heap[b]?=some (.cells c e z)):w.frozen? ⟨b,off,none⟩=(decide (z.1<=off)&&decide (off<z.2)):=by
 simp [World.frozen?,h]
theorem gp {H:af} {r:Nat} {cs:List AV} (h:rowOf H r=some cs):H.get r=some (.cells cs):=by
 unfold rowOf at h
 split at h
 ·rename_i dE hc;simp at h;subst h;exact hc
 ·cases h
theorem ba.cells {F G:Nat->Prop} {i:Nat->Nat} {H:af} {h:Array Obj} (hH:ba F G i H h) {r:Nat} {cs:List AV} (hr:rowOf H r=some cs):
  r<H.n/\∃ c e z,h[i r]?=some (.cells c e z)/\pU ⟨F,h,i,H.n⟩ cs c z:=by
 have hr:=gp hr
 obtain ⟨o,ho,ml⟩:=hH.row r _ hr
 cases ml with
 | cells _ c e z hc=>exact ⟨af.cT hr,c,e,z,ho,hc⟩
theorem wQ {E:Env} {t:TypeId} {d:TypeDesc} {inf:TypeInfo} (hd:P.underlying t=some d) (hi:P.info? t=some inf) {b o off:Nat} {c:Array Value} {e:TypeId} {z:Nat × Nat}
  (hb:w.heap[b]?=some (.cells c e z)) {cs:List AV} (hl:o+cs.length<=c.size) (hv:∀ (j:Nat) (x:AV) (v:Value),cs[j]?=some x->c[o+j]?=some v->ao E x v) {x:AV}
  (h:nf d inf.size cs off=some x):∃ v,(loadVar t ⟨b,o+off,none⟩).run P w=.ok v w/\ao E x v:=by
 have get:∀ j,j<cs.length->∃ v,c[o+j]?=some v:=fun j hj=>⟨c[o+j]'(by omega),by simp [show o+j<c.size by omega]⟩
 have agg:(isAgg t).run P w=.ok true w->(if off+inf.size<=cs.length then some (AV.agg ((cs.drop off).take inf.size)) else none)=some x->
   ∃ v,(loadVar t ⟨b,o+off,none⟩).run P w=.ok v w/\ao E x v:=by
  intro ha h
  split at h
  ·rename_i hle
   simp only [Option.some.injEq] at h
   subst h
   let vs:=(c.toList.drop (o+off)).take inf.size
   have Sz:vs.length=inf.size:=by simp [vs];omega
   have OO:∀ (j:Nat) (v:Value),vs[j]?=some v->j<inf.size/\c[o+off+j]?=some v:=by
    intro j v hj
    simp only [vs,List.getElem?_take,List.getElem?_drop] at hj
    split at hj
    ·rename_i cC;exact ⟨cC,by simpa using hj⟩
    ·cases hj
   have VS:=run_loadCells_list (P:=P) w ⟨b,o+off,none⟩ vs (fun j v hj=>by
    rw [Addr.add_lit,cell_of hb];exact (OO j v hj).2)
   rw [Sz] at VS
   refine ⟨.agg vs.toArray,by simp [loadVar,ha,sizeOf,run_typeInfo w hi,VS],?_⟩
   refine .agg _ _ (by simp [Sz];omega) (fun j y u h1 h2=>?_)
   have h2:vs[j]?=some u:=by simpa using h2
   obtain ⟨hj,hc⟩:=OO j u h2
   rw [List.getElem?_take,if_pos hj,List.getElem?_drop] at h1
   exact hv (off+j) y u h1 (by rw [←Nat.add_assoc];exact hc)
  ·cases h
 have IQ:(isAgg t).run P w=.ok false w->cs[off]?=some x->∃ v,(loadVar t ⟨b,o+off,none⟩).run P w=.ok v w/\ao E x v:=by
  intro ha h
  obtain ⟨v,ey⟩:=get off (List.getElem?_eq_some_iff.1 h).1
  refine ⟨v,?_,hv off x v h ey⟩
  have hc:=cell_of (off:=o+off) hb
  rw [ey] at hc
  simp only [loadVar,Sem.run_bind,ha,Result.andThen_ok,Bool.false_eq_true,if_false,run_load,hc]
 have ha:(isAgg t).run P w=.ok (match d with | .struct _ | .array _ _=>true | _=>false) w:=by
  simp only [isAgg,Sem.run_bind,run_underlying hd,Result.andThen_ok]
  cases d<;>rfl
 cases d<;>first
  | exact agg ha h
  | exact IQ ha h
theorem CG (hH:ba F G i H w.heap) {t:TypeId} {x y:AV} {v:Value} (hx:ao ⟨F,w.heap,i,H.n⟩ x v) (h:nN P H t x=some y):
  ∃ u,(Instr.loadAt t v).run P w=.ok u w/\ao ⟨F,w.heap,i,H.n⟩ y u:=by
 unfold nN at h
 split at h
 ·rename_i d inf hd hi
  split at h
  ·rename_i r off
   split at h
   ·rename_i cs hr
    obtain ⟨cC,c,e,z,hb,hc⟩:=hH.cells hr
    cases hx
    have:=wQ (P:=P) (w:=w) (o:=0) hd hi hb (by simpa using hc.len) (fun j x v h1 h2=>hc.val j x v h1 (by simpa using h2)) h
    simpa [Instr.loadAt,Instr.sureAddr] using this
   ·cases h
  ·rename_i cs off
   cases hx with
   | dK _ _ b o vs hF hm hl hv=>
    obtain ⟨c,e,z,hb,hs,hc⟩:=hm
    have:=wQ (P:=P) (w:=w) (o:=o) hd hi hb (by omega) (fun j x v h1 h2=>by
     have hj:j<vs.length:=by rw [←hl];exact (List.getElem?_eq_some_iff.1 h1).1
     have:=hc j vs[j] (by simp [hj])
     rw [this] at h2;simp at h2;subst h2
     exact hv j x _ h1 (by simp [hj])) h
    simpa [Instr.loadAt,Instr.sureAddr] using this
  ·cases h
 ·cases h
theorem zq {E:Env} {s:TypeId} {x y:AV} {f:Nat} {v:Value} (hx:ao E x v) (h:gq P s x f=some y):
  ∃ u,(Instr.fieldAt s v f).run P w=.ok u w/\ao E y u:=by
 unfold gq at h
 split at h
 ·rename_i fs hs
  split at h
  ·rename_i fd hfd
   split at h
   ·rename_i inf hi
    split at h
    ·cases h
    ·rename_i hz
     split at h
     ·rename_i r off
      cases hx with
      | ptr _ _ hr=>
       simp only [Option.some.injEq] at h;subst h
       refine ⟨.pointer (some ⟨E.i r,off+fd.offset,none⟩),?_,.ptr r _ hr⟩
       simp [Instr.fieldAt,run_underlying hs,hfd,Instr.sureAddr,fieldPlace,sizeOf,run_typeInfo w hi,hz,Addr.add_lit]
     ·rename_i cells off
      cases hx with
      | dK _ _ b o vs hF hm hl hv=>
       simp only [Option.some.injEq] at h;subst h
       refine ⟨.pointer (some ⟨b,o+(off+fd.offset),none⟩),?_,.dK cells _ b o vs hF hm hl hv⟩
       simp [Instr.fieldAt,run_underlying hs,hfd,Instr.sureAddr,fieldPlace,sizeOf,run_typeInfo w hi,hz,Addr.add_lit,Nat.add_assoc]
     ·cases h
   ·cases h
  ·cases h
 ·cases h
theorem zr {E:Env} {t:TypeId} {x ix y:AV} {v iv:Value} (hx:ao E x v) (hi:ao E ix iv) (h:gr P t x ix=some y):
  ∃ u,(Instr.indexAt t v iv).run P w=.ok u w/\ao E y u:=by
 unfold gr at h
 split at h
 ·rename_i k n
  cases hi
  split at h
  ·rename_i e r off len aA hu
   cases hx with
   | slice _ _ _ _ cap hr hc hb=>
    split at h
    ·rename_i inf bt
     split at h
     ·rename_i hn
      simp only [Option.some.injEq] at h;subst h
      refine ⟨_,?_,.ptr r _ hr⟩
      simp [Instr.indexAt,asIntOf,run_underlying hu,hn,sizeOf,run_typeInfo w bt,Addr.add_lit]
     ·cases h
    ·cases h
  ·rename_i e len cells hu
   split at h
   ·rename_i inf bt
    split at h
    ·rename_i hn
     obtain ⟨h0,h1,h2⟩:=hn
     simp only [Option.some.injEq] at h;subst h
     cases hx with
     | bY=>simp at h2
     | list _ cap _ b o vs hc hF hm hl hv=>
      refine ⟨.pointer (some ⟨b,o+n.toNat*inf.size,none⟩),?_,.dK cells _ b o vs hF hm hl hv⟩
      simp [Instr.indexAt,asIntOf,run_underlying hu,h0,h1,sizeOf,run_typeInfo w bt,Addr.add_lit]
    ·cases h
   ·cases h
  ·rename_i len e r off hu
   split at h
   ·rename_i inf bt
    split at h
    ·rename_i hn
     simp only [Option.some.injEq] at h;subst h
     cases hx with
     | ptr _ _ hr=>
      refine ⟨_,?_,.ptr r _ hr⟩
      simp [Instr.indexAt,asIntOf,run_underlying hu,hn,sizeOf,run_typeInfo w bt,Addr.add_lit,Instr.sureAddr]
    ·cases h
   ·cases h
  ·rename_i len e cells off hu
   split at h
   ·rename_i inf bt
    split at h
    ·rename_i hn
     simp only [Option.some.injEq] at h;subst h
     cases hx with
     | dK _ _ b o vs hF hm hl hv=>
      refine ⟨.pointer (some ⟨b,o+(off+n.toNat*inf.size),none⟩),?_,.dK cells _ b o vs hF hm hl hv⟩
      simp [Instr.indexAt,asIntOf,run_underlying hu,hn,sizeOf,run_typeInfo w bt,Addr.add_lit,Instr.sureAddr,Nat.add_assoc]
    ·cases h
   ·cases h
  ·cases h
 ·cases h
theorem IS {E:Env} {t:TypeId} {x ix y:AV} {v iv:Value} (hx:ao E x v) (hi:ao E ix iv) (h:ze P t x ix=some y):
  ∃ u,(Instr.index t v iv).run P w=.ok u w/\ao E y u:=by
 unfold ze at h
 split at h
 ·rename_i k n
  cases hi
  split at h
  ·rename_i len e cs hu
   cases hx with
   | agg _ vs hl hv=>
    split at h
    ·rename_i inf bt
     split at h
     ·rename_i hn
      obtain ⟨u,h1,h2⟩:=gC (w:=w) h ⟨by simpa using hl,fun j x v a b=>hv j x v a (by simpa using b)⟩
      refine ⟨u,?_,h2⟩
      simp [Instr.index,asIntOf,run_underlying hu,hn,sizeOf,run_typeInfo w bt,h1]
     ·cases h
    ·cases h
  ·rename_i s hu
   cases hx
   split at h
   ·rename_i hn
    split at h
    ·rename_i b hb
     simp only [Option.some.injEq] at h;subst h
     refine ⟨_,?_,.int _ _⟩
     have DJ:s[n.toNat]?=some b:=by
      have cC:n.toNat<s.data.toList.length:=(List.getElem?_eq_some_iff.1 hb).1
      have fI:n.toNat<s.size:=cC
      rw [getElem?_pos s n.toNat fI]
      rw [List.getElem?_eq_getElem cC] at hb
      exact hb
     simp [Instr.index,asIntOf,run_underlying hu,hn,DJ]
    ·cases h
   ·cases h
  ·cases h
 ·cases h
theorem IT {E:Env} {t:TypeId} {x y:AV} {f:Nat} {v:Value} (hx:ao E x v) (h:rj P t x f=some y):
  ∃ u,(Instr.field t v f).run P w=.ok u w/\ao E y u:=by
 unfold rj at h
 split at h
 ·rename_i fs cs hu
  cases hx with
  | agg _ vs hl hv=>
   split at h
   ·rename_i fd hfd
    obtain ⟨u,h1,h2⟩:=gC (w:=w) h ⟨by simpa using hl,fun j x v a b=>hv j x v a (by simpa using b)⟩
    exact ⟨u,by simp [Instr.field,run_underlying hu,hfd,asAgg,h1],h2⟩
   ·cases h
 ·cases h
end
end Go.Abs
end
noncomputable section
namespace Go.Abs
def ag:List AV->Nat->List AV->List AV
 | cs,_,[]=>cs
 | cs,off,x::xs=>ag (cs.set off x) (off+1) xs
def fx:Array Value->Nat->List Value->Array Value
 | c,_,[]=>c
 | c,off,v::vs=>fx (c.setIfInBounds off v) (off+1) vs
theorem cU:∀ (vs:List Value) (c:Array Value) (off:Nat),(fx c off vs).size=c.size
 | [],_,_=>rfl
 | v::vs,c,off=>by simp [fx,cU vs]
theorem df:∀ (xs:List AV) (cs:List AV) (off:Nat),(ag cs off xs).length=cs.length
 | [],_,_=>rfl
 | x::xs,cs,off=>by simp [ag,df xs]
theorem jA {E:Env}:∀ (xs:List AV) (vs:List Value) (cs:List AV) (c:Array Value) (off:Nat),ay E xs vs->cs.length<=c.size->
  (∀ (j:Nat) (x:AV) (v:Value),cs[j]?=some x->c[j]?=some v->ao E x v)->
  (∀ (j:Nat) (x:AV) (v:Value),(ag cs off xs)[j]?=some x->(fx c off vs)[j]?=some v->ao E x v)
 | [],[],cs,c,off,_,_,h=>h
 | [],_::_,_,_,_,h,_,_=>by simp [ay] at h
 | _::_,[],_,_,_,h,_,_=>by simp [ay] at h
 | x::xs,v::vs,cs,c,off,hr,hl,h=>by
  have hx:ao E x v:=hr.2 0 x v rfl rfl
  have W5:ay E xs vs:=⟨by have:=hr.1;simpa using this,fun j y u h1 h2=>hr.2 (j+1) y u (by simpa using h1) (by simpa using h2)⟩
  refine jA xs vs (cs.set off x) (c.setIfInBounds off v) (off+1) W5 (by simpa using hl) ?_
  intro j y u h1 h2
  rw [List.getElem?_set] at h1
  rw [Array.getElem?_setIfInBounds] at h2
  split at h1
  ·rename_i e
   rw [if_pos e] at h2
   split at h1
   ·split at h2
    ·simp at h1 h2;subst h1;subst h2;exact hx
    ·cases h2
   ·cases h1
  ·rename_i e
   rw [if_neg e] at h2
   exact h j y u h1 h2
theorem TD (h:Array Obj) (b:Nat) (o:Obj) (hb:h[b]?=some o):h.setIfInBounds b o=h:=by
 apply Array.ext_getElem?
 intro j
 rw [Array.getElem?_setIfInBounds]
 split
 ·rename_i e;subst e;rw [hb];simp [(Array.getElem?_eq_some_iff.1 hb).1]
 ·rfl
section
variable {P : Program} {F G : Nat → Prop} {i : Nat → Nat} {H : af}
theorem jU:∀ (vs:List Value) (w:World) (b off k:Nat) (c:Array Value) (e:TypeId) (z:Nat × Nat),w.heap[b]?=some (.cells c e z)->off+k+vs.length<=c.size->
  (∀ j,j<c.size->¬ (z.1<=j/\j<z.2))->(∀ v∈vs,v.oneCell'=true)->
  (storeCells ⟨b,off,none⟩ vs k).run P w=.ok () { w with heap:=w.heap.setIfInBounds b (.cells (fx c (off+k) vs) e z) }
 | [],w,b,off,k,c,e,z,hb,_,_,_=>by
  simp only [storeCells,fx,TD _ _ _ hb]
  rfl
 | v::vs,w,b,off,k,c,e,z,hb,hl,hz,hv=>by
  have nJ:off+k+vs.length+1<=c.size:=by simpa [Nat.add_assoc] using hl
  have cC:off+k<c.size:=by omega
  simp only [storeCells,Sem.run_bind,Addr.add_lit]
  rw [run_store P w _ v _ (hv v (by simp)),cell_of hb]
  simp only [Array.getElem?_eq_getElem cC,MO hb]
  have hf:(decide (z.1<=off+k)&&decide (off+k<z.2))=false:=by
   have:=hz (off+k) cC
   simp only [Bool.and_eq_false_iff,decide_eq_false_iff_not]
   omega
  rw [hf]
  simp only [Bool.false_eq_true,if_false,Result.andThen_ok]
  have OT:b<w.heap.size:=(Array.getElem?_eq_some_iff.1 hb).1
  have aeI:w.setCell ⟨b,off+k,none⟩ v={ w with heap:=w.heap.setIfInBounds b (.cells (c.setIfInBounds (off+k) v) e z) }:=by
   simp only [World.setCell]
   congr 1
   apply Array.ext_getElem?
   intro j
   rw [Array.getElem?_modify,Array.getElem?_setIfInBounds]
   split
   ·rename_i ej;subst ej
    have:w.heap[b]=.cells c e z:=by rw [Array.getElem?_eq_getElem OT] at hb;exact Option.some.inj hb
    simp [OT,this]
   ·rfl
  rw [aeI]
  have ih:=jU vs { w with heap:=w.heap.setIfInBounds b (.cells (c.setIfInBounds (off+k) v) e z) } b off (k+1) (c.setIfInBounds (off+k) v) e z
   (by simp [OT]) (by simp;omega) (by simpa using hz) (fun u hu=>hv u (by simp [hu]))
  rw [ih]
  simp only [fx,Nat.add_assoc]
  congr 2
  apply Array.ext_getElem?
  intro j
  simp only [Array.getElem?_setIfInBounds,Array.size_setIfInBounds]
  split<;>rfl
theorem ba.write {w:World} (hH:ba F G i H w.heap) {r:Nat} {cs:List AV} (hr:rowOf H r=some cs) (dm:H.fH<=r) {xs:List AV} {vs:List Value} {off:Nat}
  (hx:ay ⟨F,w.heap,i,H.n⟩ xs vs) (sX:∀ x∈xs,x.one=true) (hl:off+xs.length<=cs.length) (P:Program):
  ∃ w',(storeCells ⟨i r,off,none⟩ vs).run P w=.ok () w'/\ba F G i (H.ij r (.cells (ag cs off xs))) w'.heap/\Ext H.n F G i w F i w':=by
 obtain ⟨cC,c,e,z,hb,hc⟩:=hH.cells hr
 have hv1:∀ v∈vs,v.oneCell'=true:=by
  intro v hv
  obtain ⟨j,hj,rfl⟩:=List.getElem_of_mem hv
  have hjx:j<xs.length:=by rw [hx.1];exact hj
  exact (hx.2 j xs[j] _ (by simp [hjx]) (by simp [hj])).one (sX _ (List.getElem_mem hjx))
 have cc:=jU (P:=P) vs w (i r) off 0 c e z hb (by rw [←hx.1];have:=hc.len;omega) hc.free hv1
 refine ⟨_,cc,?_⟩
 have gI:=hH.put (gp hr) dm (.cells (fx c (off+0) vs) e z) (.cells (ag cs off xs))
  (fun c2 e2 z2 h2=>by rw [hb] at h2;cases h2;exact ⟨_,_,_,rfl,by rw [cU];exact Nat.le_refl _⟩) ?_
 ·exact gI
 ·have le:Env.le ⟨F,w.heap,i,H.n⟩ ⟨F,w.heap.setIfInBounds (i r) (.cells (fx c (off+0) vs) e z),i,H.n⟩:=by
   refine ⟨fun _ h=>h,?_,Nat.le_refl _,fun _ _=>rfl,?_⟩
   ·intro b hF
    rw [Array.getElem?_setIfInBounds,if_neg]
    rintro rfl
    exact (hH.out r _ (gp hr)).1 hF
   ·intro b c2 e2 z2 h2
    rw [Array.getElem?_setIfInBounds]
    by_cases H5:i r=b
    ·subst H5
     rw [hb] at h2;cases h2
     rw [if_pos rfl,if_pos (Array.getElem?_eq_some_iff.1 hb).1]
     exact ⟨_,_,_,rfl,by rw [cU];exact Nat.le_refl _⟩
    ·rw [if_neg H5];exact ⟨c2,e2,z2,h2,Nat.le_refl _⟩
  refine .cells _ _ _ _ ⟨by rw [df,cU];exact hc.len,?_,by rw [cU];exact hc.free⟩
  rw [Nat.add_zero]
  intro j x v h1 h2
  exact (jA xs vs cs c off hx hc.len hc.val j x v h1 h2).mono le
theorem ba.yK {w:World} (hH:ba F G i H w.heap) {cs:List AV} {vs:Array Value} (t:TypeId) (hl:cs.length<=vs.size)
  (hv:∀ (j:Nat) (x:AV) (v:Value),cs[j]?=some x->vs[j]?=some v->ao ⟨F,w.heap,i,H.n⟩ x v):
  ba F G (Abs.put i H.n w.heap.size) (H.push (.cells cs)) (w.alloc (.cells vs t)).heap/\Ext H.n F G i w F (Abs.put i H.n w.heap.size) (w.alloc (.cells vs t)):=by
 have ext:=iG (K:=H.n) (F:=F) (G:=G) (i:=i) (w:=w) (.cells vs t) hH.cn H.n w.heap.size (Nat.le_refl _)
 have le:Env.le ⟨F,w.heap,i,H.n⟩ ⟨F,(w.alloc (.cells vs t)).heap,Abs.put i H.n w.heap.size,H.n+1⟩:=ext.le (Nat.le_refl _) (Nat.le_succ _)
 refine ⟨hH.alloc _ _ (.cells cs vs t (0,0) ⟨hl,fun j x v h1 h2=>(hv j x v h1 h2).mono le,fun j _ h=>by omega⟩),ext⟩
end
end Go.Abs
end
noncomputable section
namespace Go.Abs
def mo (P:Program) (s:Sem Next) (F G:Nat->Prop) (i:Nat->Nat) (H:af) (w:World) (x:AV) (H':af):Prop:=
 ∃ (v:Value) (w':World) (i':Nat->Nat),(s.run P w=.ok (.value v) w'\/(s.run P w=.ok .skip w'/\v=undef))/\ao ⟨F,w'.heap,i',H'.n⟩ x v/\ba F G i' H' w'.heap/\
  Ext H.n F G i w F i' w'/\H.n<=H'.n
section
variable {P : Program} {F G : Nat → Prop} {i : Nat → Nat} {H : af} {w : World}
theorem bB (hH:ba F G i H w.heap) {s:Sem Value} {x:AV} (h:∃ v,s.run P w=.ok v w/\ao ⟨F,w.heap,i,H.n⟩ x v):
  mo P (do pure (.value (←s))) F G i H w x H:=by
 obtain ⟨v,h1,h2⟩:=h
 exact ⟨v,w,i,.inl (by simp [h1]),h2,hH,Ext.refl _ _ _ _ _,Nat.le_refl _⟩
theorem Iu (hH:ba F G i H w.heap) {s:Sem Value} {x:AV} (h:wB P s ⟨F,w.heap,i,H.n⟩ w x):
  mo P (do pure (.value (←s))) F G i H w x H:=by
 obtain ⟨v,n,h1,h2⟩:=h
 exact ⟨v,{ w with drawn:=n },i,.inl (by simp [h1]),h2,hH,nY n,Nat.le_refl _⟩
theorem re (hH:ba F G i H w.heap) {s:Sem Value} {cs:List AV} {vs:Array Value} {t:TypeId} {x:AV} {v:Value}
  (hs:s.run P w=.ok v (w.alloc (.cells vs t))) (hl:cs.length<=vs.size)
  (hv:∀ (j:Nat) (x:AV) (v:Value),cs[j]?=some x->vs[j]?=some v->ao ⟨F,w.heap,i,H.n⟩ x v)
  (hx:ao ⟨F,(w.alloc (.cells vs t)).heap,Abs.put i H.n w.heap.size,H.n+1⟩ x v):
  mo P (do pure (.value (←s))) F G i H w x (H.push (.cells cs)):=by
 obtain ⟨h1,h2⟩:=hH.yK t hl hv
 exact ⟨v,_,_,.inl (by simp [hs]),by simpa using hx,h1,h2,by simp⟩
theorem yH {t:TypeId} {inf:TypeInfo} {z:Value} (hi:P.info? t=some inf) (hz:inf.zero=some z) (w:World):(zeroValue t).run P w=.ok z w:=by
 simp [zeroValue,run_typeInfo w hi,hz]
def s5 (P:Program):Nat->TypeId->List Bool
 | 0,_=>[]
 | d+1,t=>match P.underlying t with
  | some (.slice e)=>match P.underlying e with
   | some (.int .u64)=>[true]
   | _=>[false]
  | some (.struct fs)=>fs.toList.flatMap fun f=>s5 P d f.type
  | some (.array n e)=>(List.replicate n (s5 P d e)).flatten
  | _=>[false]
def wC:List Bool->List AV->List AV
 | true::fs,.av::cs=>.nl 0 []::wC fs cs
 | _::fs,c::cs=>c::wC fs cs
 | _,cs=>cs
def uK (P:Program) (t:TypeId):AV->AV
 | .agg cs=>.agg (wC (s5 P 6 t) cs)
 | .av=>match s5 P 1 t with
  | [true]=>.nl 0 []
  | _=>.av
 | x=>x
theorem Cr (fs:List Bool):wC fs []=[]:=by
 cases fs with
 | nil=>rfl
 | cons f fs=>cases f<;>rfl
theorem Cs {E:Env}:∀ (fs:List Bool) {cs:List AV} {vs:List Value},ay E cs vs->ay E (wC fs cs) vs
 | [],cs,vs,h=>by cases cs<;>exact h
 | f::fs,[],vs,h=>by rw [Cr];exact h
 | f::fs,c::cs,vs,h=>by
  cases vs with
  | nil=>have:=h.1;simp at this
  | cons v vs=>
   have h1:ao E c v:=h.2 0 c v rfl rfl
   have h2:ay E cs vs:=⟨by have:=h.1;simp at this;exact this,fun j x u a b=>h.2 (j+1) x u (by simpa using a) (by simpa using b)⟩
   have ih:=Cs fs h2
   unfold wC
   split
   ·rename_i e1 e2
    simp only [List.cons.injEq] at e1 e2
    obtain ⟨rfl,rfl⟩:=e1
    obtain ⟨rfl,rfl⟩:=e2
    refine ay.cons ?_ ih
    cases h1;exact .wD
   ·rename_i e1 e2
    simp only [List.cons.injEq] at e1 e2
    obtain ⟨rfl,rfl⟩:=e1
    obtain ⟨rfl,rfl⟩:=e2
    exact ay.cons h1 ih
   ·exact h
theorem yJ {P:Program} {t:TypeId} {E:Env} {x:AV} {v:Value} (h:ao E x v):ao E (uK P t x) v:=by
 unfold uK
 split
 ·rename_i cs
  cases h with
  | agg _ vs hl hv=>
   have:=Cs (s5 P 6 t) (E:=E) (cs:=cs) (vs:=vs.toList) ⟨by simpa using hl,fun j x v a b=>hv j x v a (by simpa using b)⟩
   exact .agg _ vs (by simpa using this.1) fun j x v a b=>this.2 j x v a (by simpa using b)
 ·split
  ·cases h;exact .wD
  ·exact h
 ·exact h
def zeroOf (P:Program) (t:TypeId):Option AV:=
 match P.info? t with
 | some inf=>match inf.zero with
  | some z=>if (uK P t (cM z)).known then some (uK P t (cM z)) else none
  | none=>none
 | none=>none
theorem dC {t:TypeId} {x:AV} (h:zeroOf P t=some x) (E:Env) (w:World):∃ z,(zeroValue t).run P w=.ok z w/\ao E x z/\x.known=true:=by
 unfold zeroOf at h
 split at h
 ·rename_i inf hi
  split at h
  ·rename_i z hz
   split at h
   ·rename_i hk
    simp at h;subst h
    exact ⟨z,yH hi hz w,yJ (sW E z),hk⟩
   ·cases h
  ·cases h
 ·cases h
theorem wE (hH:ba F G i H w.heap) (t:TypeId) {x:AV} {v:Value} (hx:ao ⟨F,w.heap,i,H.n⟩ x v) (hk:x.known=true) {s:Sem Value}
  (hs:s.run P w=.ok (.pointer (some ⟨w.heap.size,0,none⟩)) (w.alloc (.cells v.cells t))):
  mo P (do pure (.value (←s))) F G i H w (.ptr H.n 0) (H.push (.cells x.cells)):=by
 have hc:=hx.cells hk
 refine re hH hs (by rw [hc.1];simp) (fun j y u h1 h2=>hc.2 j y u h1 (by simpa using h2)) ?_
 have:=ao.ptr (E:=⟨F,(w.alloc (.cells v.cells t)).heap,Abs.put i H.n w.heap.size,H.n+1⟩) H.n 0 (Nat.lt_succ_self _)
 simpa [aH] using this
theorem Iv (hH:ba F G i H w.heap) {t:TypeId} {x:AV} (h:zeroOf P t=some x):
  mo P (do pure (.value (←Instr.alloc t true (.tuple #[])))) F G i H w (.ptr H.n 0) (H.push (.cells x.cells)):=by
 obtain ⟨z,hz,hr,hk⟩:=dC h ⟨F,w.heap,i,H.n⟩ w
 refine wE hH t hr hk ?_
 simp only [Instr.alloc,Sem.run_bind,hz,Result.andThen_ok,newVar,newRow,run_newObj,Sem.run_pure]
 rfl
theorem O2 (hH:ba F G i H w.heap) (t:TypeId) {x:AV} {v:Value} (hx:ao ⟨F,w.heap,i,H.n⟩ x v) (hk:x.known=true):
  mo P (do pure (.value (←Instr.box t v))) F G i H w (.ptr H.n 0) (H.push (.cells x.cells)):=by
 refine wE hH t hx hk ?_
 simp only [Instr.box,Sem.run_bind,newVar,newRow,run_newObj,Result.andThen_ok,Sem.run_pure]
 rfl
def n5 (P:Program) (H:af) (t:TypeId) (x y:AV):Option af:=
 match x with
 | .ptr r off=>match iy H r,P.info? t with
  | some cs,some inf=>if y.known&&y.cells.length==inf.size&&y.cells.all AV.one&&decide (off+y.cells.length<=cs.length) then some (H.ij r (.cells (ag cs off y.cells))) else none
  | _,_=>none
 | _=>none
theorem Iw (hH:ba F G i H w.heap) {t:TypeId} {x y:AV} {v u:Value} {H':af} (hx:ao ⟨F,w.heap,i,H.n⟩ x v) (hy:ao ⟨F,w.heap,i,H.n⟩ y u) (h:n5 P H t x y=some H'):
  mo P (do Instr.storeAt t v u;pure .skip) F G i H w .top H':=by
 unfold n5 at h
 split at h
 ·rename_i r off
  split at h
  ·rename_i cs inf hwr hi
   have hr:=jT hwr
   split at h
   ·rename_i hc
    simp only [Bool.and_eq_true,beq_iff_eq,List.all_eq_true,decide_eq_true_eq] at hc
    obtain ⟨⟨⟨hk,hlen⟩,sX⟩,hle⟩:=hc
    simp only [Option.some.injEq] at h;subst h
    cases hx
    have n7:=hy.cells hk
    obtain ⟨w',h1,h2,h3⟩:=hH.write hr (jV hwr) n7 sX hle P
    refine ⟨undef,w',i,.inr ⟨?_,rfl⟩,.top _,h2,h3,by simp⟩
    have hs:u.cells.size=inf.size:=by rw [←hlen,n7.1];simp
    simp [Instr.storeAt,Instr.sureAddr,storeVar,sizeOf,run_typeInfo w hi,hs,h1]
   ·cases h
  ·cases h
 ·cases h
def gd (place:Nat->Option (Nat × Nat)):List AV->List (Nat × AV)->Option (List AV)
 | cs,[]=>some cs
 | cs,(k,x)::rest=>
  match place k with
  | none=>none
  | some (off,size)=>if x.known&&x.cells.length==size&&decide (off+size<=cs.length) then gd place (ag cs off x.cells) rest else none
theorem Ct:∀ (vs:List Value) (n:Nat) (cs:Array Value) (off:Nat),(vs.zipIdx n).foldl (fun cs (x:Value × Nat)=>cs.setIfInBounds (off+x.2) x.1) cs=fx cs (off+n) vs
 | [],n,cs,off=>rfl
 | v::vs,n,cs,off=>by
  simp only [List.zipIdx_cons,List.foldl_cons,fx]
  rw [Ct vs (n+1)]
  rfl
theorem mr {E:Env} {place:Nat->Option (Nat × Nat)}:∀ (ps:List (Nat × AV)) (mi:List (Nat × Value)) (cs dE:List AV) (vs:Array Value),gd place cs ps=some dE->
  ps.length=mi.length->(∀ (j:Nat) (p:Nat × AV) (q:Nat × Value),ps[j]?=some p->mi[j]?=some q->p.1=q.1/\ao E p.2 q.2)->ay E cs vs.toList->
  ∃ FO,Instr.fill place vs mi=some FO/\ay E dE FO.toList
 | [],[],cs,dE,vs,h,_,_,hv=>by simp only [gd,Option.some.injEq] at h;subst h;exact ⟨vs,rfl,hv⟩
 | [],_::_,_,_,_,_,h,_,_=>by simp at h
 | _::_,[],_,_,_,_,h,_,_=>by simp at h
 | (k,x)::ps,(k',u)::mi,cs,dE,vs,h,hl,hp,hv=>by
  obtain ⟨hk,hr⟩:=hp 0 (k,x) (k',u) rfl rfl
  simp only at hk hr
  subst hk
  simp only [gd] at h
  split at h
  ·cases h
  ·rename_i off size Mw
   split at h
   ·rename_i hc
    simp only [Bool.and_eq_true,beq_iff_eq,decide_eq_true_eq] at hc
    obtain ⟨⟨hkn,hlen⟩,hle⟩:=hc
    have n7:=hr.cells hkn
    have fI:u.cells.size=size:=by rw [←hlen,n7.1];simp
    have jJ:cs.length=vs.size:=by simpa using hv.1
    have e:u.cells.zipIdx.foldl (fun cs (x:Value × Nat)=>cs.setIfInBounds (off+x.2) x.1) vs=fx vs off u.cells.toList:=by
     rw [←Array.foldl_toList,Array.toList_zipIdx]
     exact Ct u.cells.toList 0 vs off
    have hv2:ay E (ag cs off x.cells) (fx vs off u.cells.toList).toList:=by
     refine ⟨by simp [df,cU,jJ],fun j y z h1 h2=>?_⟩
     exact jA x.cells u.cells.toList cs vs off n7 (by omega) (fun j y z a b=>hv.2 j y z a (by simpa using b)) j y z h1 (by simpa using h2)
    obtain ⟨FO,h1,h2⟩:=mr ps mi _ dE _ h (by simpa using hl) (fun j p q a b=>hp (j+1) p q (by simpa using a) (by simpa using b)) hv2
    refine ⟨FO,?_,h2⟩
    simp only [Instr.fill,Mw]
    rw [if_neg (by simp;omega)]
    rw [←h1]
    congr 1
   ·cases h
theorem qJ {α β:Type} (f:α->Sem β) (g:α->β):∀ (l:List α) (w:World),(∀ x∈l,∀ w,(f x).run P w=.ok (g x) w)->(l.mapM f).run P w=.ok (l.map g) w
 | [],w,_=>by simp
 | a::l,w,h=>by
  rw [List.mapM_cons]
  simp only [Sem.run_bind,h a (by simp) w,Result.andThen_ok,qJ f g l w (fun x hx=>h x (by simp [hx])),Sem.run_pure,List.map_cons]
theorem yQ {α β:Type} (f:α->Sem β) (g:α->β) (l:Array α) (w:World) (h:∀ x∈l.toList,∀ w,(f x).run P w=.ok (g x) w):(l.mapM f).run P w=.ok (l.map g) w:=by
 rw [Array.mapM_eq_mapM_toList]
 rw [Sem.run_map,qJ f g l.toList w h]
 have e:(l.toList.map g).toArray=l.map g:=by rw [←Array.toList_map]
 show Result.ok (l.toList.map g).toArray w=_
 rw [e]
def Cu (P:Program) (fs:List Field):Option (List (Nat × Nat)):=
 match fs with
 | []=>some []
 | f::fs=>match P.info? f.type,Cu P fs with
  | some inf,some l=>some ((f.offset,inf.size)::l)
  | _,_=>none
theorem yR:∀ {fs:List Field} {l:List (Nat × Nat)},Cu P fs=some l->l=fs.map (fun f=>(f.offset,P.cellsOf f.type))/\∀ f∈fs,∃ inf,P.info? f.type=some inf
 | [],l,h=>by simp [Cu] at h;subst h;simp
 | f::fs,l,h=>by
  simp only [Cu] at h
  split at h
  ·rename_i inf l' h1 h2
   simp at h;subst h
   obtain ⟨e,cR⟩:=yR h2
   refine ⟨by simp [e,Program.cellsOf,h1],?_⟩
   intro g hg
   rcases List.mem_cons.1 hg with rfl | hg
   ·exact ⟨inf,h1⟩
   ·exact cR g hg
  ·cases h
def yS (P:Program) (t:TypeId) (parts:List (Nat × AV)):Option AV:=
 match P.underlying t,zeroOf P t with
 | some (.struct fs),some z=>match Cu P fs.toList with
  | some l=>(gd (fun k=>l[k]?) z.cells parts).map .agg
  | none=>none
 | some (.array _ e),some z=>match P.info? e with
  | some inf=>(gd (fun k=>some (k*inf.size,inf.size)) z.cells parts).map .agg
  | none=>none
 | _,_=>none
theorem Mx {E:Env} {t:TypeId} {ps:List (Nat × AV)} {mi:Array (Nat × Value)} {y:AV} (h:yS P t ps=some y) (hl:ps.length=mi.size)
  (hp:∀ (j:Nat) (p:Nat × AV) (q:Nat × Value),ps[j]?=some p->mi[j]?=some q->p.1=q.1/\ao E p.2 q.2):∃ u,(Instr.build t mi).run P w=.ok u w/\ao E y u:=by
 have Ix:∀ (j:Nat) (p:Nat × AV) (q:Nat × Value),ps[j]?=some p->mi.toList[j]?=some q->p.1=q.1/\ao E p.2 q.2:=fun j p q a b=>hp j p q a (by simpa using b)
 unfold yS at h
 split at h
 ·rename_i fs z hu hz
  obtain ⟨zv,H4,mn,Mo⟩:=dC hz E w
  split at h
  ·rename_i l fI
   obtain ⟨el,cR⟩:=yR fI
   cases hf:gd (fun k=>l[k]?) z.cells ps with
   | none=>simp [hf] at h
   | some cs=>
    simp [hf] at h;subst h
    obtain ⟨FO,h1,h2⟩:=mr ps mi.toList z.cells cs zv.cells hf (by simpa using hl) Ix (mn.cells Mo)
    refine ⟨.agg FO,?_,.agg _ _ (by simpa using h2.1) (fun j x v a b=>h2.2 j x v a (by simpa using b))⟩
    have hm:=yQ (P:=P) (fun f:Field=>(do pure (f.offset,←sizeOf f.type):Sem (Nat × Nat))) (fun f=>(f.offset,P.cellsOf f.type)) fs w (by
     intro f hf w
     obtain ⟨inf,bt⟩:=cR f hf
     simp [run_sizeOf w bt])
    have e2:(fun k:Nat=>(fs.map (fun f=>(f.offset,P.cellsOf f.type)))[k]?)=(fun k:Nat=>l[k]?):=by
     funext k;rw [el];simp
    simp only [Instr.build,Sem.run_bind,H4,Result.andThen_ok,run_underlying hu,hm]
    rw [e2,h1]
    rfl
  ·cases h
 ·rename_i n e z hu hz
  obtain ⟨zv,H4,mn,Mo⟩:=dC hz E w
  split at h
  ·rename_i inf bt
   cases hf:gd (fun k=>some (k*inf.size,inf.size)) z.cells ps with
   | none=>simp [hf] at h
   | some cs=>
    simp [hf] at h;subst h
    obtain ⟨FO,h1,h2⟩:=mr ps mi.toList z.cells cs zv.cells hf (by simpa using hl) Ix (mn.cells Mo)
    refine ⟨.agg FO,?_,.agg _ _ (by simpa using h2.1) (fun j x v a b=>h2.2 j x v a (by simpa using b))⟩
    simp only [Instr.build,Sem.run_bind,H4,Result.andThen_ok,run_underlying hu,sizeOf,run_typeInfo w bt,Sem.run_pure]
    rw [h1]
    rfl
  ·cases h
 ·cases h
end
end Go.Abs
end
noncomputable section
namespace Go.Abs
def aX (z:List AV) (n:Nat):List AV:=(List.range n).map fun j=>(z[j%z.length]?).getD .top
def bC (P:Program) (H:af) (t:TypeId) (len:Nat) (parts:List (Nat × AV)):Option (AV × af):=
 match P.underlying t with
 | some (.slice e)=>match P.info? e,zeroOf P e with
  | some inf,some z=>
   if decide (len*inf.size<=16777216)&&z.cells.length==inf.size then
    (gd (fun k=>some (k*inf.size,inf.size)) (aX z.cells (len*inf.size)) parts).map fun cs=>(.slice H.n 0 len inf.size,H.push (.cells cs))
   else none
  | _,_=>none
 | _=>none
def dY (P:Program) (H:af) (t:TypeId) (len cap:AV):Option (AV × af):=
 match P.underlying t,len,cap with
 | some (.slice e),.int _ l,.int _ c=>match P.info? e,zeroOf P e with
  | some inf,some z=>
   if 0<=l/\l<=c/\c<=281474976710656/\inf.bytes*c<=281474976710656/\z.cells.length=inf.size then
    some (.slice H.n 0 l.toNat inf.size,H.push (.cells (aX z.cells (l.toNat*inf.size))))
   else none
  | _,_=>none
 | _,_,_=>none
def iT (len:Nat) (lo hi:Option AV):Option (Nat × Nat):=
 match (match lo with | none=>some 0 | some (.int _ n)=>if 0<=n then some n.toNat else none | _=>none),
    (match hi with | none=>some len | some (.int _ n)=>if 0<=n then some n.toNat else none | _=>none) with
 | some l,some h=>if l<=h/\h<=len then some (l,h) else none
 | _,_=>none
def Ir (P:Program) (e:TypeId) (x:AV) (n:Nat) (lo hi:Option AV) (H:af):Option AV:=
 match P.info? e,iT n lo hi with
 | some inf,some (l,h)=>match x with
  | .ptr r off=>match rowOf H r with
   | some cs=>if off+n*inf.size<=cs.length then
     (if l=h/\0<l then some (.list 0 []) else some (.slice r (off+l*inf.size) (h-l) inf.size)) else none
   | none=>none
  | .dK cs off=>if off+n*inf.size<=cs.length then
    (if l=h then some (.list 0 []) else some (.list (h-l) ((cs.drop (off+l*inf.size)).take ((h-l)*inf.size)))) else none
  | _=>none
 | _,_=>none
def q_ (P:Program) (H:af) (t:TypeId) (x:AV) (lo hi:Option AV):Option AV:=
 match P.underlying t with
 | some .string=>match x with
  | .string s=>match iT s.data.toList.length lo hi with
   | some (l,h)=>some (.string ⟨((s.data.toList.drop l).take (h-l)).toArray⟩)
   | none=>none
  | _=>none
 | some (.slice e)=>match P.info? e with
  | some inf=>match x with
   | .av=>match iT 0 lo hi with
    | some _=>some .av
    | none=>none
   | .slice r off len aA=>match iT len lo hi with
    | some (l,h)=>if aA=inf.size then (if l=h/\0<l then some (.list 0 []) else some (.slice r (off+l*inf.size) (h-l) inf.size)) else none
    | none=>none
   | .list len cs=>match iT len lo hi with
    | some (l,h)=>if l=h then some (.list 0 []) else if len*inf.size=cs.length/\cs≠[] then some (.list (h-l) ((cs.drop (l*inf.size)).take ((h-l)*inf.size))) else none
    | none=>none
   | _=>none
  | none=>none
 | some (.array n e)=>Ir P e x n lo hi H
 | some (.pointer a)=>match P.underlying a with
  | some (.array n e)=>Ir P e x n lo hi H
  | _=>none
 | _=>none
section
variable {P : Program} {F G : Nat → Prop} {i : Nat → Nat} {H : af} {w : World}
theorem yG {E:Env} {z:List AV} {zv:Array Value} (hz:ay E z zv.toList) (OX:z≠[]) (n:Nat):
  ay E (aX z n) ((Array.range n).map (fun j=>zv[j%zv.size]!)).toList:=by
 have fI:zv.size=z.length:=by have:=hz.1;simpa using this.symm
 have KW:0<z.length:=List.length_pos_iff.2 OX
 refine ⟨by simp [aX],fun j x v h1 h2=>?_⟩
 simp only [aX,List.getElem?_map] at h1
 simp only [Array.toList_map,Array.toList_range,List.getElem?_map] at h2
 by_cases hj:j<n
 ·simp only [List.getElem?_range hj,Option.map_some,Option.some.injEq] at h1 h2
  have hm:j%z.length<z.length:=Nat.mod_lt _ KW
  rw [List.getElem?_eq_getElem hm] at h1
  simp only [Option.getD_some] at h1
  rw [fI] at h2
  have Vu:j%z.length<zv.size:=by omega
  rw [getElem!_pos zv (j%z.length) Vu] at h2
  subst h1;subst h2
  exact hz.2 (j%z.length) _ _ (by rw [List.getElem?_eq_getElem hm]) (by simp [Vu])
 ·rw [List.getElem?_eq_none (by simp;omega)] at h1;simp at h1
theorem pL {vs:Array Value} {t:TypeId} {len cap aA:Nat} (hc:len<=cap) (hs:cap*aA<=vs.size):
  ao ⟨F,(w.alloc (.cells vs t)).heap,Abs.put i H.n w.heap.size,H.n+1⟩ (.slice H.n 0 len aA) (.slice (some ⟨w.heap.size,0,none⟩) len cap):=by
 have:=ao.slice (E:=⟨F,(w.alloc (.cells vs t)).heap,Abs.put i H.n w.heap.size,H.n+1⟩) H.n 0 len aA cap (Nat.lt_succ_self _) hc
  ⟨vs,t,(0,0),by show (w.alloc (.cells vs t)).heap[Abs.put i H.n w.heap.size H.n]?=_;rw [aH];show (w.heap.push _)[w.heap.size]?=_;simp,by omega⟩
 simpa [aH] using this
theorem s6 {inf:Nat}:∀ (ps:List (Nat × AV)) {c0 cs:List AV},gd (fun k=>some (k*inf,inf)) c0 ps=some cs->cs.length=c0.length
 | [],c0,cs,hf=>by simp [gd] at hf;rw [hf]
 | (k,x)::ps,c0,cs,hf=>by
  simp only [gd] at hf
  split at hf
  ·rw [s6 ps hf,df]
  ·cases hf
theorem n8 {E:Env} {t:TypeId} {len:Nat} {ps:List (Nat × AV)} {mi:Array (Nat × Value)} {y:AV} {H':af} (h:bC P H t len ps=some (y,H')) (hl:ps.length=mi.size)
  (hp:∀ (j:Nat) (p:Nat × AV) (q:Nat × Value),ps[j]?=some p->mi[j]?=some q->p.1=q.1/\ao E p.2 q.2) (w:World):
  ∃ e aA cs vs,y=.slice H.n 0 len aA/\H'=H.push (.cells cs)/\len*aA<=cs.length/\ay E cs vs.toList/\(Instr.buildSlice t len mi).run P w=.ok (.slice (some ⟨w.heap.size,0,none⟩) len len) (w.alloc (.cells vs e)):=by
 have Ix:∀ (j:Nat) (p:Nat × AV) (q:Nat × Value),ps[j]?=some p->mi.toList[j]?=some q->p.1=q.1/\ao E p.2 q.2:=fun j p q a b=>hp j p q a (by simpa using b)
 unfold bC at h
 split at h
 ·rename_i e hu
  split at h
  ·rename_i inf z bt hz
   obtain ⟨zv,H4,mn,Mo⟩:=dC hz E w
   split at h
   ·rename_i hc
    simp only [Bool.and_eq_true,decide_eq_true_eq,beq_iff_eq] at hc
    cases hf:gd (fun k=>some (k*inf.size,inf.size)) (aX z.cells (len*inf.size)) ps with
    | none=>simp [hf] at h
    | some cs=>
     simp only [hf,Option.map_some,Option.some.injEq,Prod.mk.injEq] at h
     obtain ⟨rfl,rfl⟩:=h
     have hzc:=mn.cells Mo
     have hlen:len*inf.size<=cs.length:=by rw [s6 ps hf];simp [aX]
     by_cases h0:len*inf.size=0
     ·obtain ⟨FO,h1,h2⟩:=mr ps mi.toList _ cs #[] hf (by simpa using hl) Ix (by rw [h0];exact ⟨rfl,fun j x v h=>by simp [aX] at h⟩)
      refine ⟨e,inf.size,cs,FO,rfl,rfl,hlen,h2,?_⟩
      have bM:Instr.fill (fun k=>some (k*inf.size,inf.size)) ((Array.range (len*inf.size)).map (fun j=>(#[]:Array Value)[j%(#[]:Array Value).size]!)) mi.toList=some FO:=by
       rw [h0,Array.range_zero',Array.map_empty];exact h1
      simp only [Instr.buildSlice,Sem.run_bind,run_underlying hu,Result.andThen_ok,sizeOf,run_typeInfo w bt,Sem.run_pure]
      rw [if_neg (by omega),if_pos h0]
      simp only [Sem.run_bind,Sem.run_pure,Result.andThen_ok]
      rw [bM]
      simp only [Sem.run_bind,newRow,run_newObj,Result.andThen_ok,Sem.run_pure]
      rfl
     ·have ek:z.cells≠[]:=by
       intro he;rw [he] at hc;simp at hc;apply h0;rw [←hc.2];simp
      obtain ⟨FO,h1,h2⟩:=mr ps mi.toList _ cs _ hf (by simpa using hl) Ix (yG hzc ek (len*inf.size))
      refine ⟨e,inf.size,cs,FO,rfl,rfl,hlen,h2,?_⟩
      simp only [Instr.buildSlice,Sem.run_bind,run_underlying hu,Result.andThen_ok,sizeOf,run_typeInfo w bt,Sem.run_pure]
      rw [if_neg (by omega),if_neg h0]
      simp only [Sem.run_bind,H4,Result.andThen_ok,Sem.run_pure]
      rw [h1]
      simp only [Sem.run_bind,newRow,run_newObj,Result.andThen_ok,Sem.run_pure]
      rfl
   ·cases h
  ·cases h
 ·cases h
theorem nK (hH:ba F G i H w.heap) {t:TypeId} {len:Nat} {ps:List (Nat × AV)} {mi:Array (Nat × Value)} {y:AV} {H':af} (h:bC P H t len ps=some (y,H')) (hl:ps.length=mi.size)
  (hp:∀ (j:Nat) (p:Nat × AV) (q:Nat × Value),ps[j]?=some p->mi[j]?=some q->p.1=q.1/\ao ⟨F,w.heap,i,H.n⟩ p.2 q.2):
  mo P (do pure (.value (←Instr.buildSlice t len mi))) F G i H w y H':=by
 obtain ⟨e,aA,cs,vs,rfl,rfl,h1,h2,h3⟩:=n8 h hl hp w
 exact re hH h3 (by rw [h2.1];simp) (fun j x v a b=>h2.2 j x v a (by simpa using b)) (pL (Nat.le_refl _) (by have:=h2.1;simp at this;omega))
theorem DG {n:Int} (h0:0<=n) (h1:n<=281474976710656):IntKind.i64.wrap n=n:=IntWalk.i64_in _ (by omega)
theorem yT (hH:ba F G i H w.heap) {t:TypeId} {len cap y:AV} {H':af} {lv cv:Value} (hl:ao ⟨F,w.heap,i,H.n⟩ len lv) (hc:ao ⟨F,w.heap,i,H.n⟩ cap cv) (h:dY P H t len cap=some (y,H')):
  mo P (do pure (.value (←Instr.makeSlice t lv cv))) F G i H w y H':=by
 unfold dY at h
 split at h
 ·rename_i e k l k2 c hu
  cases hl;cases hc
  split at h
  ·rename_i inf z bt hz
   obtain ⟨zv,H4,mn,Mo⟩:=dC hz ⟨F,w.heap,i,H.n⟩ w
   split at h
   ·rename_i DF
    obtain ⟨h0,h1,h2,h3,h4⟩:=DF
    simp only [Option.some.injEq,Prod.mk.injEq] at h
    obtain ⟨rfl,rfl⟩:=h
    have wl:IntKind.i64.wrap l=l:=DG h0 (by omega)
    have wc:IntKind.i64.wrap c=c:=DG (by omega) h2
    have hzc:=mn.cells Mo
    have tl:∀ n:Int,0<=n->n<=c->(decide (n<0)||decide (inf.bytes*n>2 ^ 48))=false:=by
     intro n hn hn2
     simp only [Bool.or_eq_false_iff,decide_eq_false_iff_not]
     refine ⟨by omega,?_⟩
     have:(inf.bytes:Int)*n<=inf.bytes*c:=Int.mul_le_mul_of_nonneg_left hn2 (by omega)
     have e:(2:Int) ^ 48=281474976710656:=by decide
     rw [e];omega
    have hlc:l.toNat*inf.size<=c.toNat*inf.size:=Nat.mul_le_mul_right _ (by omega)
    let vs:Array Value:=(Array.range (c.toNat*inf.size)).map (fun j=>(if c.toNat*inf.size=0 then (#[]:Array Value) else zv.cells)[j%(if c.toNat*inf.size=0 then (#[]:Array Value) else zv.cells).size]!)
    have jJ:vs.size=c.toNat*inf.size:=by simp [vs]
    have abm:∀ (j:Nat) (x:AV) (v:Value),(aX z.cells (l.toNat*inf.size))[j]?=some x->vs[j]?=some v->ao ⟨F,w.heap,i,H.n⟩ x v:=by
     intro j x v a b
     have hj:j<l.toNat*inf.size:=by
      have:=(List.getElem?_eq_some_iff.1 a).1;simpa [aX] using this
     have n9:c.toNat*inf.size≠0:=by omega
     have ek:z.cells≠[]:=by
      intro he;rw [he] at h4;simp at h4;apply n9;rw [←h4];simp
     have hr:=yG hzc ek (c.toNat*inf.size)
     refine hr.2 j x v ?_ ?_
     ·simp only [aX,List.getElem?_map] at a ⊢
      rw [List.getElem?_range (by omega)]
      rw [List.getElem?_range hj] at a
      exact a
     ·simp only [vs,if_neg n9] at b
      rw [Array.getElem?_toList];exact b
    refine re hH (vs:=vs) (t:=e) (v:=.slice (some ⟨w.heap.size,0,none⟩) l.toNat c.toNat) ?_ (by rw [jJ];simp [aX];omega) abm (pL (by omega) (by omega))
    simp only [Instr.makeSlice,Sem.run_bind,run_underlying hu,Result.andThen_ok,asInt,asIntOf,Sem.run_pure,run_typeInfo w bt,wl,wc]
    have e1:((decide (c<0)||decide (inf.bytes*c>2 ^ 48)||decide (l<0))||decide (l>c))=false:=by
     rw [tl c (by omega) (Int.le_refl _)]
     simp;omega
    rw [e1]
    simp only [Bool.false_eq_true,if_false,Sem.run_bind,run_askRoom,Result.andThen_ok,Sem.run_pure,sizeOf,run_typeInfo w bt]
    by_cases n9:c.toNat*inf.size=0
    ·simp only [n9,if_true,Sem.run_pure,Result.andThen_ok,newRow,Sem.run_bind,run_newObj,vs]
     rfl
    ·simp only [n9,if_false,Sem.run_bind,H4,Sem.run_pure,Result.andThen_ok,newRow,run_newObj,vs]
     rfl
   ·cases h
  ·cases h
 ·cases h
end
end Go.Abs
end
noncomputable section
namespace Go.Abs
def qB (E:Env):Option AV->Option Value->Prop
 | none,none=>True
 | some x,some v=>ao E x v
 | _,_=>False
section
variable {P : Program} {F G : Nat → Prop} {i : Nat → Nat} {H : af} {w : World}
theorem nZ {k:IntKind} {n:Int} {y:Nat} {code:BoundsCode} (h0:0<=n) (h1:n.toNat<=y):(Instr.sliceBound (.int k n) y code).run P w=.ok n.toNat w:=by
 simp only [Instr.sliceBound,asIntOf,Sem.run_bind,Sem.run_pure,Result.andThen_ok]
 rw [if_pos ⟨h0,by omega⟩]
 rfl
theorem iA {E:Env} {n cap l h:Nat} {lo hi:Option AV} {jW fR:Option Value} (isSlice:Bool) (lq:qB E lo jW) (m8:qB E hi fR) (hc:n<=cap) (hb:iT n lo hi=some (l,h)):
  (Instr.sliceBounds isSlice n cap jW fR none).run P w=.ok (l,h,cap) w/\l<=h/\h<=n:=by
 unfold iT at hb
 split at hb
 ·rename_i l' h' nJ hh'
  split at hb
  ·rename_i hle
   simp only [Option.some.injEq,Prod.mk.injEq] at hb
   obtain ⟨rfl,rfl⟩:=hb
   refine ⟨?_,hle.1,hle.2⟩
   have e2:((match fR,(none:Option Value) with
     | some v,some _=>Instr.sliceBound v cap .slice3B
     | some v,none=>Instr.sliceBound v cap (if isSlice then .sliceAcap else .sliceAlen)
     | none,none=>pure n
     | none, some _ => stuck "Slice: max without high") : Sem Nat).run P w = .ok h' w := by
    cases hi with
    | none=>cases fR with
     | none=>simp at hh';subst hh';rfl
     | some v=>simp [qB] at m8
    | some x=>cases fR with
     | none=>simp [qB] at m8
     | some v=>
      simp only [qB] at m8
      cases m8<;>simp at hh'
      obtain ⟨h0,rfl⟩:=hh'
      exact nZ h0 (by omega)
   have e3:((match jW with
     | some v=>Instr.sliceBound v h' (if (none:Option Value).isSome then .slice3C else .sliceB)
     | none=>pure 0):Sem Nat).run P w=.ok l' w:=by
    cases lo with
    | none=>cases jW with
     | none=>simp at nJ;subst nJ;rfl
     | some v=>simp [qB] at lq
    | some x=>cases jW with
     | none=>simp [qB] at lq
     | some v=>
      simp only [qB] at lq
      cases lq<;>simp at nJ
      obtain ⟨h0,rfl⟩:=nJ
      exact nZ h0 (by omega)
   unfold Instr.sliceBounds
   simp only [Sem.run_bind,Sem.run_pure,Result.andThen_ok]
   have e2':=e2
   cases fR<;>cases jW<;>simp_all
  ·cases hb
 ·cases hb
theorem Mt {h:Array Obj} {b o:Nat} {vs:List Value} (hm:sZ h b o vs) (k n:Nat) (hk:k+n<=vs.length):sZ h b (o+k) ((vs.drop k).take n):=by
 obtain ⟨c,e,z,h1,h2,h3⟩:=hm
 refine ⟨c,e,z,h1,by simp;omega,fun j v hj=>?_⟩
 rw [List.getElem?_take] at hj
 split at hj
 ·rw [List.getElem?_drop] at hj
  have:=h3 _ v hj
  rw [←this];congr 1;omega
 ·cases hj
theorem yO {E:Env} {cs:List AV} {b o:Nat} {vs:List Value} (hF:E.F b) (hm:sZ E.h b o vs) (hl:cs.length=vs.length)
  (hv:∀ (j:Nat) (x:AV) (v:Value),cs[j]?=some x->vs[j]?=some v->ao E x v) (k n len cap:Nat) (hk:k+n<=cs.length) (hc:len<=cap):
  ao E (.list len ((cs.drop k).take n)) (.slice (some ⟨b,o+k,none⟩) len cap):=by
 have hs:=((show ay E cs vs from ⟨hl,hv⟩).drop k).take n
 exact .list len cap _ b (o+k) _ hc hF (Mt hm k n (by omega)) hs.1 hs.2
theorem FQ (hH:ba F G i H w.heap) {e:TypeId} {x y:AV} {v:Value} {n:Nat} {lo hi:Option AV} {jW fR:Option Value} (hx:ao ⟨F,w.heap,i,H.n⟩ x v)
  (lq:qB ⟨F,w.heap,i,H.n⟩ lo jW) (m8:qB ⟨F,w.heap,i,H.n⟩ hi fR) (h:Ir P e x n lo hi H=some y):
  ∃ a l k u,v=.pointer (some a)/\(Instr.sliceBounds false n n jW fR none).run P w=.ok (l,k,n) w/\(sizeOf e).run P w=.ok (P.cellsOf e) w/\
   u=.slice (some (if n=l then a else a.add (l*P.cellsOf e))) (k-l) (n-l)/\ao ⟨F,w.heap,i,H.n⟩ y u:=by
 unfold Ir at h
 split at h
 ·rename_i inf l k bt hb
  obtain ⟨cc,hlk,hkn⟩:=iA (P:=P) (w:=w) false lq m8 (Nat.le_refl n) hb
  have fI:=run_sizeOf (P:=P) w bt
  have cP:P.cellsOf e=inf.size:=by simp [Program.cellsOf,bt]
  split at h
  ·rename_i r off
   split at h
   ·rename_i cs hr
    obtain ⟨cC,c,e',z,Im,hc⟩:=hH.cells hr
    cases hx
    split at h
    ·rename_i hle
     refine ⟨_,l,k,_,rfl,cc,fI,rfl,?_⟩
     rw [cP]
     split at h
     ·rename_i h0
      simp only [Option.some.injEq] at h;subst h
      rw [h0.1,Nat.sub_self]
      exact .bY 0 _ _ (Nat.zero_le _)
     ·rename_i h0
      simp only [Option.some.injEq] at h;subst h
      have BY:off+l*inf.size+(n-l)*inf.size<=c.size:=by
       rw [Nat.add_assoc,←Nat.add_mul,Nat.add_sub_cancel' (by omega)]
       have:=hc.len;omega
      have hv:=ao.slice (E:=⟨F,w.heap,i,H.n⟩) r (off+l*inf.size) (k-l) inf.size (n-l) cC (by omega) ⟨c,e',z,Im,BY⟩
      by_cases Fx:n=l
      ·have:l=0:=by
        by_cases h1:l=0
        ·exact h1
        ·exact absurd ⟨by omega,by omega⟩ h0
       subst this
       rw [if_pos Fx]
       simpa using hv
      ·rw [if_neg Fx,Addr.add_lit];exact hv
    ·cases h
   ·cases h
  ·rename_i cs off
   cases hx with
   | dK _ _ b o vs hF hm hl hv=>
    split at h
    ·rename_i hle
     refine ⟨_,l,k,_,rfl,cc,fI,rfl,?_⟩
     rw [cP]
     split at h
     ·rename_i h0
      simp only [Option.some.injEq] at h;subst h
      rw [h0,Nat.sub_self]
      exact .bY 0 _ _ (Nat.zero_le _)
     ·rename_i h0
      simp only [Option.some.injEq] at h;subst h
      rw [if_neg (by omega),Addr.add_lit,Nat.add_assoc]
      refine yO hF hm hl hv (off+l*inf.size) ((k-l)*inf.size) (k-l) (n-l) ?_ (by omega)
      rw [Nat.add_assoc,←Nat.add_mul,Nat.add_sub_cancel' (by omega)]
      have:k*inf.size<=n*inf.size:=Nat.mul_le_mul_right _ hkn
      omega
    ·cases h
  ·cases h
 ·cases h
theorem Is (hH:ba F G i H w.heap) {t:TypeId} {x y:AV} {v:Value} {lo hi:Option AV} {jW fR:Option Value} (hx:ao ⟨F,w.heap,i,H.n⟩ x v)
  (lq:qB ⟨F,w.heap,i,H.n⟩ lo jW) (m8:qB ⟨F,w.heap,i,H.n⟩ hi fR) (h:q_ P H t x lo hi=some y):
  ∃ u,(Instr.sliceAt t v jW fR none).run P w=.ok u w/\ao ⟨F,w.heap,i,H.n⟩ y u:=by
 unfold q_ at h
 split at h
 ·rename_i hu
  split at h
  ·rename_i s
   cases hx
   split at h
   ·rename_i l k hb
    simp only [Option.some.injEq] at h;subst h
    obtain ⟨cc,h1,h2⟩:=iA (P:=P) (w:=w) false lq m8 (Nat.le_refl _) hb
    have fI:s.data.toList.length=s.size:=rfl
    rw [fI] at cc h2
    refine ⟨.string (s.extract l k),?_,?_⟩
    ·simp [Instr.sliceAt,run_underlying hu,Instr.slice,cc]
    ·have:(⟨((s.data.toList.drop l).take (k-l)).toArray⟩:ByteArray)=s.extract l k:=by
      apply ByteArray.ext
      rw [ByteArray.data_extract]
      apply Array.toList_inj.1
      rw [Array.toList_extract,List.extract_eq_take_drop]
     rw [this];exact .string _
   ·cases h
  ·cases h
 ·rename_i e hu
  split at h
  ·rename_i inf bt
   have cP:P.cellsOf e=inf.size:=by simp [Program.cellsOf,bt]
   split at h
   ·cases hx
    split at h
    ·rename_i lk hb
     obtain ⟨l,k⟩:=lk
     simp only [Option.some.injEq] at h;subst h
     obtain ⟨cc,h1,h2⟩:=iA (P:=P) (w:=w) true lq m8 (Nat.le_refl _) hb
     have:l=0:=by omega
     have:k=0:=by omega
     subst_vars
     refine ⟨.slice none 0 0,?_,.av⟩
     simp [Instr.sliceAt,run_underlying hu,Instr.slice,cc,run_sizeOf w bt]
    ·cases h
   ·rename_i r off len aA
    cases hx with
    | slice _ _ _ _ cap hr hc Im=>
     split at h
     ·rename_i l k hb
      obtain ⟨cc,h1,h2⟩:=iA (P:=P) (w:=w) true lq m8 hc hb
      obtain ⟨c,e',z,Im,hle⟩:=Im
      split at h
      ·rename_i hez;subst hez
       refine ⟨.slice (if cap=l then some ⟨i r,off,none⟩ else (some (⟨i r,off,none⟩:Addr)).map (·.add (l*inf.size))) (k-l) (cap-l),?_,?_⟩
       ·simp [Instr.sliceAt,run_underlying hu,Instr.slice,cc,run_sizeOf w bt,cP]
       split at h
       ·rename_i h0
        simp only [Option.some.injEq] at h;subst h
        rw [h0.1,Nat.sub_self]
        exact .bY 0 _ _ (Nat.zero_le _)
       ·rename_i h0
        simp only [Option.some.injEq] at h;subst h
        have BY:off+l*inf.size+(cap-l)*inf.size<=c.size:=by
         rw [Nat.add_assoc,←Nat.add_mul,Nat.add_sub_cancel' (by omega)];exact hle
        have hv:=ao.slice (E:=⟨F,w.heap,i,H.n⟩) r (off+l*inf.size) (k-l) inf.size (cap-l) hr (by omega) ⟨c,e',z,Im,BY⟩
        by_cases Fx:cap=l
        ·have:l=0:=by
          by_cases h1:l=0
          ·exact h1
          ·exact absurd ⟨by omega,by omega⟩ h0
         subst this
         rw [if_pos Fx]
         simpa using hv
        ·rw [if_neg Fx,Option.map_some,Addr.add_lit];exact hv
      ·cases h
     ·cases h
   ·rename_i len cs
    split at h
    ·rename_i l k hb
     have key:∀ a cap,v=.slice a len cap->len<=cap->∃ u,(Instr.sliceAt t v jW fR none).run P w=.ok u w/\u=.slice (if cap=l then a else a.map (·.add (l*inf.size))) (k-l) (cap-l):=by
      intro a cap hv hc
      obtain ⟨cc,h1,h2⟩:=iA (P:=P) (w:=w) true lq m8 hc hb
      subst hv
      exact ⟨_,by simp [Instr.sliceAt,run_underlying hu,Instr.slice,cc,run_sizeOf w bt,cP],rfl⟩
     have BY:=iA (P:=P) (w:=w) true lq m8 (Nat.le_refl len) hb
     obtain ⟨_,h1,h2⟩:=BY
     split at h
     ·rename_i h0
      simp only [Option.some.injEq] at h;subst h
      have fin:∀ a cap,v=.slice a len cap->len<=cap->∃ u,(Instr.sliceAt t v jW fR none).run P w=.ok u w/\ao ⟨F,w.heap,i,H.n⟩ (.list 0 []) u:=by
       intro a cap hv hc
       obtain ⟨u,Mu,rfl⟩:=key a cap hv hc
       exact ⟨_,Mu,by rw [h0,Nat.sub_self];exact .bY 0 _ _ (Nat.zero_le _)⟩
      cases hx with
      | bY _ cap a hc=>exact fin _ _ rfl hc
      | list _ cap _ b o vs hc hF hm hl hv=>exact fin _ _ rfl hc
     ·rename_i h0
      split at h
      ·rename_i hlen
       simp only [Option.some.injEq] at h;subst h
       cases hx with
       | bY=>exact absurd rfl hlen.2
       | list _ cap _ b o vs hc hF hm hl hv=>
        obtain ⟨u,Mu,rfl⟩:=key _ cap rfl hc
        refine ⟨_,Mu,?_⟩
        rw [if_neg (by omega),Option.map_some,Addr.add_lit]
        refine yO hF hm hl hv (l*inf.size) ((k-l)*inf.size) (k-l) (cap-l) ?_ (by omega)
        rw [←Nat.add_mul,Nat.add_sub_cancel' (by omega),←hlen.1]
        exact Nat.mul_le_mul_right _ h2
      ·cases h
    ·cases h
   ·cases h
  ·cases h
 ·rename_i n e hu
  obtain ⟨a,l,k,u,rfl,cc,fI,rfl,hr⟩:=FQ hH hx lq m8 h
  exact ⟨_,by simp [Instr.sliceAt,run_underlying hu,Instr.sureAddr,cc,fI],hr⟩
 ·rename_i a hu
  split at h
  ·rename_i n e WK
   obtain ⟨ad,l,k,u,rfl,cc,fI,rfl,hr⟩:=FQ hH hx lq m8 h
   exact ⟨_,by simp [Instr.sliceAt,run_underlying hu,run_underlying WK,Instr.slice,asAddr,cc,fI],hr⟩
  ·cases h
 ·cases h
end
end Go.Abs
end
noncomputable section
namespace Go.Abs
def fJ (s:ByteArray):List AV:=s.data.toList.map fun b=>.int .u8 b.toNat
def cL (H:af) (size:Nat):AV->Option (Nat × List AV)
 | .av=>some (0,[])
 | .slice r off len aA=>match rowOf H r with
  | some cs=>if aA=size/\off+len*size<=cs.length then some (len,(cs.drop off).take (len*size)) else none
  | none=>none
 | .list len cells=>if cells.length=len*size then some (len,cells) else none
 | .string s=>if size=1 then some (s.data.toList.length,fJ s) else none
 | _=>none
def yE (P:Program) (H:af) (xT:TypeId) (inf:TypeInfo) (z:AV) (x:AV):Option (Nat × List AV):=
 match P.underlying xT with
 | some (.int _)=>match x with
  | .int _ n=>if 0<=n/\n<=1048576/\inf.bytes<=1048576/\z.cells.length=inf.size then some (n.toNat,aX z.cells (n.toNat*inf.size)) else none
  | _=>none
 | some _=>cL H inf.size x
 | none=>none
def jy (P:Program) (H:af) (sT xT:TypeId) (s x:AV):Option (AV × af):=
 match P.underlying sT with
 | some (.slice e)=>match P.info? e,zeroOf P e with
  | some inf,some z=>match yE P H xT inf z x with
   | some (n,ys)=>
    if ys.all AV.one&&z.cells.length==inf.size then
     match s with
     | .av=>
      if n=0 then some (.av,H)
      else if n*(inf.bytes+1)<=549755813888 then some (.slice H.n 0 n inf.size,H.push (.cells ys)) else none
     | .slice r off len aA=>match iy H r with
      | some cs=>
       if off=0/\aA=inf.size/\len*inf.size<=cs.length/\(len+n)*(inf.bytes+1)<=549755813888 then
        some (.slice H.n 0 (len+n) inf.size,(H.kill r).push (.cells (cs.take (len*inf.size)++ys)))
       else none
      | none=>none
     | _=>none
    else none
   | none=>none
  | _,_=>none
 | _=>none
def yF (P:Program) (H:af) (dT:TypeId) (d s:AV):Option (AV × af):=
 match P.underlying dT with
 | some (.slice e)=>match P.info? e with
  | some inf=>match cL H inf.size s with
   | some (n,ys)=>match d with
    | .av=>some (.int .i64 0,H)
    | .list 0 []=>some (.int .i64 0,H)
    | .slice r off len aA=>match iy H r with
     | some cs=>
      if aA=inf.size/\off+len*inf.size<=cs.length/\(ys.take (min n len*inf.size)).all AV.one then
       some (.int .i64 (Int.ofNat (Nat.min n len)),H.ij r (.cells (ag cs off (ys.take (min n len*inf.size)))))
      else none
     | none=>none
    | _=>none
   | none=>none
  | none=>none
 | _=>none
def qW (P:Program) (H:af) (t:TypeId) (x:AV):Option af:=
 match x with
 | .av=>some H
 | .list 0 []=>some H
 | .slice _ _ 0 _=>some H
 | .slice r off len aA=>match P.underlying t with
  | some (.slice e)=>match P.info? e,zeroOf P e,iy H r with
   | some inf,some z,some cs=>
    if aA=inf.size/\z.cells.length=inf.size/\off+len*inf.size<=cs.length/\z.cells.all AV.one/\0<len/\z.cells≠[] then some (H.ij r (.cells (ag cs off (aX z.cells (len*inf.size))))) else none
   | _,_,_=>none
  | _=>none
 | _=>none
section
variable {P : Program} {F G : Nat → Prop} {i : Nat → Nat} {H : af} {w : World}
theorem B3 (E:Env) (s:ByteArray):ay E (fJ s) (s.data.map fun b=>Value.int .u8 b.toNat).toList:=by
 refine ⟨by simp [fJ],fun j x v h1 h2=>?_⟩
 simp only [fJ,List.getElem?_map] at h1
 rw [Array.toList_map,List.getElem?_map] at h2
 cases h:s.data.toList[j]? with
 | none=>simp [h] at h1
 | some b=>simp [h] at h1 h2;subst h1;subst h2;exact .int _ _
theorem jz (hH:ba F G i H w.heap) {size n:Nat} {x:AV} {v:Value} {ys:List AV} (hx:ao ⟨F,w.heap,i,H.n⟩ x v) (h:cL H size x=some (n,ys)):
  (Builtin.lenOf v).run P w=.ok n w/\ys.length=n*size/\∀ m,m<=n->∃ vs,(∀ o:Nat,(Builtin.firstCells size m v).run P { w with drawn:=o }=.ok vs { w with drawn:=o })/\ay ⟨F,w.heap,i,H.n⟩ (ys.take (m*size)) vs.toList:=by
 unfold cL at h
 split at h
 ·cases hx
  simp only [Option.some.injEq,Prod.mk.injEq] at h
  obtain ⟨rfl,rfl⟩:=h
  refine ⟨rfl,by simp,fun m hm=>⟨#[],fun _=>rfl,by simpa using ay.nil⟩⟩
 ·rename_i r off len aA
  cases hx with
  | slice _ _ _ _ cap hr hc hb=>
   split at h
   ·rename_i cs aG
    split at h
    ·rename_i DF
     obtain ⟨rfl,hle⟩:=DF
     simp only [Option.some.injEq,Prod.mk.injEq] at h
     obtain ⟨rfl,rfl⟩:=h
     obtain ⟨cC,c,e,z,Im,Mm⟩:=hH.cells aG
     refine ⟨rfl,by simp;omega,fun m hm=>?_⟩
     have hml:m*aA<=len*aA:=Nat.mul_le_mul_right _ hm
     let vs:=(c.toList.drop off).take (m*aA)
     have Sz:vs.length=m*aA:=by have:=Mm.len;simp [vs];omega
     have OO:∀ (j:Nat) (v:Value),vs[j]?=some v->j<m*aA/\c[off+j]?=some v:=by
      intro j v hj
      simp only [vs,List.getElem?_take,List.getElem?_drop] at hj
      split at hj
      ·rename_i cC;exact ⟨cC,by simpa using hj⟩
      ·cases hj
     have cc:=fun o:Nat=>run_firstCells_some (P:=P) { w with drawn:=o } aA m ⟨i r,off,none⟩ len cap vs Sz (fun j v hj=>by
      rw [Addr.add_lit,cell_of (w:={ w with drawn:=o }) Im];exact (OO j v hj).2)
     refine ⟨vs.toArray,cc,by simp [Sz];omega,fun j y u h1 h2=>?_⟩
     have h2:vs[j]?=some u:=by simpa using h2
     obtain ⟨hj,hcj⟩:=OO j u h2
     rw [List.take_take,List.getElem?_take,if_pos (by omega),List.getElem?_drop] at h1
     exact Mm.val _ y u h1 hcj
    ·cases h
   ·cases h
 ·rename_i len cells
  split at h
  ·rename_i hlen
   simp only [Option.some.injEq,Prod.mk.injEq] at h
   obtain ⟨rfl,rfl⟩:=h
   cases hx with
   | bY _ cap a hc=>
    refine ⟨rfl,hlen,fun m hm=>?_⟩
    have h0:m*size=0:=by
     have:m*size<=len*size:=Nat.mul_le_mul_right _ hm
     simp at hlen;omega
    refine ⟨#[],fun o=>?_,by simpa using ay.nil⟩
    cases a with
    | none=>rfl
    | some a=>simp only [Builtin.firstCells,h0];rfl
   | list _ cap _ b o vs hc hF hm hl hv=>
    refine ⟨rfl,hlen,fun m Vu=>?_⟩
    have hml:m*size<=len*size:=Nat.mul_le_mul_right _ Vu
    obtain ⟨c,e,z,Im,h1,h2⟩:=hm
    have Sz:(vs.take (m*size)).length=m*size:=by simp;omega
    have cc:=fun o':Nat=>run_firstCells_some (P:=P) { w with drawn:=o' } size m ⟨b,o,none⟩ len cap (vs.take (m*size)) Sz (fun j v hj=>by
     rw [List.getElem?_take] at hj
     split at hj
     ·rw [Addr.add_lit,cell_of (w:={ w with drawn:=o' }) Im];exact h2 j v hj
     ·cases hj)
    exact ⟨(vs.take (m*size)).toArray,cc,by simpa using (show ay _ cells vs from ⟨hl,hv⟩).take (m*size)⟩
  ·cases h
 ·rename_i s
  cases hx
  split at h
  ·rename_i h1;subst h1
   simp only [Option.some.injEq,Prod.mk.injEq] at h
   obtain ⟨rfl,rfl⟩:=h
   refine ⟨rfl,by simp [fJ],fun m hm=>⟨_,fun _=>rfl,?_⟩⟩
   have:=(B3 ⟨F,w.heap,i,H.n⟩ s).take (m*1)
   rw [Nat.mul_one] at this ⊢
   have e:(s.data.map fun b=>Value.int .u8 b.toNat).toList.take m=((s.extract 0 m).data.map fun b=>Value.int .u8 b.toNat).toList:=by
    rw [ByteArray.data_extract,Array.toList_map,Array.toList_map,Array.toList_extract,List.extract_eq_take_drop]
    simp
   rw [e] at this;exact this
  ·cases h
 ·cases h
theorem ba.move {h:Array Obj} (hH:ba F G i H h) {r:Nat} {row:eR} (hr:H.get r=some row) (dm:H.fH<=r):
  ba F G (Abs.put i H.n (i r)) ((H.kill r).push row) h:=by
 have cC:r<H.n:=af.cT hr
 have le:Env.le ⟨F,h,i,H.n⟩ ⟨F,h,Abs.put i H.n (i r),H.n+1⟩:=
  ⟨fun _ h=>h,fun _ _=>rfl,Nat.le_succ _,fun s hs=>bD hs,fun _ c e z h=>⟨c,e,z,h,Nat.le_refl _⟩⟩
 have split:∀ (s:Nat) (ro:eR),((H.kill r).push row).get s=some ro->(s≠r/\s<H.n/\H.get s=some ro)\/(s=H.n/\ro=row):=by
  intro s ro hs
  rcases af.dS hs with ⟨wy,hs⟩ | ⟨h1,h2⟩
  ·rw [af.fa hH.ok cC] at hs
   split at hs
   ·cases hs
   ·rename_i ek;exact .inl ⟨ek,wy,hs⟩
  ·exact .inr ⟨h1,h2⟩
 refine ⟨?_,?_,?_,hH.cn,hH.apart,by simp [af.push,af.kill,hH.ok]⟩
 ·intro s ro hs
  simp only [af.OP,af.WA]
  rcases split s ro hs with ⟨_,wy,hs⟩ | ⟨rfl,rfl⟩
  ·obtain ⟨o,ho,ml⟩:=hH.row s ro hs
   exact ⟨o,by rw [bD wy];exact ho,ml.mono le⟩
  ·obtain ⟨o,ho,ml⟩:=hH.row r ro hr
   exact ⟨o,by rw [aH];exact ho,ml.mono le⟩
 ·intro s ro hs
  rcases split s ro hs with ⟨_,wy,hs⟩ | ⟨rfl,rfl⟩
  ·rw [bD wy];exact hH.out s ro hs
  ·rw [aH];exact hH.out r ro hr
 ·intro s s' a b hs et e
  rcases split s a hs with ⟨ek,wy,hs⟩ | ⟨k,k2⟩<;>rcases split s' b et with ⟨Mn,aa7,et⟩ | ⟨k',k2'⟩
  ·rw [bD wy,bD aa7] at e;exact hH.inj s s' a b hs et e
  ·rw [bD wy,k',aH] at e;exact absurd (hH.inj s r a row hs hr e) ek
  ·rw [bD aa7,k,aH] at e;exact absurd (hH.inj r s' row b hr et e).symm Mn
  ·omega
theorem OQ {K:Nat} (r b:Nat) (hr:K<=r):Ext K F G i w F (Abs.put i r b) w:=
 ⟨fun _ h=>h,fun _ _=>rfl,Nat.le_refl _,fun _ c e z h=>⟨c,e,z,h,Nat.le_refl _⟩,fun _ hs=>bD (by omega),rfl,rfl,rfl⟩
theorem Cp (n:Nat):∀ (k c:Nat),Builtin.growBy n k c<=max c (2*n+192)
 | 0,c=>by simp [Builtin.growBy];omega
 | k+1,c=>by
  simp only [Builtin.growBy]
  split
  ·omega
  ·have:=Cp n k (c+(c+768) / 4)
   omega
theorem nextslicecap_le {n c:Nat} (h:c<n):Builtin.nextslicecap n c<=2*n+192:=by
 unfold Builtin.nextslicecap
 split
 ·omega
 ·split
  ·omega
  ·have:=Cp n 4 c;omega
def qX:TypeDesc->Bool
 | .int _=>true
 | _=>false
def Vv (P:Program) (xT e:TypeId) (xv:Value) (n:Nat) (w:World) (vs:Array Value):Prop:=
 ∃ (d:TypeDesc) (inf:TypeInfo),P.underlying xT=some d/\P.info? e=some inf/\
  ((qX d=true/\∃ k l,xv=.int k l/\0<=l/\l<=1048576/\inf.bytes<=1048576/\l.toNat=n/\
    ∀ (o:Nat),((if n*inf.size=0 then pure #[] else do pure (Builtin.zeroCells (←zeroValue e).cells n)):Sem (Array Value)).run P { w with drawn:=o }=.ok vs { w with drawn:=o })\/
   (qX d=false/\(Builtin.lenOf xv).run P w=.ok n w/\∀ o:Nat,(Builtin.firstCells inf.size n xv).run P { w with drawn:=o }=.ok vs { w with drawn:=o }))
theorem Cq {E:Env} {z:List AV} {zv:Array Value} (hz:ay E z zv.toList) (n size:Nat) (hs:z.length=size) (hn:n*size≠0):
  ay E (aX z (n*size)) (Builtin.zeroCells zv n).toList:=by
 have fI:zv.size=size:=by rw [←hs];have:=hz.1;simpa using this.symm
 have ek:z≠[]:=by rintro rfl;apply hn;rw [←hs];simp
 have:=yG hz ek (n*size)
 unfold Builtin.zeroCells
 rw [fI] at this ⊢
 exact this
theorem Io (hH:ba F G i H w.heap) {xT e:TypeId} {inf:TypeInfo} {z x:AV} {xv:Value} {n:Nat} {ys:List AV} (bt:P.info? e=some inf) (hz:zeroOf P e=some z)
  (hx:ao ⟨F,w.heap,i,H.n⟩ x xv) (h:yE P H xT inf z x=some (n,ys)):
  ys.length=n*inf.size/\∃ vs,Vv P xT e xv n w vs/\ay ⟨F,w.heap,i,H.n⟩ ys vs.toList:=by
 unfold yE at h
 split at h
 ·rename_i k hu
  split at h
  ·rename_i k2 l
   split at h
   ·rename_i hc
    obtain ⟨h0,h1,h2,h3⟩:=hc
    simp only [Option.some.injEq,Prod.mk.injEq] at h
    obtain ⟨rfl,rfl⟩:=h
    cases hx
    refine ⟨by simp [aX],?_⟩
    obtain ⟨zv,H4,mn,Mo⟩:=dC hz ⟨F,w.heap,i,H.n⟩ w
    by_cases hn:l.toNat*inf.size=0
    ·refine ⟨#[],⟨_,inf,hu,bt,.inl ⟨rfl,k2,l,rfl,h0,h1,h2,rfl,fun o=>by rw [if_pos hn];rfl⟩⟩,by rw [hn];exact ⟨rfl,fun j x v h=>by simp [aX] at h⟩⟩
    ·refine ⟨Builtin.zeroCells zv.cells l.toNat,⟨_,inf,hu,bt,.inl ⟨rfl,k2,l,rfl,h0,h1,h2,rfl,fun o=>?_⟩⟩,Cq (mn.cells Mo) _ _ h3 hn⟩
     obtain ⟨zv',WB,_,_⟩:=dC hz ⟨F,w.heap,i,H.n⟩ { w with drawn:=o }
     have:zv'=zv:=by
      have e1:(zeroValue e).run P w=.ok zv w:=H4
      unfold zeroOf at hz
      split at hz
      ·rename_i aa8 fR
       split at hz
       ·rename_i z0 KW
        rw [yH fR KW] at e1 WB
        injection e1 with a b
        injection WB with c d
        rw [←a,←c]
       ·cases hz
      ·cases hz
     subst this
     rw [if_neg hn]
     simp [WB]
   ·cases h
  ·cases h
 ·rename_i d hd hu
  obtain ⟨h1,h2,h3⟩:=jz (P:=P) hH hx h
  refine ⟨h2,?_⟩
  obtain ⟨vs,jJ,ml⟩:=h3 n (Nat.le_refl _)
  rw [List.take_of_length_le (by omega)] at ml
  refine ⟨vs,⟨d,inf,hu,bt,.inr ⟨?_,h1,jJ⟩⟩,ml⟩
  cases d<;>first | rfl | exact absurd rfl (hd _)
 ·cases h
end
end Go.Abs
end
noncomputable section
namespace Go.Abs
section
variable {P : Program} {F G : Nat → Prop} {i : Nat → Nat} {H : af} {w : World}
theorem nX:∀ (ys a b:List AV),b.length=ys.length->ag (a++b) a.length ys=a++ys
 | [],a,b,h=>by
  have:b=[]:=by cases b;rfl;simp at h
  subst this;simp [ag]
 | y::ys,a,[],h=>by simp at h
 | y::ys,a,b::bs,h=>by
  have e1:(a++b::bs).set a.length y=(a++[y])++bs:=by simp
  simp only [ag,e1]
  have:=nX ys (a++[y]) bs (by simpa using h)
  simp only [List.length_append,List.length_cons,List.length_nil] at this
  rw [this];simp
def f_ (w:World) (OR cn:Nat) (e:TypeId):Nat:=(Question.appendCap OR cn e).cut (w.tape w.drawn (.appendCap OR cn e))
theorem wz (w:World) (OR cn:Nat) (e:TypeId):OR<=f_ w OR cn e:=by
 simp only [f_,Question.cut];omega
theorem yI {sT xT e:TypeId} {rest:List TypeId} {inf:TypeInfo} {base:Option Addr} {ga qy n:Nat} {xv z:Value} {vs FJ:Array Value} (ty:TypeId)
  (hs:P.underlying sT=some (.slice e)) (bt:P.info? e=some inf) (ha:Vv P xT e xv n w vs) (hbound:(ga+n)*(inf.bytes+1)<=549755813888)
  (hold:∀ o:Nat,(Builtin.firstCells inf.size ga (.slice base ga qy)).run P { w with drawn:=o }=.ok FJ { w with drawn:=o })
  (hz:∀ w:World,(zeroValue e).run P w=.ok z w):
  (Builtin.append_ (sT::xT::rest).toArray ty #[.slice base ga qy,xv]).run P w=
   if ga+n<=qy then
    (match base with
     | some a=>(storeCells (a.add (ga*inf.size)) vs.toList).run P w
     | none=>.ok () w).andThen fun _ w'=>.ok (.slice base (ga+n) qy) w'
   else
    .ok (.slice (some ⟨w.heap.size,0,none⟩) (ga+n) (f_ w (ga+n) qy e))
     ({ w with drawn:=w.drawn+1 }.alloc (.cells (FJ++vs++Builtin.zeroCells z.cells (f_ w (ga+n) qy e-(ga+n))) e)):=by
 obtain ⟨d,aa8,hu,FK,OS⟩:=ha
 rw [bt] at FK;cases FK
 have aa9:¬ (Builtin.nextslicecap (ga+n) qy*inf.bytes>2 ^ 48)\/ga+n<=qy:=by
  by_cases hc:ga+n<=qy
  ·exact .inr hc
  ·left
   have h1:=nextslicecap_le (n:=ga+n) (c:=qy) (by omega)
   have h2:Builtin.nextslicecap (ga+n) qy*inf.bytes<=(2*(ga+n)+192)*inf.bytes:=Nat.mul_le_mul_right _ h1
   have h3:(2*(ga+n)+192)*inf.bytes=2*((ga+n)*inf.bytes)+192*inf.bytes:=by
    rw [Nat.add_mul,Nat.mul_assoc]
   have h4:(ga+n)*(inf.bytes+1)=(ga+n)*inf.bytes+(ga+n):=by rw [Nat.mul_add,Nat.mul_one]
   have h5:0<ga+n:=by omega
   have h6:inf.bytes<=(ga+n)*inf.bytes:=Nat.le_mul_of_pos_left _ h5
   omega
 have hint:∀ w:World,(do pure ((←underlying xT) matches .int _):Sem Bool).run P w=.ok (qX d) w:=by
  intro w
  simp only [Sem.run_bind,run_underlying hu,Result.andThen_ok,Sem.run_pure]
  cases d<;>rfl
 have cP:P.cellsOf e=inf.size:=by simp [Program.cellsOf,bt]
 have af0:ga+n<=549755813888:=by
  have:(ga+n)*1<=(ga+n)*(inf.bytes+1):=Nat.mul_le_mul_left _ (by omega)
  omega
 have forced:(Question.appendCap (ga+n) qy e).forced=false:=rfl
 rcases OS with ⟨hd,k,l,rfl,h0,h1,h2,h3,jJ⟩ | ⟨hd,hlen,jJ⟩
 ·have wl:IntKind.i64.wrap l=l:=DG h0 (by omega)
  have hlb:¬ (l*(inf.bytes:Int)>2 ^ 48):=by
   have:l*(inf.bytes:Int)<=1048576*1048576:=by
    have a:l*(inf.bytes:Int)<=1048576*(inf.bytes:Int):=Int.mul_le_mul_of_nonneg_right h1 (by omega)
    have b:(1048576:Int)*(inf.bytes:Int)<=1048576*1048576:=Int.mul_le_mul_of_nonneg_left (by omega) (by decide)
    omega
   have e:(2:Int) ^ 48=281474976710656:=by decide
   rw [e];omega
  obtain ⟨kk,rfl⟩:∃ kk,d=.int kk:=by cases d<;>simp [qX] at hd;exact ⟨_,rfl⟩
  simp only [Builtin.append_,List.getElem?_toArray,List.getElem?_cons_zero,List.getElem?_cons_succ,Sem.run_bind,run_underlying hs,Result.andThen_ok,run_sizeOf w bt,Sem.run_pure,run_underlying hu,if_true,
   asInt,asIntOf,wl,show ¬ l<0 by omega,if_false,run_typeInfo w bt,hlb,h3]
  by_cases hc:ga+n<=qy
  ·rw [if_pos hc,if_pos hc]
   simp only [Bool.not_true,Bool.not_false,Bool.false_eq_true,if_false,if_true,Sem.run_bind,cP]
   rw [show Sem.run P _ w=.ok vs w from jJ w.drawn]
   simp only [Result.andThen_ok]
   cases base<;>simp only [Sem.run_bind,Sem.run_pure,Result.andThen_ok]
  ·have hb:=aa9.resolve_right hc
   rw [if_neg hc,if_neg hc]
   simp only [Sem.run_bind,run_typeInfo w bt,Result.andThen_ok]
   rw [if_neg (by rw [IntKind.max_i64];intro a;omega)]
   simp only [Sem.run_bind,run_typeInfo w bt,Result.andThen_ok]
   rw [if_neg hb]
   simp only [Sem.run_bind,run_choose,forced,Bool.false_eq_true,if_false,Result.andThen_ok,run_typeInfo { w with drawn:=w.drawn+1 } bt,run_askRoom,cP,Bool.not_true,Bool.not_false,if_true]
   rw [hold (w.drawn+1)]
   simp only [Result.andThen_ok]
   rw [show Sem.run P _ { w with drawn:=w.drawn+1 }=.ok vs _ from jJ (w.drawn+1)]
   simp only [Result.andThen_ok,hz,newRow,Sem.run_bind,run_newObj,Sem.run_pure]
   rfl
 ·cases d<;>first
   | (simp [qX] at hd;done)
   | skip
  all_goals
   simp only [Builtin.append_,List.getElem?_toArray,List.getElem?_cons_zero,List.getElem?_cons_succ,Sem.run_bind,run_underlying hs,Result.andThen_ok,run_sizeOf w bt,Sem.run_pure,run_underlying hu,Bool.false_eq_true,if_false,hlen]
   by_cases hc:ga+n<=qy
   ·rw [if_pos hc,if_pos hc]
    simp only [Bool.not_true,Bool.not_false,Bool.false_eq_true,if_false,if_true,Sem.run_bind,cP]
    rw [show Sem.run P _ w=.ok vs w from jJ w.drawn]
    simp only [Result.andThen_ok]
    cases base<;>simp only [Sem.run_bind,Sem.run_pure,Result.andThen_ok]
   ·have hb:=aa9.resolve_right hc
    rw [if_neg hc,if_neg hc]
    simp only [Sem.run_bind,run_typeInfo w bt,Result.andThen_ok]
    rw [if_neg (by rw [IntKind.max_i64];intro a;omega)]
    simp only [Sem.run_bind,run_typeInfo w bt,Result.andThen_ok]
    rw [if_neg hb]
    simp only [Sem.run_bind,run_choose,forced,Bool.false_eq_true,if_false,Result.andThen_ok,run_typeInfo { w with drawn:=w.drawn+1 } bt,run_askRoom,cP,Bool.not_true,Bool.not_false,if_true]
    rw [hold (w.drawn+1)]
    simp only [Result.andThen_ok]
    rw [show Sem.run P _ { w with drawn:=w.drawn+1 }=.ok vs _ from jJ (w.drawn+1)]
    simp only [Result.andThen_ok,hz,newRow,Sem.run_bind,run_newObj,Sem.run_pure]
    rfl
theorem FL {e:TypeId} {z:AV} (h:zeroOf P e=some z):∃ zv,(∀ w:World,(zeroValue e).run P w=.ok zv w)/\(∀ E:Env,ao E z zv)/\z.known=true:=by
 unfold zeroOf at h
 split at h
 ·rename_i inf hi
  split at h
  ·rename_i zv hz
   split at h
   ·rename_i hk
    simp at h;subst h
    exact ⟨zv,yH hi hz,fun E=>yJ (sW E zv),hk⟩
   ·cases h
  ·cases h
 ·cases h
theorem FM (hH:ba F G i H w.heap) {sT xT ty:TypeId} {rest:List TypeId} {s x y:AV} {H':af} {sv xv:Value} (hs:ao ⟨F,w.heap,i,H.n⟩ s sv) (hx:ao ⟨F,w.heap,i,H.n⟩ x xv)
  (h:jy P H sT xT s x=some (y,H')):mo P (do pure (.value (←Builtin.append_ (sT::xT::rest).toArray ty #[sv,xv]))) F G i H w y H':=by
 unfold jy at h
 split at h
 ·rename_i e hu
  split at h
  ·rename_i inf z bt hz
   obtain ⟨zv,H4,mn,Mo⟩:=FL hz
   split at h
   ·rename_i n ys bZ
    obtain ⟨KX,vs,hA,jJ⟩:=Io hH bt hz hx bZ
    split at h
    ·rename_i sX
     simp only [Bool.and_eq_true,List.all_eq_true,beq_iff_eq] at sX
     obtain ⟨sX,hzl⟩:=sX
     have hzs:zv.cells.size=inf.size:=by
      have:=((mn ⟨F,w.heap,i,H.n⟩).cells Mo).1
      rw [hzl] at this;simpa using this.symm
     have zc:∀ k,(Builtin.zeroCells zv.cells k).size=k*inf.size:=by intro k;simp [Builtin.zeroCells,hzs]
     split at h
     ·cases hs
      have hold:∀ o:Nat,(Builtin.firstCells inf.size 0 (.slice none 0 0)).run P { w with drawn:=o }=.ok #[] { w with drawn:=o }:=fun _=>rfl
      split at h
      ·rename_i hn;subst hn
       simp only [Option.some.injEq,Prod.mk.injEq] at h
       obtain ⟨rfl,rfl⟩:=h
       refine bB hH ⟨.slice none 0 0,?_,.av⟩
       obtain ⟨d,aa8,SA,FK,OS⟩:=hA
       rw [bt] at FK;cases FK
       have cP:P.cellsOf e=inf.size:=by simp [Program.cellsOf,bt]
       rcases OS with ⟨hd,k,l,rfl,h0,h1,h2,h3,hv⟩ | ⟨hd,hlen,hv⟩
       ·obtain ⟨kk,rfl⟩:∃ kk,d=.int kk:=by cases d<;>simp [qX] at hd;exact ⟨_,rfl⟩
        have l0:l=0:=by omega
        subst l0
        have w0:IntKind.i64.wrap 0=0:=by decide
        have h2':¬ ((0:Int)*(inf.bytes:Int)>2 ^ 48):=by rw [Int.zero_mul];decide
        simp only [Builtin.append_,List.getElem?_toArray,List.getElem?_cons_zero,List.getElem?_cons_succ,Sem.run_bind,run_underlying hu,Result.andThen_ok,run_sizeOf w bt,Sem.run_pure,run_underlying SA,if_true,
         asInt,asIntOf,w0,show ¬ (0:Int)<0 by omega,if_false,run_typeInfo w bt,h2']
        rw [if_pos (by decide)]
        simp only [Bool.not_true,Bool.false_eq_true,if_false,Sem.run_bind,cP,Int.toNat_zero]
        rw [show Sem.run P _ w=.ok vs w from hv w.drawn]
        rfl
       ·cases d<;>first
         | (simp [qX] at hd;done)
         | skip
        all_goals
         simp only [Builtin.append_,List.getElem?_toArray,List.getElem?_cons_zero,List.getElem?_cons_succ,Sem.run_bind,run_underlying hu,Result.andThen_ok,run_sizeOf w bt,Sem.run_pure,run_underlying SA,Bool.false_eq_true,if_false,hlen]
         rw [if_pos (by omega)]
         simp only [Bool.not_true,Bool.not_false,Bool.false_eq_true,if_false,if_true,Sem.run_bind,cP]
         rw [show Sem.run P _ w=.ok vs w from hv w.drawn]
         rfl
      ·rename_i hn
       split at h
       ·rename_i hb
        simp only [Option.some.injEq,Prod.mk.injEq] at h
        obtain ⟨rfl,rfl⟩:=h
        have cc:=yI (rest:=rest) (base:=none) (ga:=0) (qy:=0) ty hu bt hA (by rw [Nat.zero_add];exact hb) hold H4
        rw [if_neg (by omega)] at cc
        have OE:ba F G i H ({ w with drawn:=w.drawn+1 }:World).heap:=hH
        have nT:=OE.yK (w:={ w with drawn:=w.drawn+1 }) (cs:=ys) (vs:=#[]++vs++Builtin.zeroCells zv.cells (f_ w (0+n) 0 e-(0+n))) e
         (by have:=jJ.1;simp at this;simp;omega)
         (fun j x v a b=>jJ.2 j x v a (by
          have hj:j<vs.size:=by have:=(List.getElem?_eq_some_iff.1 a).1;have h2:=jJ.1;simp at h2;omega
          rw [Array.getElem?_append_left (by simpa using hj)] at b
          simpa using b))
        refine ⟨_,_,_,.inl (by simp only [Sem.run_bind,cc,Result.andThen_ok,Sem.run_pure];rfl),?_,nT.1,(nY (w.drawn+1)).trans nT.2 (Nat.le_refl _),by simp⟩
        have hle:=wz w (0+n) 0 e
        have:=pL (F:=F) (i:=i) (H:=H) (w:={ w with drawn:=w.drawn+1 }) (vs:=#[]++vs++Builtin.zeroCells zv.cells (f_ w (0+n) 0 e-(0+n))) (t:=e)
         (len:=n) (cap:=f_ w (0+n) 0 e) (aA:=inf.size) (by omega) (by
          have h2:=jJ.1;simp at h2
          simp only [Array.size_append,zc,←h2,KX]
          simp only [Array.size_empty,Nat.zero_add]
          rw [←Nat.add_mul]
          exact Nat.mul_le_mul_right _ (by omega))
        simpa using this
       ·cases h
     ·rename_i r off len aA
      split at h
      ·rename_i cs hwr
       have hr:=jT hwr
       split at h
       ·rename_i DF
        obtain ⟨rfl,rfl,hlen,hb⟩:=DF
        simp only [Option.some.injEq,Prod.mk.injEq] at h
        obtain ⟨rfl,rfl⟩:=h
        cases hs with
        | slice _ _ _ _ cap DH hc Im=>
        obtain ⟨cC,c,e',z',DI,Mm⟩:=hH.cells hr
        obtain ⟨c2,e2,z2,Vw,qY⟩:=Im
        rw [DI] at Vw;cases Vw
        have qY:cap*inf.size<=c.size:=by omega
        have hac:cL H inf.size (.slice r 0 len inf.size)=some (len,(cs.drop 0).take (len*inf.size)):=by
         simp only [cL,hr]
         rw [if_pos ⟨trivial,by omega⟩]
        obtain ⟨_,_,Fw⟩:=jz (P:=P) hH (ao.slice (E:=⟨F,w.heap,i,H.n⟩) r 0 len inf.size cap DH hc ⟨c,e',z',DI,by omega⟩) hac
        obtain ⟨FJ,hold,FN⟩:=Fw len (Nat.le_refl _)
        have FN:ay ⟨F,w.heap,i,H.n⟩ (cs.take (len*inf.size)) FJ.toList:=by
         rw [List.drop_zero,List.take_take,Nat.min_self] at FN;exact FN
        have cR:=FN.append jJ
        have cc:=yI (rest:=rest) (base:=some ⟨i r,0,none⟩) (ga:=len) (qy:=cap) ty hu bt hA hb hold H4
        have Sz:vs.size=n*inf.size:=by have:=jJ.1;simp at this;omega
        by_cases qz:len+n<=cap
        ·rw [if_pos qz] at cc
         have hv1:∀ v∈vs.toList,v.oneCell'=true:=by
          intro v hv
          obtain ⟨j,hj,rfl⟩:=List.getElem_of_mem hv
          have hjx:j<ys.length:=by rw [jJ.1];exact hj
          exact (jJ.2 j ys[j] _ (by simp [hjx]) (by simp [hj])).one (sX _ (List.getElem_mem hjx))
         have abb:(len+n)*inf.size<=c.size:=Nat.le_trans (Nat.mul_le_mul_right _ qz) qY
         rw [Nat.add_mul] at abb
         have cA:=jU (P:=P) vs.toList w (i r) (len*inf.size) 0 c e' z' DI (by simp;omega) Mm.free hv1
         rw [Nat.add_zero] at cA
         simp only [Addr.add_lit,Nat.zero_add,cA,Result.andThen_ok] at cc
         have gI:=hH.put (gp hr) (jV hwr) (.cells (fx c (len*inf.size) vs.toList) e' z') (.cells (cs.take (len*inf.size)++ys))
          (fun c2 e2 z2 h2=>by rw [DI] at h2;cases h2;exact ⟨_,_,_,rfl,by rw [cU];exact Nat.le_refl _⟩) ?_
         ·obtain ⟨WC,WD⟩:=gI
          have hmv:=WC.move (r:=r) (row:=.cells (cs.take (len*inf.size)++ys)) (by rw [af.iS hH.ok _ cC,if_pos rfl]) (show H.fH<=r from jV hwr)
          have ee:(H.ij r (.cells (cs.take (len*inf.size)++ys))).kill r=H.kill r:=by simp [af.ij,af.kill]
          rw [ee] at hmv
          simp only [af.abc] at hmv
          refine ⟨_,_,_,.inl (by simp only [Sem.run_bind,cc,Result.andThen_ok,Sem.run_pure];rfl),?_,hmv,WD.trans (OQ H.n (i r) (Nat.le_refl _)) (Nat.le_refl _),by simp⟩
          have OT:i r<w.heap.size:=(Array.getElem?_eq_some_iff.1 DI).1
          have:=ao.slice (E:=⟨F,w.heap.setIfInBounds (i r) (.cells (fx c (len*inf.size) vs.toList) e' z'),Abs.put i H.n (i r),H.n+1⟩) H.n 0 (len+n) inf.size cap
           (Nat.lt_succ_self _) qz ⟨fx c (len*inf.size) vs.toList,e',z',by
            show (w.heap.setIfInBounds (i r) _)[Abs.put i H.n (i r) H.n]?=_
            rw [aH,Array.getElem?_setIfInBounds,if_pos rfl,if_pos OT],by rw [cU];omega⟩
          simpa [aH] using this
         ·have le:Env.le ⟨F,w.heap,i,H.n⟩ ⟨F,w.heap.setIfInBounds (i r) (.cells (fx c (len*inf.size) vs.toList) e' z'),i,H.n⟩:=by
           refine ⟨fun _ h=>h,?_,Nat.le_refl _,fun _ _=>rfl,?_⟩
           ·intro b hF
            rw [Array.getElem?_setIfInBounds,if_neg]
            rintro rfl
            exact (hH.out r _ (gp hr)).1 hF
           ·intro b c2 e2 z2 h2
            rw [Array.getElem?_setIfInBounds]
            by_cases H5:i r=b
            ·subst H5
             rw [DI] at h2;cases h2
             rw [if_pos rfl,if_pos (Array.getElem?_eq_some_iff.1 DI).1]
             exact ⟨_,_,_,rfl,by rw [cU];exact Nat.le_refl _⟩
            ·rw [if_neg H5];exact ⟨c2,e2,z2,h2,Nat.le_refl _⟩
          refine .cells _ _ _ _ ⟨by rw [cU];simp;omega,?_,by rw [cU];exact Mm.free⟩
          intro j x v h1 h2
          have e3:(cs.take (len*inf.size)).length=len*inf.size:=by rw [List.length_take];omega
          have ly:=nX ys (cs.take (len*inf.size)) (List.replicate ys.length .top) (by simp)
          rw [e3] at ly
          rw [←ly] at h1
          refine (jA ys vs.toList _ c (len*inf.size) jJ (by simp;omega) ?_ j x v h1 h2).mono le
          intro j y u a b
          by_cases hj:j<(cs.take (len*inf.size)).length
          ·rw [List.getElem?_append_left hj,List.getElem?_take] at a
           split at a
           ·exact Mm.val j y u a b
           ·cases a
          ·rw [List.getElem?_append_right (by omega),List.getElem?_replicate] at a
           split at a
           ·simp at a;subst a;exact .top _
           ·cases a
        ·rw [if_neg qz] at cc
         have OE:ba F G i H ({ w with drawn:=w.drawn+1 }:World).heap:=hH
         have Vx:FJ.size=len*inf.size:=by have:=FN.1;simp at this;omega
         have nT:=OE.yK (w:={ w with drawn:=w.drawn+1 }) (cs:=cs.take (len*inf.size)++ys) (vs:=FJ++vs++Builtin.zeroCells zv.cells (f_ w (len+n) cap e-(len+n))) e
          (by simp [Vx,Sz,KX];omega)
          (fun j x v a b=>cR.2 j x v a (by
           have hj:j<(FJ++vs).size:=by have:=(List.getElem?_eq_some_iff.1 a).1;have h2:=cR.1;simp at h2 this;simp;omega
           rw [Array.getElem?_append_left hj] at b
           rw [←Array.toList_append,Array.getElem?_toList];exact b))
         have hk:=nT.1.kill (r:=r) (by simp;omega)
         have ee:(H.push (.cells (cs.take (len*inf.size)++ys))).kill r=(H.kill r).push (.cells (cs.take (len*inf.size)++ys)):=by
          have e1:H.n+1-1-r=(H.n-1-r)+1:=by omega
          simp only [af.push,af.kill,e1,List.set_cons_succ]
         rw [ee] at hk
         refine ⟨_,_,_,.inl (by simp only [Sem.run_bind,cc,Result.andThen_ok,Sem.run_pure];rfl),?_,hk,(nY (w.drawn+1)).trans nT.2 (Nat.le_refl _),by simp⟩
         have hle:=wz w (len+n) cap e
         have:=pL (F:=F) (i:=i) (H:=H) (w:={ w with drawn:=w.drawn+1 }) (vs:=FJ++vs++Builtin.zeroCells zv.cells (f_ w (len+n) cap e-(len+n))) (t:=e)
          (len:=len+n) (cap:=f_ w (len+n) cap e) (aA:=inf.size) (by omega) (by
           simp only [Array.size_append,zc,Vx,Sz]
           rw [←Nat.add_mul,←Nat.add_mul]
           exact Nat.mul_le_mul_right _ (by omega))
         simpa using this
       ·cases h
      ·cases h
     ·cases h
    ·cases h
   ·cases h
  ·cases h
 ·cases h
end
end Go.Abs
end
noncomputable section
namespace Go.Abs
def Pn (P:Program) (t:TypeId) (x:AV):Option AV:=
 match P.underlying t with
 | some .string=>match x with
  | .string s=>some (.int .i64 s.data.toList.length)
  | _=>none
 | some (.array n _)=>some (.int .i64 n)
 | some (.slice _)=>match x with
  | .av=>some (.int .i64 0)
  | .slice _ _ n _=>some (.int .i64 n)
  | .list n _=>some (.int .i64 n)
  | .nl n _=>some (.int .i64 n)
  | _=>none
 | some (.pointer a)=>match P.underlying a with
  | some (.array n _)=>some (.int .i64 n)
  | _=>none
 | _=>none
def CJ (x y:AV):Option AV:=
 match x,y with
 | .int k a,.int _ b=>some (.int k (if b>a then b else a))
 | .aL k (some a),.aL _ (some b)=>match k.format.order a b with
  | some .lt=>some (.float k b)
  | some .gt=>some (.float k a)
  | some .eq=>some (.float k (if (k.decode a).neg then b else a))
  | none=>none
 | _,_=>none
def CL (x y:AV):Option AV:=
 match x,y with
 | .int k a,.int _ b=>some (.int k (if b<a then b else a))
 | .aL k (some a),.aL _ (some b)=>match k.format.order a b with
  | some .lt=>some (.float k a)
  | some .gt=>some (.float k b)
  | some .eq=>some (.float k (if (k.decode a).neg then a else b))
  | none=>none
 | _,_=>none
def wR (f:AV->AV->Option AV):AV->List AV->Option AV
 | x,[]=>some x
 | x,y::ys=>match f x y with
  | some z=>wR f z ys
  | none=>none
def om (op:UnOp) (x:AV):Option AV:=
 match op,x with
 | .neg,.int k n=>some (.int k (k.wrap (0-n)))
 | .xor,.int k n=>some (.int k (bits .xor k (if k.signed then -1 else k.max) n))
 | .neg,.aL k (some b)=>some (.float k (Op.negFloat k b))
 | .not,.bool b=>some (.bool !b)
 | _,_=>none
def rl (cs:List AV):Option (List UInt8):=
 match cs with
 | []=>some []
 | .int .u8 n::cs=>match rl cs with
  | some l=>some (UInt8.ofNat n.toNat::l)
  | none=>none
 | _=>none
def isStr:AV->Bool
 | .string _=>true
 | _=>false
def oB (P:Program) (H:af) (src dst:TypeId) (x:AV):Option AV:=
 match P.underlying src,P.underlying dst with
 | some s,some d=>
  match d with
  | .int k=>match x with
   | .int _ n=>some (.int k (k.wrap n))
   | .aL s (some b)=>match floatToIntVal s b k with
    | some n=>some (.int k n)
    | none=>none
   | _=>none
  | .float k=>match x with
   | .int _ n=>some (.float k (k.nearest n))
   | .aL s (some b)=>if s=k then some (.float k b) else match s.decode b with
    | .number g m e=>if (k.decode (k.encode (.number g m e))).isInfinity then none else some (.float k (k.encode (.number g m e)))
    | _=>none
   | _=>none
  | .string=>match s with
   | .string=>match x with
    | .string b=>some (.string b)
    | _=>none
   | .slice e=>match P.underlying e with
    | some (.int .u8)=>if isStr x then none else match cL H 1 x with
     | some (_,cs)=>match rl cs with
      | some l=>some (.string ⟨l.toArray⟩)
      | none=>none
     | none=>none
    | _=>none
   | _=>none
  | _=>none
 | _,_=>none
def Po (P:Program) (t:TypeId) (x:AV):Option AV:=
 match P.underlying t with
 | some (.interface _)=>none
 | some _=>some (.iface t x)
 | none=>none
def jL (x:AV):Option AV:=
 match x with
 | .ptr _ _ | .dK _ _ | .func _ _ _ | .yield _ | .slice _ _ _ _=>some x
 | _=>none
def oo (x:AV) (k:Nat):Option AV:=
 match x with
 | .tuple vs=>vs[k]?
 | _=>none
section
variable {P : Program} {F G : Nat → Prop} {i : Nat → Nat} {H : af} {w : World}
theorem MP (hH:ba F G i H w.heap) {dT ty:TypeId} {rest:List TypeId} {d s y:AV} {H':af} {dv sv:Value} (hd:ao ⟨F,w.heap,i,H.n⟩ d dv) (hs:ao ⟨F,w.heap,i,H.n⟩ s sv)
  (h:yF P H dT d s=some (y,H')):mo P (do pure (.value (←Builtin.copy_ (dT::rest).toArray ty #[dv,sv]))) F G i H w y H':=by
 unfold yF at h
 split at h
 ·rename_i e hu
  split at h
  ·rename_i inf bt
   have cP:P.cellsOf e=inf.size:=by simp [Program.cellsOf,bt]
   split at h
   ·rename_i n ys hac
    obtain ⟨hlen,KX,Fw⟩:=jz (P:=P) hH hs hac
    have pV:∀ base Tu abH (vs:Array Value),dv=.slice base Tu abH->(∀ o:Nat,(Builtin.firstCells inf.size (Nat.min n Tu) sv).run P { w with drawn:=o }=.ok vs { w with drawn:=o })->
      (Builtin.copy_ (dT::rest).toArray ty #[dv,sv]).run P w=(match base with | some a=>(storeCells a vs.toList).run P w | none=>.ok () w).andThen fun _ w'=>.ok (.int .i64 (Nat.min n Tu:Nat)) w':=by
     intro base Tu abH vs hdv hv
     subst hdv
     simp only [Builtin.copy_,List.getElem?_toArray,List.getElem?_cons_zero,List.getElem?_cons_succ,Sem.run_bind,run_underlying hu,Result.andThen_ok,run_sizeOf w bt,cP,hlen]
     rw [show Sem.run P _ w=.ok vs w from hv w.drawn]
     simp only [Result.andThen_ok]
     cases base<;>simp only [Sem.run_bind,Sem.run_pure,goInt,Result.andThen_ok]
    split at h
    ·simp only [Option.some.injEq,Prod.mk.injEq] at h
     obtain ⟨rfl,rfl⟩:=h
     cases hd
     obtain ⟨vs,jJ,hr⟩:=Fw (Nat.min n 0) (Nat.min_le_left _ _)
     refine bB hH ⟨.int .i64 (Nat.min n 0:Nat),?_,by simpa using ao.int (E:=⟨F,w.heap,i,H.n⟩) .i64 0⟩
     rw [pV _ _ _ vs rfl jJ]
     rfl
    ·simp only [Option.some.injEq,Prod.mk.injEq] at h
     obtain ⟨rfl,rfl⟩:=h
     cases hd with
     | bY _ cap a hc=>
      obtain ⟨vs,jJ,hr⟩:=Fw (Nat.min n 0) (Nat.min_le_left _ _)
      refine bB hH ⟨.int .i64 (Nat.min n 0:Nat),?_,by simpa using ao.int (E:=⟨F,w.heap,i,H.n⟩) .i64 0⟩
      rw [pV _ _ _ vs rfl jJ]
      have:vs=#[]:=by
       have:=hr.1;simp at this;exact Array.eq_empty_of_size_eq_zero this.symm
      subst this
      cases a<;>rfl
     | list _ cap _ b o FO hc hF hm hl hv=>
      obtain ⟨vs,jJ,hr⟩:=Fw (Nat.min n 0) (Nat.min_le_left _ _)
      refine bB hH ⟨.int .i64 (Nat.min n 0:Nat),?_,by simpa using ao.int (E:=⟨F,w.heap,i,H.n⟩) .i64 0⟩
      rw [pV _ _ _ vs rfl jJ]
      have:vs=#[]:=by
       have:=hr.1;simp at this;exact Array.eq_empty_of_size_eq_zero this.symm
      subst this
      rfl
    ·rename_i r off len aA
     split at h
     ·rename_i cs Gi
      have aG:=jT Gi
      split at h
      ·rename_i DF
       obtain ⟨rfl,hle,sX⟩:=DF
       simp only [Option.some.injEq,Prod.mk.injEq] at h
       obtain ⟨rfl,rfl⟩:=h
       simp only [List.all_eq_true] at sX
       cases hd with
       | slice _ _ _ _ cap hr hc hb=>
        obtain ⟨vs,jJ,ml⟩:=Fw (Nat.min n len) (Nat.min_le_left _ _)
        have hml:Nat.min n len*inf.size<=len*inf.size:=Nat.mul_le_mul_right _ (Nat.min_le_right _ _)
        obtain ⟨w',h1,h2,h3⟩:=hH.write (off:=off) aG (jV Gi) ml sX (by rw [List.length_take];omega) P
        refine ⟨.int .i64 (Nat.min n len:Nat),w',i,.inl ?_,.int _ _,h2,h3,by simp⟩
        simp only [Sem.run_bind,pV _ _ _ vs rfl jJ,h1,Result.andThen_ok,Sem.run_pure]
      ·cases h
     ·cases h
    ·cases h
   ·cases h
  ·cases h
 ·cases h
theorem IU (hH:ba F G i H w.heap) {t ty:TypeId} {rest:List TypeId} {x:AV} {H':af} {xv:Value} (hx:ao ⟨F,w.heap,i,H.n⟩ x xv)
  (h:qW P H t x=some H') (hu:(P.underlying t).isSome=true):mo P (do pure (.value (←Builtin.clear_ (t::rest).toArray ty #[xv]))) F G i H w .top H':=by
 obtain ⟨d,hu⟩:=Option.isSome_iff_exists.1 hu
 unfold qW at h
 split at h
 ·simp only [Option.some.injEq] at h;subst h
  cases hx
  refine bB hH ⟨.tuple #[],?_,.top _⟩
  simp only [Builtin.clear_,List.getElem?_toArray,List.getElem?_cons_zero,Sem.run_bind,run_underlying hu,Result.andThen_ok,Sem.run_pure]
 ·simp only [Option.some.injEq] at h;subst h
  have key:∀ a cap,xv=.slice a 0 cap->(Builtin.clear_ (t::rest).toArray ty #[xv]).run P w=.ok (.tuple #[]) w:=by
   intro a cap e;subst e
   cases a<;>simp only [Builtin.clear_,List.getElem?_toArray,List.getElem?_cons_zero,Sem.run_bind,run_underlying hu,Result.andThen_ok,Sem.run_pure]
  cases hx with
  | bY _ cap a hc=>exact bB hH ⟨.tuple #[],key _ _ rfl,.top _⟩
  | list _ cap _ b o vs hc hF hm hl hv=>exact bB hH ⟨.tuple #[],key _ _ rfl,.top _⟩
 ·simp only [Option.some.injEq] at h;subst h
  cases hx with
  | slice _ _ _ _ cap hr hc hb=>
   refine bB hH ⟨.tuple #[],?_,.top _⟩
   simp only [Builtin.clear_,List.getElem?_toArray,List.getElem?_cons_zero,Sem.run_bind,run_underlying hu,Result.andThen_ok,Sem.run_pure]
 ·rename_i r off len aA _
  split at h
  ·rename_i e hu'
   rw [hu] at hu';cases hu'
   split at h
   ·rename_i inf z cs bt hz Gi
    have aG:=jT Gi
    split at h
    ·rename_i DF
     obtain ⟨rfl,hzl,hle,sX,hlen,ek⟩:=DF
     simp only [Option.some.injEq] at h;subst h
     simp only [List.all_eq_true] at sX
     obtain ⟨zv,H4,mn,Mo⟩:=FL hz
     cases hx with
     | slice _ _ _ _ cap hr hc hb=>
      have KW:=(mn ⟨F,w.heap,i,H.n⟩).cells Mo
      have abI:0<inf.size:=by rw [←hzl];exact List.length_pos_iff.2 ek
      have ml:=Cq KW len inf.size hzl (by have:=Nat.mul_pos hlen abI;omega)
      have abJ:∀ x∈aX z.cells (len*inf.size),x.one=true:=by
       intro x hx
       simp only [aX,List.mem_map] at hx
       obtain ⟨j,hj,rfl⟩:=hx
       have hm:j%z.cells.length<z.cells.length:=Nat.mod_lt _ (by omega)
       rw [List.getElem?_eq_getElem hm]
       exact sX _ (List.getElem_mem hm)
      obtain ⟨w',h1,h2,h3⟩:=hH.write (off:=off) aG (jV Gi) ml abJ (by simp [aX];exact hle) P
      refine ⟨.tuple #[],w',i,.inl ?_,.top _,h2,h3,by simp⟩
      cases len with
      | zero=>omega
      | succ len=>
       simp only [Builtin.clear_,List.getElem?_toArray,List.getElem?_cons_zero,Sem.run_bind,run_underlying hu,Result.andThen_ok,Sem.run_pure,H4,h1]
    ·cases h
   ·cases h
  ·cases h
 ·cases h
theorem Pp {E:Env} {t ty:TypeId} {rest:List TypeId} {x y:AV} {v:Value} (hx:ao E x v) (h:Pn P t x=some y):
  ∃ u,(Builtin.len_ (t::rest).toArray ty #[v]).run P w=.ok u w/\ao E y u:=by
 unfold Pn at h
 split at h
 ·rename_i hu
  split at h
  ·cases hx
   simp only [Option.some.injEq] at h;subst h
   exact ⟨_,by simp only [Builtin.len_,List.getElem?_toArray,List.getElem?_cons_zero,Sem.run_bind,run_underlying hu,Result.andThen_ok,Sem.run_pure,goInt]<;>rfl,.int _ _⟩
  ·cases h
 ·rename_i n e hu
  simp only [Option.some.injEq] at h;subst h
  exact ⟨_,by simp only [Builtin.len_,List.getElem?_toArray,List.getElem?_cons_zero,Sem.run_bind,run_underlying hu,Result.andThen_ok,Sem.run_pure,goInt]<;>rfl,.int _ _⟩
 ·rename_i e hu
  split at h
  ·cases hx
   simp only [Option.some.injEq] at h;subst h
   exact ⟨_,by simp only [Builtin.len_,List.getElem?_toArray,List.getElem?_cons_zero,Sem.run_bind,run_underlying hu,Result.andThen_ok,Sem.run_pure,goInt]<;>rfl,.int _ _⟩
  ·cases hx
   simp only [Option.some.injEq] at h;subst h
   exact ⟨_,by simp only [Builtin.len_,List.getElem?_toArray,List.getElem?_cons_zero,Sem.run_bind,run_underlying hu,Result.andThen_ok,Sem.run_pure,goInt]<;>rfl,.int _ _⟩
  ·simp only [Option.some.injEq] at h;subst h
   cases hx<;>exact ⟨_,by simp only [Builtin.len_,List.getElem?_toArray,List.getElem?_cons_zero,Sem.run_bind,run_underlying hu,Result.andThen_ok,Sem.run_pure,goInt]<;>rfl,.int _ _⟩
  ·simp only [Option.some.injEq] at h;subst h
   cases hx<;>exact ⟨_,by simp only [Builtin.len_,List.getElem?_toArray,List.getElem?_cons_zero,Sem.run_bind,run_underlying hu,Result.andThen_ok,Sem.run_pure,goInt]<;>rfl,.int _ _⟩
  ·cases h
 ·rename_i a hu
  split at h
  ·rename_i n e WK
   simp only [Option.some.injEq] at h;subst h
   exact ⟨_,by simp only [Builtin.len_,List.getElem?_toArray,List.getElem?_cons_zero,Sem.run_bind,run_underlying hu,run_underlying WK,Result.andThen_ok,Sem.run_pure,goInt]<;>rfl,.int _ _⟩
  ·cases h
 ·cases h
theorem uW {E:Env} {f:AV->AV->Option AV} {g:Value->Value->Sem Value} (SF:∀ x y z v u,f x y=some z->ao E x v->ao E y u->∃ t,(g v u).run P w=.ok t w/\ao E z t):
  ∀ (ys:List AV) (us:List Value) (x z:AV) (v:Value),ay E ys us->ao E x v->wR f x ys=some z->∃ t,(us.foldlM g v).run P w=.ok t w/\ao E z t
 | [],[],x,z,v,_,hx,h=>by simp only [wR,Option.some.injEq] at h;subst h;exact ⟨v,rfl,hx⟩
 | [],_::_,_,_,_,h,_,_=>by simp [ay] at h
 | _::_,[],_,_,_,h,_,_=>by simp [ay] at h
 | y::ys,u::us,x,z,v,hs,hx,h=>by
  simp only [wR] at h
  split at h
  ·rename_i t ht
   obtain ⟨tv,h1,h2⟩:=SF _ _ _ _ _ ht hx (hs.2 0 y u rfl rfl)
   have WH:ay E ys us:=⟨by have:=hs.1;simpa using this,fun j a b p q=>hs.2 (j+1) a b (by simpa using p) (by simpa using q)⟩
   obtain ⟨r,h3,h4⟩:=uW SF ys us t z tv WH h2 h
   exact ⟨r,by simp only [List.foldlM_cons,Sem.run_bind,h1,Result.andThen_ok,h3],h4⟩
  ·cases h
theorem MQ {E:Env} {x y z:AV} {v u:Value} (h:CJ x y=some z) (hx:ao E x v) (hy:ao E y u):∃ t,(Builtin.max2 v u).run P w=.ok t w/\ao E z t:=by
 unfold CJ at h
 split at h
 ·cases hx;cases hy
  simp only [Option.some.injEq] at h;subst h
  exact ⟨_,rfl,.int _ _⟩
 ·cases hx;cases hy
  split at h<;>first
   | (cases h;done)
   | (rename_i ho;simp only [Option.some.injEq] at h;subst h;exact ⟨_,by simp only [Builtin.max2,ho];rfl,.float _ _⟩)
 ·cases h
theorem MR {E:Env} {x y z:AV} {v u:Value} (h:CL x y=some z) (hx:ao E x v) (hy:ao E y u):∃ t,(Builtin.min2 v u).run P w=.ok t w/\ao E z t:=by
 unfold CL at h
 split at h
 ·cases hx;cases hy
  simp only [Option.some.injEq] at h;subst h
  exact ⟨_,rfl,.int _ _⟩
 ·cases hx;cases hy
  split at h<;>first
   | (cases h;done)
   | (rename_i ho;simp only [Option.some.injEq] at h;subst h;exact ⟨_,by simp only [Builtin.min2,ho];rfl,.float _ _⟩)
 ·cases h
theorem IV {E:Env} {op:UnOp} {x y:AV} {v:Value} (hx:ao E x v) (h:om op x=some y):∃ u,(Op.unary op v).run P w=.ok u w/\ao E y u:=by
 unfold om at h
 split at h<;>first
  | (cases h;done)
  | (cases hx;simp only [Option.some.injEq] at h;subst h;exact ⟨_,by simp only [Op.unary,Op.intArith];rfl,by constructor⟩)
theorem zt {E:Env}:∀ (cs:List AV) (vs:List Value) (l:List UInt8) (acc:ByteArray),rl cs=some l->ay E cs vs->
  (forIn vs acc (fun c s=>do
   let .int .u8 n := c | stuck "bytesToString: byte expected"
   let s:=s.push (UInt8.ofNat n.toNat)
   do pure PUnit.unit
     pure (ForInStep.yield s)):Sem ByteArray).run P w=.ok ⟨acc.data++l.toArray⟩ w
 | [],[],l,acc,h,_=>by simp only [rl,Option.some.injEq] at h;subst h;simp
 | [],_::_,_,_,_,h=>by simp [ay] at h
 | _::_,[],_,_,_,h=>by simp [ay] at h
 | c::cs,v::vs,l,acc,h,hr=>by
  have hc:=hr.2 0 c v rfl rfl
  have hs:ay E cs vs:=⟨by have:=hr.1;simpa using this,fun j a b p q=>hr.2 (j+1) a b (by simpa using p) (by simpa using q)⟩
  unfold rl at h
  split at h
  ·rename_i e;cases e
  ·rename_i n dE e
   simp only [List.cons.injEq] at e
   obtain ⟨rfl,rfl⟩:=e
   split at h
   ·rename_i l' hl
    simp only [Option.some.injEq] at h;subst h
    cases hc
    rw [List.forIn_cons]
    have ih:=zt cs vs l' (acc.push (UInt8.ofNat n.toNat)) hl hs
    simp only [Sem.run_bind,Sem.run_pure,Result.andThen_ok]
    rw [ih]
    congr 1
    apply ByteArray.ext
    simp [ByteArray.push]
   ·cases h
  ·cases h
end
end Go.Abs
end
noncomputable section
namespace Go.Abs
def isConst:Operand->Bool
 | .const _=>true
 | _=>false
def fL:AV->Bool
 | .bool _ | .bI | .ptr _ _ | .dK _ _ | .av | .slice _ _ _ _ | .nl _ _ | .fB | .map _ | .nilFunc | .func _ _ _ | .nilIface | .iface _ _ | .agg _=>true
 | _=>false
def lC:AV->AV->Bool
 | .nilIface,.nilIface=>true
 | _,_=>false
def lD:AV->AV->Bool
 | .agg _,.agg _=>true
 | _,_=>false
def fW (P:Program) (op:BinOp) (t:TypeId) (cx cy:Bool) (x y:AV):Option AV:=
 match op,x,y with
 | .shl,.int k a,.int _ b=>rm .shl k a b
 | .shr,.int k a,.int _ b=>rm .shr k a b
 | op,.int k a,.int k' b=>if k=k' then IW op k a b else none
 | op,.aL k (some a),.aL k' (some b)=>if k=k' then Pq op k a b else none
 | op,.aL k none,.aL k' (some _)=>if k=k' then pW op k else none
 | op,.aL k (some _),.aL k' none=>if k=k' then pW op k else none
 | op,.aL k none,.aL k' none=>if k=k' then pW op k else none
 | op,.string a,.string b=>MS op a b
 | op,x,y=>
  if fL x&&fL y&&!(lC x y&&!(cx||cy))&&!(lD x y&&P.eqGuardType P.depth t) then
   match op,wO P 64 t x y with
   | .eql,some r=>some (.bool r)
   | .neq,some r=>some (.bool !r)
   | _,_=>none
  else none
section
variable {P : Program} {F G : Nat → Prop} {i : Nat → Nat} {H : af} {w : World}
theorem DV {E:Env} {t:TypeId} {x y:AV} {v u:Value} {b:Bool} (h:wO P 64 t x y=some b) (hx:ao E x v) (hy:ao E y u) (w:World):(Op.equal t v u).run P w=.ok b w:=
 K9 64 10000 (by omega) w t x y v u b h hx hy
theorem gE {op:BinOp} {t:TypeId} {a b:Operand} {v u:Value} (h:∀ x,v≠.agg x) (h2:v≠.nilIface):eqGuard op t a b v u=pure ():=by
 cases op<;>first
  | rfl
  | (unfold eqGuard;cases v<;>first | rfl | exact absurd rfl (h _) | exact absurd rfl h2)
inductive gS:AV->Value->Prop
 | bool (b):gS (.bool b) (.bool b)
 | ptr (x:AV) (a) (h1:∀ c,x≠.agg c) (h2:x≠.nilIface):gS x (.pointer a)
 | slice (x:AV) (a n c) (h1:∀ c,x≠.agg c) (h2:x≠.nilIface):gS x (.slice a n c)
 | map (x:AV) (r) (h1:∀ c,x≠.agg c) (h2:x≠.nilIface):gS x (.map r)
 | func (x:AV) (f a b) (h1:∀ c,x≠.agg c) (h2:x≠.nilIface):gS x (.func f a b)
 | nilFunc (x:AV) (h1:∀ c,x≠.agg c) (h2:x≠.nilIface):gS x .nilFunc
 | iface (x:AV) (t v) (h1:∀ c,x≠.agg c) (h2:x≠.nilIface):gS x (.iface t v)
 | nilIface:gS .nilIface .nilIface
 | agg (c d):gS (.agg c) (.agg d)
theorem Pr {E:Env} {x:AV} {v:Value} (hx:ao E x v) (h:fL x=true):gS x v:=by
 cases hx<;>first
  | (simp [fL] at h;done)
  | (constructor<;>simp)
theorem W9 {t:TypeId} {x:AV} {v:Value} (h:gS x v) (u:Value) (hu:∃ y,gS y u):
  binOp .eql t v u=(do pure (.bool (←Op.equal t v u)))/\binOp .neq t v u=(do pure (.bool (!(←Op.equal t v u)))):=by
 obtain ⟨y,hu⟩:=hu
 cases h<;>cases hu<;>exact ⟨rfl,rfl⟩
theorem Gj {t:TypeId} {cx cy:Operand} {x y:AV} {v u:Value} (hx:gS x v) (hy:gS y u) (h1:(lC x y&&!(isConst cx||isConst cy))=false)
  (h2:(lD x y&&P.eqGuardType P.depth t)=false) (op:BinOp) (w:World):(eqGuard op t cx cy v u).run P w=.ok () w:=by
 cases hx with
 | nilIface=>
  cases hy with
  | nilIface=>
   have hc:(isConst cx||isConst cy)=true:=by
    cases hcc:(isConst cx||isConst cy) with
    | true=>rfl
    | false=>rw [hcc] at h1;simp [lC] at h1
   cases op<;>cases cx<;>cases cy<;>first | rfl | simp [isConst] at hc
  | _=>cases op<;>rfl
 | agg c d=>
  cases hy with
  | agg c' d'=>
   have hg:P.eqGuardType P.depth t=false:=by simpa [lD] using h2
   exact run_eqGuard_agg w op t cx cy d d' hg
  | _=>cases op<;>rfl
 | _=>cases op<;>first | rfl | (cases hy<;>rfl)
theorem IX {op:BinOp} {t:TypeId} {cx cy:Operand} {x y z:AV} {v u:Value} {E:Env} (hx:ao E x v) (hy:ao E y u)
  (h:fW P op t (isConst cx) (isConst cy) x y=some z):wB P (do eqGuard op t cx cy v u;binOp op t v u) E w z:=by
 have guard:∀ s:Sem Value,eqGuard op t cx cy v u=pure ()->wB P s E w z->wB P (do eqGuard op t cx cy v u;s) E w z:=by
  intro s hg hd
  rw [hg];exact hd
 unfold fW at h
 split at h
 ·cases hx;cases hy
  exact guard _ rfl (eX (zu t h))
 ·cases hx;cases hy
  exact guard _ rfl (eX (zu t h))
 ·cases hx;cases hy
  split at h
  ·rename_i e;subst e
   exact guard _ (gE (by simp) (by simp)) (eX (Ps t h))
  ·cases h
 ·cases hx;cases hy
  split at h
  ·rename_i e;subst e
   exact guard _ (gE (by simp) (by simp)) (Pt t h)
  ·cases h
 ·cases hx;cases hy
  rename_i hn
  split at h
  ·rename_i e;subst e
   exact guard _ (gE (by simp) (by simp)) (oC t h (.inl hn))
  ·cases h
 ·cases hx;cases hy
  rename_i hn
  split at h
  ·rename_i e;subst e
   exact guard _ (gE (by simp) (by simp)) (oC t h (.inr hn))
  ·cases h
 ·cases hx;cases hy
  rename_i hn _ _
  split at h
  ·rename_i e;subst e
   exact guard _ (gE (by simp) (by simp)) (oC t h (.inl hn))
  ·cases h
 ·cases hx;cases hy
  exact guard _ (gE (by simp) (by simp)) (eX (Pu t h))
 ·split at h
  ·rename_i hc
   simp only [Bool.and_eq_true,Bool.not_eq_true'] at hc
   obtain ⟨⟨⟨h1,h2⟩,h3⟩,h4⟩:=hc
   have px:=Pr hx h1
   have py:=Pr hy h2
   have hg:=Gj (P:=P) (t:=t) px py h3 h4
   have hb:=W9 (t:=t) px u ⟨_,py⟩
   cases hr:wO P 64 t x y with
   | none=>rw [hr] at h;cases op<;>simp at h
   | some r=>
   rw [hr] at h
   cases op<;>simp only [reduceCtorEq] at h
   ·simp only [Option.some.injEq] at h;subst h
    refine eX ⟨.bool r,?_,.bool _⟩
    simp only [Sem.run_bind,hg,Result.andThen_ok,hb.1,DV hr hx hy,Sem.run_pure]
   ·simp only [Option.some.injEq] at h;subst h
    refine eX ⟨.bool !r,?_,.bool _⟩
    simp only [Sem.run_bind,hg,Result.andThen_ok,hb.2,DV hr hx hy,Sem.run_pure]
  ·cases h
end
end Go.Abs
end
noncomputable section
namespace Go.Abs
section
variable {P : Program} {F G : Nat → Prop} {i : Nat → Nat} {H : af} {w : World}
theorem tp (hH:ba F G i H w.heap) {x:AV} {v:Value} {n:Nat} {cs:List AV} {l:List UInt8} (hx:ao ⟨F,w.heap,i,H.n⟩ x v) (hs:∀ s,v≠.string s)
  (h:cL H 1 x=some (n,cs)) (hb:rl cs=some l):(Conv.bytesToString v).run P w=.ok (.string ⟨l.toArray⟩) w:=by
 obtain ⟨hlen,xW,Fw⟩:=jz (P:=P) hH hx h
 obtain ⟨vs,hv,hr⟩:=Fw n (Nat.le_refl _)
 rw [List.take_of_length_le (by omega)] at hr
 have hv:(Builtin.firstCells 1 n v).run P w=.ok vs w:=hv w.drawn
 have hby:=zt (P:=P) (w:=w) cs vs.toList l .empty hb hr
 cases v with
 | string s=>exact absurd rfl (hs s)
 | slice a len cap=>
  simp only [Builtin.lenOf,Sem.run_pure,Result.ok.injEq] at hlen
  obtain ⟨rfl,_⟩:=hlen
  cases a with
  | none=>
   simp only [Builtin.firstCells,Sem.run_pure,Result.ok.injEq] at hv
   obtain ⟨rfl,_⟩:=hv
   have:cs=[]:=by have:=hr.1;simpa using this
   subst this
   simp only [rl,Option.some.injEq] at hb;subst hb
   rfl
  | some a=>
   simp only [Builtin.firstCells,Nat.mul_one] at hv
   simp only [Conv.bytesToString,Sem.run_bind,hv,Result.andThen_ok]
   rw [←Array.forIn_toList]
   have e:(⟨l.toArray⟩:ByteArray)=⟨ByteArray.empty.data++l.toArray⟩:=by
    apply ByteArray.ext;simp
   rw [e]
   exact congrArg (fun r=>Result.andThen r fun a w'=>Sem.run P (Pure.pure (Value.string a)) w') hby
 | _=>simp [Builtin.lenOf] at hlen
theorem DY (hH:ba F G i H w.heap) {src dst:TypeId} {x y:AV} {v:Value} (hx:ao ⟨F,w.heap,i,H.n⟩ x v) (h:oB P H src dst x=some y):
  ∃ u,(convert src dst v).run P w=.ok u w/\ao ⟨F,w.heap,i,H.n⟩ y u:=by
 unfold oB at h
 split at h
 ·rename_i s d hs hd
  split at h
  ·rename_i k
   split at h
   ·cases hx
    simp only [Option.some.injEq] at h;subst h
    exact ⟨_,by simp only [convert,Sem.run_bind,run_underlying hs,run_underlying hd,Result.andThen_ok,Conv.intToInt];rfl,.int _ _⟩
   ·cases hx
    split at h
    ·rename_i n hn
     simp only [Option.some.injEq] at h;subst h
     exact ⟨_,run_convert_float_int w src dst _ k _ n (by simp [hs]) hd hn,.int _ _⟩
    ·cases h
   ·cases h
  ·rename_i k
   split at h
   ·cases hx
    simp only [Option.some.injEq] at h;subst h
    exact ⟨_,by simp only [convert,Sem.run_bind,run_underlying hs,run_underlying hd,Result.andThen_ok,Conv.intToFloat];rfl,.float _ _⟩
   ·rename_i g b
    cases hx
    split at h
    ·rename_i e;subst e
     simp only [Option.some.injEq] at h;subst h
     exact ⟨_,by simp only [convert,Sem.run_bind,run_underlying hs,run_underlying hd,Result.andThen_ok,Conv.floatToFloat,if_true];rfl,.float _ _⟩
    ·rename_i ek
     split at h
     ·rename_i g2 m e aeB
      split at h
      ·cases h
      ·rename_i bt
       simp only [Option.some.injEq] at h;subst h
       refine ⟨_,?_,.float _ _⟩
       simp only [convert,Sem.run_bind,run_underlying hs,run_underlying hd,Result.andThen_ok,Conv.floatToFloat]
       rw [if_neg ek]
       simp only [aeB]
       rw [if_neg bt]
       rfl
     ·cases h
   ·cases h
  ·split at h
   ·split at h
    ·cases hx
     simp only [Option.some.injEq] at h;subst h
     exact ⟨_,by simp only [convert,Sem.run_bind,run_underlying hs,run_underlying hd,Result.andThen_ok];rfl,.string _⟩
    ·cases h
   ·rename_i e
    split at h
    ·rename_i he
     split at h
     ·cases h
     ·rename_i aeC
      split at h
      ·rename_i n cs hc
       split at h
       ·rename_i l hl
        simp only [Option.some.injEq] at h;subst h
        have hns:∀ s,v≠.string s:=by
         rintro s rfl
         cases hx with
         | top=>simp [cL] at hc
         | string=>simp [isStr] at aeC
        have hni:∀ k n,v≠.int k n:=by
         rintro k n rfl
         cases hx<;>simp [cL] at hc
        have cc:=tp (P:=P) hH hx hns hc hl
        refine ⟨_,?_,.string _⟩
        simp only [convert,Sem.run_bind,run_underlying hs,run_underlying hd,Result.andThen_ok]
        cases v<;>first
         | exact absurd rfl (hns _)
         | exact absurd rfl (hni _ _)
         | (simp only [Sem.run_bind,run_underlying he,Result.andThen_ok,cc])
       ·cases h
      ·cases h
    ·cases h
   ·cases h
  ·cases h
 ·cases h
end
end Go.Abs
end
noncomputable section
namespace Go.Abs
def DT (f:TypeId->AV->Bool) (P:Program) (cs:List AV):List Field->Bool
 | []=>true
 | fd :: fs => (fd.name == "_" || (match apart P fd.type cs fd.offset with
  | some x=>f fd.type x
  | none=>false))&&DT f P cs fs
def qD (P:Program):Nat->TypeId->AV->Bool
 | 0,_,_=>false
 | d+1,t,x=>match P.underlying t with
  | some (.int _) | some .bool | some .string | some (.float _)=>true
  | some (.struct fs)=>match x with
   | .agg cs=>DT (qD P d) P cs fs.toList
   | _=>false
  | some (.array n e)=>match x,P.info? e with
   | .agg cs,some i=>(List.range n).all fun j=>match apart P e cs (j*i.size) with
    | some y=>qD P d e y
    | none=>false
   | _,_=>false
  | _=>false
def dW:Nat->AV->AV->Bool
 | _,.bool a,.bool b=>a==b
 | _,.int j a,.int k b=>j==k&&a==b
 | _,.aL j (some a),.aL k (some b)=>j==k&&a==b
 | _,.string a,.string b=>a.data.toList==b.data.toList
 | n+1,.agg a,.agg b=>a.length==b.length&&all n a b
 | _,_,_=>false
 where all (n:Nat):List AV->List AV->Bool
 | [],[]=>true
 | x::xs,y::ys=>dW n x y&&all n xs ys
 | _,_=>false
def cb (P:Program) (kt:TypeId) (k:AV):List (AV × AV × Nat)->Nat->Option (Option (Nat × AV))
 | [],_=>some none
 | e::es,i=>match wO P 64 kt k e.1 with
  | some true=>some (some (i,e.2.1))
  | some false=>cb P kt k es (i+1)
  | none=>none
def DU (H:af):AV->Option (List (AV × AV × Nat))
 | .fB=>some []
 | .map r=>match H.get r with
  | some (.map es _)=>some es
  | _=>none
 | _=>none
def pS (P:Program) (H:af) (t:TypeId) (x k:AV) (ok:Bool):Option AV:=
 match P.underlying t with
 | some (.map kt e)=>match DU H x with
  | some es=>match qD P 64 kt k with
   | true=>match cb P kt k es 0 with
    | some (some (_,v))=>some (if ok=true then .tuple [v,.bool true] else v)
    | some none=>match zeroOf P e with
     | some z=>some (if ok=true then .tuple [z,.bool false] else z)
     | none=>none
    | none=>none
   | false=>none
  | none=>none
 | _=>none
def fD (P:Program) (H:af) (t:TypeId) (m k v:AV):Option af:=
 match P.underlying t with
 | some (.map kt _)=>match m with
  | .map r=>match H.get r with
   | some (.map es clock)=>match qD P 64 kt k&&decide (H.fH<=r) with
    | true=>match cb P kt k es 0 with
     | some (some (i,_))=>match es[i]? with
      | some e=>match dW 64 e.1 k with
       | true=>some (H.ij r (.map (es.set i (k,v,e.2.2)) clock))
       | false=>none
      | none=>none
     | some none=>some (H.ij r (.map (es++[(k,v,clock)]) (clock+1)))
     | none=>none
    | false=>none
   | _=>none
  | _=>none
 | _=>none
def iF (P:Program) (H:af) (t:TypeId) (m k:AV):Option (AV × af):=
 match P.underlying t with
 | some (.map kt el)=>match m with
  | .map r=>match H.get r with
   | some (.map es clock)=>match qD P 64 kt k&&decide (H.fH<=r) with
    | true=>match cb P kt k es 0 with
     | some (some (i,v))=>match es[i]? with
      | some e=>match dW 64 e.1 k with
       | true=>some (.tuple [v,.int .i64 e.2.2],H.ij r (.map (es.set i (k,e.2.1,e.2.2)) clock))
       | false=>none
      | none=>none
     | some none=>match zeroOf P el with
      | some z=>some (.tuple [z,.int .i64 clock],H.ij r (.map (es++[(k,z,clock)]) (clock+1)))
      | none=>none
     | none=>none
    | false=>none
   | _=>none
  | _=>none
 | _=>none
def pT (b:Int):List (AV × AV × Nat)->Nat->Option Nat
 | [],_=>none
 | e::es,i=>if (e.2.2:Int)=b then some i else pT b es (i+1)
def fE (H:af) (m s v:AV):Option af:=
 match m,s with
 | .map r,.int _ b=>match H.get r with
  | some (.map es clock)=>match decide (H.fH<=r) with
   | true=>match pT b es 0 with
    | some i=>match es[i]? with
     | some e=>some (H.ij r (.map (es.set i (e.1,v,e.2.2)) clock))
     | none=>none
    | none=>none
   | false=>none
  | _=>none
 | _,_=>none
def isInt:Option AV->Bool
 | some (.int _ _)=>true
 | none=>true
 | _=>false
def jb (P:Program) (H:af) (t:TypeId) (hint:Option AV):Option (AV × af):=
 match P.underlying t,isInt hint with
 | some (.map _ _),true=>some (.map H.n,H.push (.map [] 0))
 | _,_=>none
section
variable {P : Program} {F G : Nat → Prop} {i : Nat → Nat} {H : af} {w : World} {E : Env}
theorem zk {f:TypeId->AV->Bool} {n:Nat} {e:Bool} (hf:∀ (t:TypeId) (x:AV) (v:Value),f t x=true->ao E x v->(Instr.checkKey e n t v).run P w=.ok () w) {cs:List AV} {vs:Array Value} (hv:ay E cs vs.toList):
  ∀ (fs:List Field),DT f P cs fs=true->
   (forIn (m:=Sem) fs PUnit.unit fun fd _=>do
    if fd.name ≠ "_" then Instr.checkKey e n fd.type (← part fd.type vs fd.offset)
    pure (ForInStep.yield PUnit.unit)).run P w=.ok PUnit.unit w
 | [],h=>by simp
 | fd::fs,h=>by
  simp only [DT,Bool.and_eq_true,Bool.or_eq_true,beq_iff_eq] at h
  obtain ⟨h1,h2⟩:=h
  have ih:=zk hf hv fs h2
  rw [List.forIn_cons]
  by_cases hn : fd.name = "_"
  ·simp only [hn,ne_eq,not_true_eq_false,if_false,Sem.run_bind,Sem.run_pure,Result.andThen_ok]
   exact ih
  ·rcases h1 with h1 | h1
   ·exact absurd h1 hn
   ·split at h1
    ·rename_i x hx
     obtain ⟨v,hp,hr⟩:=gC (w:=w) hx hv
     simp only [ne_eq,hn,not_false_eq_true,if_true,Sem.run_bind,hp,Result.andThen_ok,hf _ _ _ h1 hr,Sem.run_pure]
     exact ih
    ·cases h1
theorem zl {f:TypeId->AV->Bool} {n:Nat} {b:Bool} (hf:∀ (t:TypeId) (x:AV) (v:Value),f t x=true->ao E x v->(Instr.checkKey b n t v).run P w=.ok () w) {cs:List AV} {vs:Array Value} (hv:ay E cs vs.toList)
  {e:TypeId} {inf:TypeInfo} (hi:P.info? e=some inf):
  ∀ (l:List Nat),(l.all fun j=>match apart P e cs (j*inf.size) with | some y=>f e y | none=>false)=true->
   (forIn (m:=Sem) l PUnit.unit fun j _=>do
    Instr.checkKey b n e (←part e vs (j*(←sizeOf e)))
    pure (ForInStep.yield PUnit.unit)).run P w=.ok PUnit.unit w
 | [],h=>by simp
 | j::l,h=>by
  simp only [List.all_cons,Bool.and_eq_true] at h
  obtain ⟨h1,h2⟩:=h
  have ih:=zl hf hv hi l h2
  rw [List.forIn_cons]
  split at h1
  ·rename_i x hx
   obtain ⟨v,hp,hr⟩:=gC (w:=w) hx hv
   have hs:(sizeOf e).run P w=.ok inf.size w:=by simp [sizeOf,run_typeInfo w hi]
   simp only [Sem.run_bind,hs,Result.andThen_ok,hp,hf _ _ _ h1 hr,Sem.run_pure]
   exact ih
  ·cases h1
theorem oy:∀ (d D:Nat),d<=D->∀ (b:Bool) (t:TypeId) (x:AV) (v:Value),qD P d t x=true->ao E x v->(Instr.checkKey b D t v).run P w=.ok () w
 | 0,_,_,b,t,x,v,h,_=>by simp [qD] at h
 | d+1,0,h,_,_,_,_,_,_=>by omega
 | d+1,D+1,hle,b,t,x,v,h,hx=>by
  unfold qD at h
  have plain:∀ ty,P.underlying t=some ty->(∀ a,ty≠.interface a)->(∀ n e,ty≠.array n e)->(∀ fs,ty≠.struct fs)->(Instr.checkKey b (D+1) t v).run P w=.ok () w:=by
   intro ty hu h1 h2 h3
   simp only [Instr.checkKey,Sem.run_bind,run_underlying hu,Result.andThen_ok]
   cases ty<;>first
    | exact absurd rfl (h1 _)
    | exact absurd rfl (h2 _ _)
    | exact absurd rfl (h3 _)
    | rfl
  split at h
  ·rename_i hu;exact plain _ hu (by simp) (by simp) (by simp)
  ·rename_i hu;exact plain _ hu (by simp) (by simp) (by simp)
  ·rename_i hu;exact plain _ hu (by simp) (by simp) (by simp)
  ·rename_i hu;exact plain _ hu (by simp) (by simp) (by simp)
  ·rename_i fs hu
   split at h
   ·rename_i cs
    cases hx with
    | agg _ vs hl hv=>
     have:=zk (P:=P) (w:=w) (e:=b) (n:=D) (f:=qD P d) (fun t x v a c=>oy d D (by omega) b t x v a c) (cs:=cs) (vs:=vs) ⟨by simpa using hl,fun j x v h1 h2=>hv j x v h1 (by simpa using h2)⟩ fs.toList h
     simp only [Instr.checkKey,Sem.run_bind,run_underlying hu,Result.andThen_ok]
     rw [←Array.forIn_toList]
     exact (congrArg (fun r=>Result.andThen r fun _ w'=>Result.ok () w') this)
   ·cases h
  ·rename_i n e hu
   split at h
   ·rename_i cs inf hi
    cases hx with
    | agg _ vs hl hv=>
     have:=zl (P:=P) (w:=w) (b:=b) (n:=D) (f:=qD P d) (fun t x v a c=>oy d D (by omega) b t x v a c) (cs:=cs) (vs:=vs) ⟨by simpa using hl,fun j x v h1 h2=>hv j x v h1 (by simpa using h2)⟩ hi (List.range n) h
     simp only [Instr.checkKey,Sem.run_bind,run_underlying hu,Result.andThen_ok]
     rw [Std.Legacy.Range.forIn_eq_forIn_range']
     have er:List.range' 0 ((n-0+1-1) / 1) 1=List.range n:=by rw [List.range_eq_range'];simp
     simp only [Std.Legacy.Range.size]
     rw [er]
     exact (congrArg (fun r=>Result.andThen r fun _ w'=>Result.ok () w') this)
   ·cases h
  ·cases h
def IP (E:Env):Option (Nat × AV)->Option (Nat × Value)->Prop
 | none,none=>True
 | some (i,x),some (j,v)=>i=j/\ao E x v
 | _,_=>False
theorem oz {kt:TypeId} {k:AV} {kv:Value} (hk:ao E k kv):∀ (es:List (AV × AV × Nat)) (cN:List MapEntry) (i:Nat) (r:Option (Nat × AV)),eD E es cN->cb P kt k es i=some r->
  ∃ r',(Instr.findAsking kt kv cN i).run P w=.ok r' w/\IP E r r'
 | [],[],i,r,_,h=>by
  simp only [cb,Option.some.injEq] at h;subst h
  exact ⟨none,rfl,trivial⟩
 | [],_::_,_,_,hm,_=>by have:=hm.len;simp at this
 | _::_,[],_,_,hm,_=>by have:=hm.len;simp at this
 | e::es,e'::cN,i,r,hm,h=>by
  have h0:ao E e.1 e'.key:=hm.key 0 _ _ rfl rfl
  have h1:ao E e.2.1 e'.val:=hm.val 0 _ _ rfl rfl
  simp only [cb] at h
  split at h
  ·rename_i he
   simp only [Option.some.injEq] at h;subst h
   refine ⟨some (i,e'.val),?_,rfl,h1⟩
   simp only [Instr.findAsking,Sem.run_bind,DV he hk h0,Result.andThen_ok,if_true,Sem.run_pure]
  ·rename_i he
   have Vu:eD E es cN:=⟨by have:=hm.len;simpa using this,fun j a b p q=>hm.key (j+1) a b (by simpa using p) (by simpa using q),fun j a b p q=>hm.val (j+1) a b (by simpa using p) (by simpa using q),fun j a b p q=>hm.born (j+1) a b (by simpa using p) (by simpa using q)⟩
   obtain ⟨r',q1,q2⟩:=oz hk es cN (i+1) r Vu h
   refine ⟨r',?_,q2⟩
   simp only [Instr.findAsking,Sem.run_bind,DV he hk h0,Result.andThen_ok,Bool.false_eq_true,if_false,q1]
  ·cases h
theorem bytes_beq (a b:ByteArray):(a==b)=(a.data.toList==b.data.toList):=by
 obtain ⟨a⟩:=a
 obtain ⟨b⟩:=b
 show (a==b)=(a.toList==b.toList)
 by_cases e:a=b
 ·subst e;simp
 ·have e2:¬ a.toList=b.toList:=fun h=>e (Array.toList_inj.1 h)
  have e4:(a.toList==b.toList)=false:=by simpa using e2
  have e3:(a==b)=false:=by simpa using e
  rw [e3,e4]
theorem zm {kt:TypeId} {d:TypeDesc} {x y:AV} {v u:Value} {b c:Bool} (hu:P.underlying kt=some d) (hx:ao E x v) (hy:ao E y u) (h:Instr.sameNow d v u=some b) (ha:wO P 64 kt x y=some c):b=c:=by
 unfold Instr.sameNow at h
 unfold wO at ha
 rw [hu] at ha
 split at h
 ·split at h
  ·rename_i e;subst e
   simp only [Option.some.injEq] at h;subst h
   simp only at ha
   split at ha
   ·cases hx;cases hy;simp only [if_true,Option.some.injEq] at ha;exact ha
   ·cases ha
  ·cases h
 ·simp only [Option.some.injEq] at h;subst h
  simp only at ha
  split at ha
  ·cases hx;cases hy
   simp only [Option.some.injEq] at ha;subst ha
   exact bytes_beq _ _
  ·cases ha
 ·simp only [Option.some.injEq] at h;subst h
  simp only at ha
  split at ha
  ·cases hx;cases hy;simp only [Option.some.injEq] at ha;exact ha
  ·cases ha
 ·cases h
theorem wP {kt:TypeId} {d:TypeDesc} {k:AV} {kv:Value} (hu:P.underlying kt=some d) (hk:ao E k kv):∀ (es:List (AV × AV × Nat)) (cN:List MapEntry) (i:Nat) (r:Option (Nat × AV)) (r':Option (Nat × Value)),
  eD E es cN->cb P kt k es i=some r->Instr.findNow d kv cN i=some r'->IP E r r'
 | [],[],i,r,r',_,h,h'=>by
  simp only [cb,Option.some.injEq] at h;subst h
  simp only [Instr.findNow,Option.some.injEq] at h';subst h'
  trivial
 | [],_::_,_,_,_,hm,_,_=>by have:=hm.len;simp at this
 | _::_,[],_,_,_,hm,_,_=>by have:=hm.len;simp at this
 | e::es,e'::cN,i,r,r',hm,h,h'=>by
  have h0:ao E e.1 e'.key:=hm.key 0 _ _ rfl rfl
  have h1:ao E e.2.1 e'.val:=hm.val 0 _ _ rfl rfl
  have Vu:eD E es cN:=⟨by have:=hm.len;simpa using this,fun j a b p q=>hm.key (j+1) a b (by simpa using p) (by simpa using q),fun j a b p q=>hm.val (j+1) a b (by simpa using p) (by simpa using q),fun j a b p q=>hm.born (j+1) a b (by simpa using p) (by simpa using q)⟩
  simp only [cb] at h
  simp only [Instr.findNow] at h'
  split at h'
  ·rename_i hs
   simp only [Option.some.injEq] at h';subst h'
   split at h
   ·simp only [Option.some.injEq] at h;subst h;exact ⟨rfl,h1⟩
   ·rename_i he;exact absurd (zm hu hk h0 hs he) (by decide)
   ·cases h
  ·rename_i hs
   split at h
   ·rename_i he;exact absurd (zm hu hk h0 hs he) (by decide)
   ·exact wP hu hk es cN (i+1) r r' Vu h h'
   ·cases h
  ·cases h'
theorem gD {kt:TypeId} {k:AV} {kv:Value} (hu:∃ d,P.underlying kt=some d) (hk:ao E k kv) {es:List (AV × AV × Nat)} {cN:List MapEntry} {r:Option (Nat × AV)} (hm:eD E es cN) (h:cb P kt k es 0=some r):
  ∃ r',(Instr.findKey kt kv cN).run P w=.ok r' w/\IP E r r':=by
 obtain ⟨d,hu⟩:=hu
 simp only [Instr.findKey,Sem.run_bind,run_underlying hu,Result.andThen_ok]
 cases hn:Instr.findNow d kv cN 0 with
 | some r'=>exact ⟨r',rfl,wP hu hk es cN 0 r r' hm h hn⟩
 | none=>exact oz hk es cN 0 r hm h
theorem iH {kt:TypeId} {k:AV} (h:qD P 64 kt k=true):∃ d,P.underlying kt=some d:=by
 unfold qD at h
 cases hu:P.underlying kt with
 | some d=>exact ⟨d,rfl⟩
 | none=>rw [hu] at h;cases h
theorem DW:∀ (n:Nat) (x y:AV) (v u:Value),dW n x y=true->ao E x v->ao E y u->∀ m,n<=m->Instr.sameBits m v u=true:=by
 have base:∀ (n:Nat) (x y:AV) (v u:Value),(∀ a b,x=.agg a->y=.agg b->False)->dW n x y=true->ao E x v->ao E y u->∀ m,Instr.sameBits m v u=true:=by
  intro n x y v u hna h hx hy m
  unfold dW at h
  split at h
  ·cases hx;cases hy;simp only [beq_iff_eq] at h;subst h;unfold Instr.sameBits;simp
  ·cases hx;cases hy;simp only [Bool.and_eq_true,beq_iff_eq] at h;obtain ⟨rfl,rfl⟩:=h;unfold Instr.sameBits;simp
  ·cases hx;cases hy;simp only [Bool.and_eq_true,beq_iff_eq] at h;obtain ⟨rfl,rfl⟩:=h;unfold Instr.sameBits;simp
  ·cases hx;cases hy
   simp only [beq_iff_eq] at h
   rename_i a b
   have:a=b:=ByteArray.ext (Array.toList_inj.1 h)
   subst this;unfold Instr.sameBits;rw [bytes_beq];simp
  ·exact (hna _ _ rfl rfl).elim
  ·cases h
 intro n
 induction n with
 | zero=>
  intro x y v u h hx hy m _
  refine base 0 x y v u ?_ h hx hy m
  rintro a b rfl rfl
  simp [dW] at h
 | succ n ih=>
  intro x y v u h hx hy m hm
  by_cases hag:∃ a b,x=.agg a/\y=.agg b
  ·obtain ⟨a,b,rfl,rfl⟩:=hag
   obtain ⟨m,rfl⟩:∃ m',m=m' + 1:=⟨m-1,by omega⟩
   cases hx with
   | agg _ vs hl hv=>
   cases hy with
   | agg _ us nJ hu=>
   simp only [dW,Bool.and_eq_true,beq_iff_eq] at h
   obtain ⟨h1,h2⟩:=h
   unfold Instr.sameBits
   simp only [Bool.and_eq_true,beq_iff_eq]
   refine ⟨by omega,?_⟩
   have key:∀ (a b:List AV) (vs us:List Value),a.length=vs.length->b.length=us.length->(∀ (j:Nat) x v,a[j]?=some x->vs[j]?=some v->ao E x v)->(∀ (j:Nat) x v,b[j]?=some x->us[j]?=some v->ao E x v)->
     dW.all n a b=true->((vs.zip us).all fun (x,y)=>Instr.sameBits m x y)=true:=by
    intro a
    induction a with
    | nil=>intro b vs us e1 _ _ _ _;have:vs=[]:=List.eq_nil_of_length_eq_zero e1.symm;subst this;rfl
    | cons x a iha=>
     intro b vs us e1 e2 hv hu h
     cases b with
     | nil=>simp [dW.all] at h
     | cons y b=>
      match vs,us,e1,e2 with
      | v::vs,u::us,e1,e2=>
       simp only [dW.all,Bool.and_eq_true] at h
       simp only [List.zip_cons_cons,List.all_cons,Bool.and_eq_true]
       exact ⟨ih x y v u h.1 (hv 0 _ _ rfl rfl) (hu 0 _ _ rfl rfl) m (by omega),iha b vs us (by simpa using e1) (by simpa using e2) (fun j x v p q=>hv (j+1) x v (by simpa using p) (by simpa using q)) (fun j x v p q=>hu (j+1) x v (by simpa using p) (by simpa using q)) h.2⟩
   exact key a b vs.toList us.toList (by simpa using hl) (by simpa using nJ) (fun j x v p q=>hv j x v p (by simpa using q)) (fun j x v p q=>hu j x v p (by simpa using q)) h2
  ·exact base (n+1) x y v u (fun a b e1 e2=>hag ⟨a,b,e1,e2⟩) h hx hy m
theorem ti {x y:AV} {v u:Value} (h:dW 64 x y=true) (hx:ao E x v) (hy:ao E y u):(Instr.keyThatStays v u).run P w=.ok u w:=by
 have:=DW 64 x y v u h hx hy 10000 (by omega)
 simp only [Instr.keyThatStays,this,if_true,Sem.run_pure]
end
end Go.Abs
end
noncomputable section
namespace Go.Abs
section
variable {P : Program} {F G : Nat → Prop} {i : Nat → Nat} {H : af} {w : World}
theorem get_map {r:Nat} {b:Nat} {es:Array MapEntry} {clock:Nat} (h:w.heap[b]?=some (.map es clock)):(getObj b).run P w=.ok (.map es clock) w:=by
 simp [getObj,Sem.run,h]
theorem tj {b:Nat} {es:Array MapEntry} {clock:Nat} (o:Obj) (h:w.heap[b]?=some (.map es clock)):(setObj b o).run P w=.ok () { w with heap:=w.heap.setIfInBounds b o }:=by
 simp [setObj,Sem.run,h]
theorem eD.nil {E:Env}:eD E [] []:=⟨rfl,fun j x v h=>by simp at h,fun j x v h=>by simp at h,fun j x v h=>by simp at h⟩
theorem zn (hH:ba F G i H w.heap) {r:Nat} {es:List (AV × AV × Nat)} {clock:Nat} (h:H.get r=some (.map es clock)):
  ∃ cN,w.heap[i r]?=some (.map cN clock)/\eD ⟨F,w.heap,i,H.n⟩ es cN.toList:=by
 obtain ⟨o,ho,hr⟩:=hH.row r _ h
 cases hr with
 | map _ cN _ hm=>exact ⟨cN,ho,hm⟩
def tk (kt e:TypeId) (kv:Value) (ok:Bool) (es:Array MapEntry):Sem Value:=do
 Instr.checkKey es.isEmpty 10000 kt kv
 let (v,o)←match←Instr.findKey kt kv es.toList with
  | some (_,v)=>pure (v,true)
  | none=>pure (←zeroValue e,false)
 pure (if ok then .tuple #[v,.bool o] else v)
theorem tm {E:Env} {x y:AV} {v u:Value} (hx:ao E x v) (hy:ao E y u):ao E (.tuple [x,y]) (.tuple #[v,u]):=
 .tuple _ _ rfl (fun j a b h1 h2=>by
  match j with
  | 0=>simp at h1 h2;subst h1;subst h2;exact hx
  | 1=>simp at h1 h2;subst h1;subst h2;exact hy
  | j+2=>simp at h1)
theorem tn {E:Env} {kt e:TypeId} {k y:AV} {kv:Value} {ok:Bool} {es:List (AV × AV × Nat)} {cN:Array MapEntry} (hk:ao E k kv) (hm:eD E es cN.toList) (jc:qD P 64 kt k=true)
  (h:(match cb P kt k es 0 with
    | some (some (_,v))=>some (if ok=true then .tuple [v,.bool true] else v)
    | some none=>match zeroOf P e with
     | some z=>some (if ok=true then .tuple [z,.bool false] else z)
     | none=>none
    | none=>none)=some y):∃ u,(tk kt e kv ok cN).run P w=.ok u w/\ao E y u:=by
 have VR:(Instr.checkKey cN.isEmpty 10000 kt kv).run P w=.ok () w:=oy 64 10000 (by omega) _ kt k kv jc hk
 simp only [tk,Sem.run_bind,VR,Result.andThen_ok]
 split at h
 ·rename_i j v hf
  obtain ⟨r',q1,q2⟩:=gD (w:=w) ⟨_,(iH jc).choose_spec⟩ hk hm hf
  simp only [Option.some.injEq] at h;subst h
  match r',q2 with
  | some (j',v'),q2=>
   simp only [q1,Result.andThen_ok,Sem.run_bind,Sem.run_pure]
   cases ok with
   | true=>exact ⟨_,rfl,tm q2.2 (.bool _)⟩
   | false=>exact ⟨_,rfl,by simpa using q2.2⟩
 ·rename_i hf
  split at h
  ·rename_i z hz
   obtain ⟨r',q1,q2⟩:=gD (w:=w) ⟨_,(iH jc).choose_spec⟩ hk hm hf
   simp only [Option.some.injEq] at h;subst h
   obtain ⟨zv,z1,z2,_⟩:=dC hz E w
   match r',q2 with
   | none,q2=>
    simp only [q1,Result.andThen_ok,Sem.run_bind,z1,Sem.run_pure]
    cases ok with
    | true=>exact ⟨_,rfl,tm z2 (.bool _)⟩
    | false=>exact ⟨_,rfl,by simpa using z2⟩
  ·cases h
 ·cases h
theorem Gh (hH:ba F G i H w.heap) {t:TypeId} {x k y:AV} {xv kv:Value} {ok:Bool} (hx:ao ⟨F,w.heap,i,H.n⟩ x xv) (hk:ao ⟨F,w.heap,i,H.n⟩ k kv)
  (h:pS P H t x k ok=some y):mo P (do pure (.value (←Instr.lookup t xv kv ok))) F G i H w y H:=by
 unfold pS at h
 split at h
 ·rename_i kt e hu
  split at h
  ·rename_i es Mp
   split at h
   ·rename_i jc
    refine bB hH ?_
    unfold DU at Mp
    split at Mp
    ·simp only [Option.some.injEq] at Mp;subst Mp
     cases hx
     obtain ⟨u,h1,h2⟩:=tn (w:=w) (cN:=#[]) hk eD.nil jc h
     refine ⟨u,?_,h2⟩
     rw [←h1]
     simp only [Instr.lookup,tk,Sem.run_bind,run_underlying hu,Result.andThen_ok,Sem.run_pure]
     rfl
    ·rename_i r
     split at Mp
     ·rename_i es0 clock hg
      simp only [Option.some.injEq] at Mp;subst Mp
      obtain ⟨cN,h1,h2⟩:=zn hH hg
      cases hx
      obtain ⟨u,h3,h4⟩:=tn (w:=w) (cN:=cN) hk h2 jc h
      refine ⟨u,?_,h4⟩
      rw [←h3]
      simp only [Instr.lookup,tk,Sem.run_bind,run_underlying hu,get_map (r:=0) h1,Result.andThen_ok,Sem.run_pure]
      rfl
     ·cases Mp
    ·cases Mp
   ·cases h
  ·cases h
 ·cases h
theorem eD.mono {E E':Env} (le:E.le E') {es:List (AV × AV × Nat)} {cN:List MapEntry} (h:eD E es cN):eD E' es cN:=
 ⟨h.len,fun j x v a b=>(h.key j x v a b).mono le,fun j x v a b=>(h.val j x v a b).mono le,h.born⟩
theorem eD.set {E:Env} {es:List (AV × AV × Nat)} {cN:Array MapEntry} (h:eD E es cN.toList) (j:Nat) {k v:AV} {b:Nat} {f:MapEntry->MapEntry} (hk:∀ e',cN[j]?=some e'->ao E k (f e').key) (hv:∀ e',cN[j]?=some e'->ao E v (f e').val)
  (hb:∀ e',cN[j]?=some e'->b=(f e').born):eD E (es.set j (k,v,b)) (cN.modify j f).toList:=by
 have get:∀ (n:Nat) (x:AV × AV × Nat) (u:MapEntry),(es.set j (k,v,b))[n]?=some x->(cN.modify j f).toList[n]?=some u->(n=j/\x=(k,v,b)/\∃ e',cN[j]?=some e'/\u=f e')\/(n≠j/\es[n]?=some x/\cN.toList[n]?=some u):=by
  intro n x u h1 h2
  rw [Array.getElem?_toList,Array.getElem?_modify] at h2
  rw [List.getElem?_set] at h1
  by_cases e:j=n
  ·subst e
   rw [if_pos rfl] at h1 h2
   split at h1
   ·simp only [Option.some.injEq] at h1
    rw [Option.map_eq_some_iff] at h2
    obtain ⟨e',h3,h4⟩:=h2
    exact .inl ⟨rfl,h1.symm,e',h3,h4.symm⟩
   ·cases h1
  ·rw [if_neg e] at h1 h2
   exact .inr ⟨fun h=>e h.symm,h1,by rw [Array.getElem?_toList];exact h2⟩
 refine ⟨by simp [h.len],fun n x u h1 h2=>?_,fun n x u h1 h2=>?_,fun n x u h1 h2=>?_⟩
 ·rcases get n x u h1 h2 with ⟨_,rfl,e',h3,rfl⟩ | ⟨_,h3,h4⟩
  ·exact hk e' h3
  ·exact h.key n x u h3 h4
 ·rcases get n x u h1 h2 with ⟨_,rfl,e',h3,rfl⟩ | ⟨_,h3,h4⟩
  ·exact hv e' h3
  ·exact h.val n x u h3 h4
 ·rcases get n x u h1 h2 with ⟨_,rfl,e',h3,rfl⟩ | ⟨_,h3,h4⟩
  ·exact hb e' h3
  ·exact h.born n x u h3 h4
theorem eD.push {E:Env} {es:List (AV × AV × Nat)} {cN:Array MapEntry} (h:eD E es cN.toList) {k v:AV} {e:MapEntry} (hk:ao E k e.key) (hv:ao E v e.val):eD E (es++[(k,v,e.born)]) (cN.push e).toList:=by
 have get:∀ (n:Nat) (x:AV × AV × Nat) (u:MapEntry),(es++[(k,v,e.born)])[n]?=some x->(cN.push e).toList[n]?=some u->(x=(k,v,e.born)/\u=e)\/(es[n]?=some x/\cN.toList[n]?=some u):=by
  intro n x u h1 h2
  rw [Array.toList_push] at h2
  by_cases hn:n<es.length
  ·rw [List.getElem?_append_left hn] at h1
   rw [List.getElem?_append_left (by rw [←h.len];exact hn)] at h2
   exact .inr ⟨h1,h2⟩
  ·rw [List.getElem?_append_right (by omega)] at h1
   rw [List.getElem?_append_right (by rw [←h.len];omega),←h.len] at h2
   have:n-es.length=0:=by
    have:=(List.getElem?_eq_some_iff.1 h1).1
    simp at this;omega
   rw [this] at h1 h2
   simp at h1 h2
   exact .inl ⟨h1.symm,h2.symm⟩
 refine ⟨by simp [h.len],fun n x u h1 h2=>?_,fun n x u h1 h2=>?_,fun n x u h1 h2=>?_⟩
 ·rcases get n x u h1 h2 with ⟨rfl,rfl⟩ | ⟨h3,h4⟩
  ·exact hk
  ·exact h.key n x u h3 h4
 ·rcases get n x u h1 h2 with ⟨rfl,rfl⟩ | ⟨h3,h4⟩
  ·exact hv
  ·exact h.val n x u h3 h4
 ·rcases get n x u h1 h2 with ⟨rfl,rfl⟩ | ⟨h3,h4⟩
  ·rfl
  ·exact h.born n x u h3 h4
theorem zo (hH:ba F G i H w.heap) {r:Nat} {es:List (AV × AV × Nat)} {clock:Nat} (hr:H.get r=some (.map es clock)) (dm:H.fH<=r) {es2:List (AV × AV × Nat)} {MM:Array MapEntry} {jo:Nat}
  (hm:eD ⟨F,w.heap,i,H.n⟩ es2 MM.toList):∃ le:Env.le ⟨F,w.heap,i,H.n⟩ ⟨F,w.heap.setIfInBounds (i r) (.map MM jo),i,H.n⟩,
  ba F G i (H.ij r (.map es2 jo)) (w.heap.setIfInBounds (i r) (.map MM jo))/\Ext H.n F G i w F i { w with heap:=w.heap.setIfInBounds (i r) (.map MM jo) }:=by
 obtain ⟨cN,ho,_⟩:=zn hH hr
 have cC:i r<w.heap.size:=(Array.getElem?_eq_some_iff.1 ho).1
 have aG:=hH.out r _ hr
 have le:Env.le ⟨F,w.heap,i,H.n⟩ ⟨F,w.heap.setIfInBounds (i r) (.map MM jo),i,H.n⟩:=by
  refine ⟨fun _ h=>h,fun b hb=>?_,Nat.le_refl _,fun _ _=>rfl,fun b c e z hc=>⟨c,e,z,?_,Nat.le_refl _⟩⟩
  ·show (w.heap.setIfInBounds _ _)[b]?=_
   rw [Array.getElem?_setIfInBounds,if_neg]
   rintro rfl;exact aG.1 hb
  ·show (w.heap.setIfInBounds _ _)[b]?=_
   rw [Array.getElem?_setIfInBounds,if_neg]
   ·exact hc
   ·rintro rfl
    have hc:w.heap[i r]?=_:=hc
    rw [ho] at hc;cases hc
 obtain ⟨h1,h2⟩:=hH.put hr dm (.map MM jo) (.map es2 jo) (fun c e z hc=>by rw [ho] at hc;cases hc) (.map _ _ _ (hm.mono le))
 exact ⟨le,h1,h2⟩
theorem oA (hH:ba F G i H w.heap) {t:TypeId} {m k v:AV} {mv kv vv:Value} {H':af} (hm:ao ⟨F,w.heap,i,H.n⟩ m mv) (hk:ao ⟨F,w.heap,i,H.n⟩ k kv) (hv:ao ⟨F,w.heap,i,H.n⟩ v vv)
  (h:fD P H t m k v=some H'):mo P (do Instr.mapUpdate t mv kv vv;pure .skip) F G i H w .top H':=by
 unfold fD at h
 split at h
 ·rename_i kt el hu
  split at h
  ·rename_i r
   split at h
   ·rename_i es clock hg
    split at h
    ·rename_i jc
     simp only [Bool.and_eq_true,decide_eq_true_eq] at jc
     obtain ⟨jc,dm⟩:=jc
     obtain ⟨cN,ho,zp⟩:=zn hH hg
     have VR:(Instr.checkKey false 10000 kt kv).run P w=.ok () w:=oy 64 10000 (by omega) _ kt k kv jc hk
     cases hm
     split at h
     ·rename_i j x hf
      obtain ⟨r',q1,q2⟩:=gD (w:=w) ⟨_,(iH jc).choose_spec⟩ hk zp hf
      split at h
      ·rename_i e he
       split at h
       ·rename_i hs
        simp only [Option.some.injEq] at h;subst h
        match r',q2 with
        | some (j',v'),q2=>
         obtain ⟨rfl,q3⟩:=q2
         have hj:j<cN.size:=by
          have:=(List.getElem?_eq_some_iff.1 he).1
          have:=zp.len;simp at this;omega
         have gn:cN[j]?=some cN[j]:=Array.getElem?_eq_getElem hj
         have W8:(Instr.keyThatStays cN[j].key kv).run P w=.ok kv w:=ti hs (zp.key j e _ he (by rw [Array.getElem?_toList];exact gn)) hk
         have MN:eD ⟨F,w.heap,i,H.n⟩ (es.set j (k,v,e.2.2)) (cN.modify j fun e=>{ e with key:=kv,val:=vv }).toList:=
          zp.set j (fun _ _=>hk) (fun _ _=>hv) (fun e' h'=>zp.born j e e' he (by rw [Array.getElem?_toList];exact h'))
         obtain ⟨le,h1,h2⟩:=zo hH hg dm MN (jo:=clock)
         refine ⟨undef,_,i,.inr ⟨?_,rfl⟩,.top _,h1,h2,by simp⟩
         simp only [Instr.mapUpdate,Sem.run_bind,run_underlying hu,get_map (r:=0) ho,VR,q1,Result.andThen_ok,gn,Option.map_some,Option.getD_some,W8,tj _ ho,Sem.run_pure]
       ·cases h
      ·cases h
     ·rename_i hf
      obtain ⟨r',q1,q2⟩:=gD (w:=w) ⟨_,(iH jc).choose_spec⟩ hk zp hf
      simp only [Option.some.injEq] at h;subst h
      match r',q2 with
      | none,q2=>
       have MN:eD ⟨F,w.heap,i,H.n⟩ (es++[(k,v,clock)]) (cN.push { key:=kv,val:=vv,born:=clock }).toList:=zp.push (e:={ key:=kv,val:=vv,born:=clock }) hk hv
       obtain ⟨le,h1,h2⟩:=zo hH hg dm MN (jo:=clock+1)
       refine ⟨undef,_,i,.inr ⟨?_,rfl⟩,.top _,h1,h2,by simp⟩
       simp only [Instr.mapUpdate,Sem.run_bind,run_underlying hu,get_map (r:=0) ho,VR,q1,Result.andThen_ok,tj _ ho,Sem.run_pure]
     ·cases h
    ·cases h
   ·cases h
  ·cases h
 ·cases h
theorem Cb (hH:ba F G i H w.heap) {t:TypeId} {m k y:AV} {mv kv:Value} {H':af} (hm:ao ⟨F,w.heap,i,H.n⟩ m mv) (hk:ao ⟨F,w.heap,i,H.n⟩ k kv)
  (h:iF P H t m k=some (y,H')):mo P (do pure (.value (←Instr.mapEntry t mv kv))) F G i H w y H':=by
 unfold iF at h
 split at h
 ·rename_i kt el hu
  split at h
  ·rename_i r
   split at h
   ·rename_i es clock hg
    split at h
    ·rename_i jc
     simp only [Bool.and_eq_true,decide_eq_true_eq] at jc
     obtain ⟨jc,dm⟩:=jc
     obtain ⟨cN,ho,zp⟩:=zn hH hg
     have VR:(Instr.checkKey false 10000 kt kv).run P w=.ok () w:=oy 64 10000 (by omega) _ kt k kv jc hk
     cases hm
     split at h
     ·rename_i j x hf
      obtain ⟨r',q1,q2⟩:=gD (w:=w) ⟨_,(iH jc).choose_spec⟩ hk zp hf
      split at h
      ·rename_i e he
       split at h
       ·rename_i hs
        simp only [Option.some.injEq,Prod.mk.injEq] at h
        obtain ⟨rfl,rfl⟩:=h
        match r',q2 with
        | some (j',v'),q2=>
         obtain ⟨rfl,q3⟩:=q2
         have hj:j<cN.size:=by
          have:=(List.getElem?_eq_some_iff.1 he).1
          have:=zp.len;simp at this;omega
         have gn:cN[j]?=some cN[j]:=Array.getElem?_eq_getElem hj
         have uP:cN.toList[j]?=some cN[j]:=by rw [Array.getElem?_toList];exact gn
         have W8:(Instr.keyThatStays cN[j].key kv).run P w=.ok kv w:=ti hs (zp.key j e _ he uP) hk
         have MN:eD ⟨F,w.heap,i,H.n⟩ (es.set j (k,e.2.1,e.2.2)) (cN.modify j fun e=>{ e with key:=kv }).toList:=
          zp.set j (fun _ _=>hk) (fun e' h'=>zp.val j e e' he (by rw [Array.getElem?_toList];exact h')) (fun e' h'=>zp.born j e e' he (by rw [Array.getElem?_toList];exact h'))
         obtain ⟨le,h1,h2⟩:=zo hH hg dm MN (jo:=clock)
         refine ⟨_,_,i,.inl ?_,tm (q3.mono le) (u:=.int .i64 cN[j].born) ?_,h1,h2,by simp⟩
         ·simp only [Instr.mapEntry,Sem.run_bind,run_underlying hu,get_map (r:=0) ho,VR,q1,Result.andThen_ok,gn,Option.map_some,Option.getD_some,W8,tj _ ho,Sem.run_pure,goInt]
         ·rw [zp.born j e _ he uP];exact .int _ _
       ·cases h
      ·cases h
     ·rename_i hf
      obtain ⟨r',q1,q2⟩:=gD (w:=w) ⟨_,(iH jc).choose_spec⟩ hk zp hf
      split at h
      ·rename_i z hz
       simp only [Option.some.injEq,Prod.mk.injEq] at h
       obtain ⟨rfl,rfl⟩:=h
       obtain ⟨zv,z1,z2,_⟩:=dC hz ⟨F,w.heap,i,H.n⟩ w
       match r',q2 with
       | none,q2=>
        have MN:eD ⟨F,w.heap,i,H.n⟩ (es++[(k,z,clock)]) (cN.push { key:=kv,val:=zv,born:=clock }).toList:=zp.push (e:={ key:=kv,val:=zv,born:=clock }) hk z2
        obtain ⟨le,h1,h2⟩:=zo hH hg dm MN (jo:=clock+1)
        refine ⟨_,_,i,.inl ?_,tm (z2.mono le) (.int .i64 clock),h1,h2,by simp⟩
        simp only [Instr.mapEntry,Sem.run_bind,run_underlying hu,get_map (r:=0) ho,VR,q1,Result.andThen_ok,z1,tj _ ho,Sem.run_pure,goInt]
      ·cases h
     ·cases h
    ·cases h
   ·cases h
  ·cases h
 ·cases h
theorem CI:∀ (es:List (AV × AV × Nat)) (cN:List MapEntry) (b:Int) (n j:Nat),es.length=cN.length->(∀ (j:Nat) (x:AV × AV × Nat) (v:MapEntry),es[j]?=some x->cN[j]?=some v->x.2.2=v.born)->
  pT b es n=some j->n<=j/\cN.findIdx? (fun e=>(e.born:Int)==b)=some (j-n)
 | [],_,b,n,j,_,_,h=>by simp [pT] at h
 | e::es,[],b,n,j,hl,_,_=>by simp at hl
 | e::es,e'::cN,b,n,j,hl,hb,h=>by
  have h0:=hb 0 e e' rfl rfl
  simp only [pT] at h
  rw [List.findIdx?_cons]
  split at h
  ·rename_i he
   simp only [Option.some.injEq] at h;subst h
   rw [if_pos (by rw [←h0];simpa using he)]
   simp
  ·rename_i he
   obtain ⟨h1,h2⟩:=CI es cN b (n+1) j (by simpa using hl) (fun j x v p q=>hb (j+1) x v (by simpa using p) (by simpa using q)) h
   rw [if_neg (by rw [←h0];simpa using he),h2]
   exact ⟨by omega,by simp;omega⟩
theorem xH (hH:ba F G i H w.heap) {t:TypeId} {m s v:AV} {mv sv vv:Value} {H':af} (hm:ao ⟨F,w.heap,i,H.n⟩ m mv) (hs:ao ⟨F,w.heap,i,H.n⟩ s sv) (hv:ao ⟨F,w.heap,i,H.n⟩ v vv)
  (h:fE H m s v=some H'):mo P (do Instr.entryStore t mv sv vv;pure .skip) F G i H w .top H':=by
 unfold fE at h
 split at h
 ·rename_i r _ b
  split at h
  ·rename_i es clock hg
   split at h
   ·rename_i dm
    have dm:=of_decide_eq_true dm
    obtain ⟨cN,ho,zp⟩:=zn hH hg
    cases hm
    cases hs
    split at h
    ·rename_i j hf
     split at h
     ·rename_i e he
      simp only [Option.some.injEq] at h;subst h
      obtain ⟨_,H6⟩:=CI es cN.toList b 0 j zp.len zp.born hf
      have aez:cN.findIdx? (fun e=>(e.born:Int)==b)=some j:=by
       have e:cN=cN.toList.toArray:=by simp
       rw [e,List.findIdx?_toArray];simpa using H6
      have MN:eD ⟨F,w.heap,i,H.n⟩ (es.set j (e.1,v,e.2.2)) (cN.modify j fun e=>{ e with val:=vv }).toList:=
       zp.set j (fun e' h'=>zp.key j e e' he (by rw [Array.getElem?_toList];exact h')) (fun _ _=>hv) (fun e' h'=>zp.born j e e' he (by rw [Array.getElem?_toList];exact h'))
      obtain ⟨le,h1,h2⟩:=zo hH hg dm MN (jo:=clock)
      refine ⟨undef,_,i,.inr ⟨?_,rfl⟩,.top _,h1,h2,by simp⟩
      simp only [Instr.entryStore,asInt,asIntOf,Sem.run_bind,get_map (r:=0) ho,Result.andThen_ok,Sem.run_pure,aez,tj _ ho]
     ·cases h
    ·cases h
   ·cases h
  ·cases h
 ·cases h
theorem DX (hH:ba F G i H w.heap) {t:TypeId} {x:Option AV} {xv:Option Value} {y:AV} {H':af} (hx:qB ⟨F,w.heap,i,H.n⟩ x xv) (h:jb P H t x=some (y,H')):
  mo P (do pure (.value (←Instr.makeMap t xv))) F G i H w y H':=by
 unfold jb at h
 split at h
 ·rename_i kt el hu hi
  simp only [Option.some.injEq,Prod.mk.injEq] at h
  obtain ⟨rfl,rfl⟩:=h
  have ext:=iG (K:=H.n) (F:=F) (G:=G) (i:=i) (w:=w) (.map #[] 0) hH.cn H.n w.heap.size (Nat.le_refl _)
  have h1:=hH.alloc (.map #[] 0) (.map [] 0) (.map [] #[] 0 eD.nil)
  have run:(Instr.makeMap t xv).run P w=.ok (.map (some w.heap.size)) (w.alloc (.map #[] 0)):=by
   cases x with
   | none=>
    cases xv with
    | none=>simp [Instr.makeMap,newObj,Sem.run]
    | some v=>exact hx.elim
   | some x=>
    cases xv with
    | none=>exact hx.elim
    | some v=>
     have hx:ao _ x v:=hx
     cases x<;>simp only [isInt,Bool.false_eq_true] at hi
     cases hx
     simp [Instr.makeMap,Sem.run_bind,run_underlying hu,asInt,asIntOf,newObj,Sem.run]
  refine ⟨_,_,_,.inl (by rw [Sem.run_bind,run];rfl),?_,h1,ext,by simp⟩
  have:=ao.map (E:=⟨F,(w.alloc (.map #[] 0)).heap,put i H.n w.heap.size,H.n+1⟩) H.n (Nat.lt_succ_self _)
  simpa [aH] using this
 ·cases h
end
end Go.Abs
end
noncomputable section
namespace Go.Abs
def It:AV->Option Nat
 | .int _ n=>if 0<=n then some n.toNat else none
 | _=>none
def mq (len:Nat) (lo:Option AV) (hi mx:AV):Option (Nat × Nat × Nat):=
 match (match lo with | none=>some 0 | some x=>It x),It hi,It mx with
 | some l,some h,some m=>if l<=h/\h<=m/\m<=len then some (l,h,m) else none
 | _,_,_=>none
def s4 (P:Program) (t:TypeId) (x:AV) (lo:Option AV) (hi mx:AV):Option AV:=
 match P.underlying t with
 | some (.slice e)=>match P.info? e with
  | some inf=>match x with
   | .slice r off len aA=>match mq len lo hi mx with
    | some (l,h,m)=>if aA=inf.size then (if l=h/\0<l then some (.list 0 []) else some (.slice r (off+l*inf.size) (h-l) inf.size)) else none
    | none=>none
   | .list len cs=>match mq len lo hi mx with
    | some (l,h,m)=>if l=h then some (.list 0 []) else if len*inf.size=cs.length/\cs≠[] then some (.list (h-l) ((cs.drop (l*inf.size)).take ((h-l)*inf.size))) else none
    | none=>none
   | _=>none
  | none=>none
 | _=>none
section
variable {P : Program} {F G : Nat → Prop} {i : Nat → Nat} {H : af} {w : World}
theorem yP {E:Env} {x:AV} {v:Value} {n y:Nat} {c:BoundsCode} (hx:ao E x v) (h:It x=some n) (hle:n<=y):(Instr.sliceBound v y c).run P w=.ok n w:=by
 unfold It at h
 split at h
 ·rename_i k z
  split at h
  ·rename_i hz
   simp only [Option.some.injEq] at h;subst h
   cases hx
   simp only [Instr.sliceBound,asIntOf,Sem.run_bind,Sem.run_pure,Result.andThen_ok]
   rw [if_pos (by omega)]
   rfl
  ·cases h
 ·cases h
theorem wA {E:Env} {lo:Option AV} {hi mx:AV} {jW:Option Value} {fR O1:Value} {len cap l h m:Nat} (lq:qB E lo jW) (m8:ao E hi fR) (Vz:ao E mx O1) (hc:len<=cap)
  (hb:mq len lo hi mx=some (l,h,m)):(Instr.sliceBounds true len cap jW (some fR) (some O1)).run P w=.ok (l,h,m) w/\l<=h/\h<=m/\m<=len:=by
 unfold mq at hb
 split at hb
 ·rename_i l0 h0 m0 e1 e2 e3
  split at hb
  ·rename_i hle
   simp only [Option.some.injEq,Prod.mk.injEq] at hb
   obtain ⟨rfl,rfl,rfl⟩:=hb
   refine ⟨?_,hle⟩
   simp only [Instr.sliceBounds,Sem.run_bind,yP (w:=w) Vz e3 (show m0<=cap by omega),yP (w:=w) m8 e2 hle.2.1,Result.andThen_ok]
   cases lo with
   | none=>
    cases jW with
    | some v=>exact lq.elim
    | none=>
     simp only [Option.some.injEq] at e1;subst e1
     rfl
   | some x=>
    cases jW with
    | none=>exact lq.elim
    | some v=>
     simp only [Sem.run_bind,yP (w:=w) (show ao E x v from lq) e1 hle.1,Result.andThen_ok,Sem.run_pure]
  ·cases hb
 ·cases hb
theorem FR {t:TypeId} {x y hi mx:AV} {v fR O1:Value} {lo:Option AV} {jW:Option Value} (hx:ao ⟨F,w.heap,i,H.n⟩ x v)
  (lq:qB ⟨F,w.heap,i,H.n⟩ lo jW) (m8:ao ⟨F,w.heap,i,H.n⟩ hi fR) (Vz:ao ⟨F,w.heap,i,H.n⟩ mx O1) (h:s4 P t x lo hi mx=some y):
  ∃ u,(Instr.sliceAt t v jW (some fR) (some O1)).run P w=.ok u w/\ao ⟨F,w.heap,i,H.n⟩ y u:=by
 unfold s4 at h
 split at h
 ·rename_i e hu
  split at h
  ·rename_i inf bt
   have cP:P.cellsOf e=inf.size:=by simp [Program.cellsOf,bt]
   split at h
   ·rename_i r off len aA
    cases hx with
    | slice _ _ _ _ cap hr hc Im=>
     split at h
     ·rename_i l k m hb
      obtain ⟨cc,h1,h2,h3⟩:=wA (P:=P) (w:=w) lq m8 Vz hc hb
      obtain ⟨c,e',z,Im,hle⟩:=Im
      split at h
      ·rename_i hez;subst hez
       refine ⟨.slice (if m=l then some ⟨i r,off,none⟩ else (some (⟨i r,off,none⟩:Addr)).map (·.add (l*inf.size))) (k-l) (m-l),?_,?_⟩
       ·simp [Instr.sliceAt,run_underlying hu,Instr.slice,cc,run_sizeOf w bt,cP]
       split at h
       ·rename_i h0
        simp only [Option.some.injEq] at h;subst h
        rw [h0.1,Nat.sub_self]
        exact .bY 0 _ _ (Nat.zero_le _)
       ·rename_i h0
        simp only [Option.some.injEq] at h;subst h
        have BY:off+l*inf.size+(m-l)*inf.size<=c.size:=by
         rw [Nat.add_assoc,←Nat.add_mul,Nat.add_sub_cancel' (by omega)]
         have:m*inf.size<=cap*inf.size:=Nat.mul_le_mul_right _ (by omega)
         omega
        have hv:=ao.slice (E:=⟨F,w.heap,i,H.n⟩) r (off+l*inf.size) (k-l) inf.size (m-l) hr (by omega) ⟨c,e',z,Im,BY⟩
        by_cases Fx:m=l
        ·have:l=0:=by
          by_cases h1:l=0
          ·exact h1
          ·exact absurd ⟨by omega,by omega⟩ h0
         subst this
         rw [if_pos Fx]
         simpa using hv
        ·rw [if_neg Fx,Option.map_some,Addr.add_lit];exact hv
      ·cases h
     ·cases h
   ·rename_i len cs
    split at h
    ·rename_i l k m hb
     have key:∀ a cap,v=.slice a len cap->len<=cap->∃ u,(Instr.sliceAt t v jW (some fR) (some O1)).run P w=.ok u w/\u=.slice (if m=l then a else a.map (·.add (l*inf.size))) (k-l) (m-l)/\l<=k/\k<=m/\m<=len:=by
      intro a cap hv hc
      obtain ⟨cc,h1,h2,h3⟩:=wA (P:=P) (w:=w) lq m8 Vz hc hb
      subst hv
      exact ⟨_,by simp [Instr.sliceAt,run_underlying hu,Instr.slice,cc,run_sizeOf w bt,cP],rfl,h1,h2,h3⟩
     split at h
     ·rename_i h0
      simp only [Option.some.injEq] at h;subst h
      have fin:∀ a cap,v=.slice a len cap->len<=cap->∃ u,(Instr.sliceAt t v jW (some fR) (some O1)).run P w=.ok u w/\ao ⟨F,w.heap,i,H.n⟩ (.list 0 []) u:=by
       intro a cap hv hc
       obtain ⟨u,Mu,rfl,_⟩:=key a cap hv hc
       exact ⟨_,Mu,by rw [h0,Nat.sub_self];exact .bY 0 _ _ (Nat.zero_le _)⟩
      cases hx with
      | bY _ cap a hc=>exact fin _ _ rfl hc
      | list _ cap _ b o vs hc hF hm hl hv=>exact fin _ _ rfl hc
     ·rename_i h0
      split at h
      ·rename_i hlen
       simp only [Option.some.injEq] at h;subst h
       cases hx with
       | bY=>exact absurd rfl hlen.2
       | list _ cap _ b o vs hc hF hm hl hv=>
        obtain ⟨u,Mu,rfl,h1,h2,h3⟩:=key _ cap rfl hc
        refine ⟨_,Mu,?_⟩
        rw [if_neg (by omega),Option.map_some,Addr.add_lit]
        refine yO hF hm hl hv (l*inf.size) ((k-l)*inf.size) (k-l) (m-l) ?_ (by omega)
        rw [←Nat.add_mul,Nat.add_sub_cancel' (by omega),←hlen.1]
        exact Nat.mul_le_mul_right _ (by omega)
      ·cases h
    ·cases h
   ·cases h
  ·cases h
 ·cases h
end
end Go.Abs
end
noncomputable section
namespace Go.Abs
def oE (P:Program) (H:af) (t:TypeId) (x:AV):Option AV:=
 match P.underlying t with
 | some (.array n _)=>match x with
  | .slice r off len _=>if n<=len then some (.ptr r off) else none
  | .list len cells=>if n<=len/\0<cells.length then some (.dK cells 0) else none
  | _=>none
 | _=>none
def dn (P:Program) (H:af) (b:Builtin) (ts:List TypeId) (args:List AV):Option (AV × af):=
 match b,ts,args with
 | .append,s::x::_,[sv,xv]=>jy P H s x sv xv
 | .len,t::_,[x]=>match Pn P t x with
  | some y=>some (y,H)
  | none=>none
 | .copy,t::_,[d,s]=>yF P H t d s
 | .clear,t::_,[x]=>if (P.underlying t).isSome then match qW P H t x with
   | some H'=>some (.top,H')
   | none=>none
  else none
 | .max,_,x::xs=>match wR CJ x xs with
  | some y=>some (y,H)
  | none=>none
 | .min,_,x::xs=>match wR CL x xs with
  | some y=>some (y,H)
  | none=>none
 | _,_,_=>none
def SG (ρ:Operand->AV):Option Operand->Option AV
 | some x=>some (ρ x)
 | none=>none
def fi (P:Program) (ρ:Operand->AV) (H:af) (o:Oper):Option (AV × af):=
 let v (x:Option AV):Option (AV × af):=match x with
  | some y=>some (y,H)
  | none=>none
 match o.op with
 | .move x | .assign x=>some (ρ x,H)
 | .pick c a b=>match ρ c with
  | .bool t=>some (if t then ρ a else ρ b,H)
  | _=>none
 | .alloc t=>match zeroOf P t with
  | some z=>some (.ptr H.n 0,H.push (.cells z.cells))
  | none=>none
 | .box _ x=>if (ρ x).known then some (.ptr H.n 0,H.push (.cells (ρ x).cells)) else none
 | .build t parts=>v (yS P t (parts.toList.map fun p=>(p.1,ρ p.2)))
 | .buildSlice t n parts=>bC P H t n (parts.toList.map fun p=>(p.1,ρ p.2))
 | .load t a=>v (nN P H t (ρ a))
 | .store t a x=>match n5 P H t (ρ a) (ρ x) with
  | some H'=>some (.top,H')
  | none=>none
 | .nilCheck x=>v (jL (ρ x))
 | .binOp op t x y _=>v (fW P op t (isConst x) (isConst y) (ρ x) (ρ y))
 | .unOp op _ x=>v (om op (ρ x))
 | .convert s d x=>v (oB P H s d (ρ x))
 | .sliceToArrayPointer t x=>v (oE P H t (ρ x))
 | .makeInterface t x=>v (Po P t (ρ x))
 | .makeFunc fn first cap=>match fn with
  | .func f=>some (.func f (first.toList.map ρ) (cap.toList.map ρ),H)
  | _=>none
 | .makeSlice t l c=>dY P H t (ρ l) (ρ c)
 | .slice t x lo hi none=>v (q_ P H t (ρ x) (SG ρ lo) (SG ρ hi))
 | .slice t x lo (some hi) (some mx)=>v (s4 P t (ρ x) (SG ρ lo) (ρ hi) (ρ mx))
 | .fieldAddr s x f=>v (gq P s (ρ x) f)
 | .field t x f=>v (rj P t (ρ x) f)
 | .indexAddr t x ix=>v (gr P t (ρ x) (ρ ix))
 | .index t x ix=>v (ze P t (ρ x) (ρ ix))
 | .extract x k=>v (oo (ρ x) k)
 | .makeMap t r=>jb P H t (SG ρ r)
 | .lookup t x k ok=>v (pS P H t (ρ x) (ρ k) ok)
 | .mapUpdate t m k x=>match fD P H t (ρ m) (ρ k) (ρ x) with
  | some H'=>some (.top,H')
  | none=>none
 | .insert t m k x=>match fD P H t (ρ m) (ρ k) (ρ x) with
  | some H'=>some (.top,H')
  | none=>none
 | .mapEntry t m k=>iF P H t (ρ m) (ρ k)
 | .entryStore t m s x=>match fE H (ρ m) (ρ s) (ρ x) with
  | some H'=>some (.top,H')
  | none=>none
 | .call { callee:=.builtin b,args,argTypes }=>dn P H b argTypes.toList (args.toList.map ρ)
 | _=>none
section
variable {P : Program} {F G : Nat → Prop} {i : Nat → Nat} {H : af} {w : World}
theorem pY (hH:ba F G i H w.heap) {s:Sem Next} {v:Value} {x:AV} (hs:s.run P w=.ok (.value v) w) (hx:ao ⟨F,w.heap,i,H.n⟩ x v):mo P s F G i H w x H:=
 ⟨v,w,i,.inl hs,hx,hH,Ext.refl _ _ _ _ _,Nat.le_refl _⟩
theorem tw {E:Env} {ρ:Operand->AV} {ρ':Operand->Value} (h:∀ x,ao E (ρ x) (ρ' x)) (l:Array Operand):ay E (l.toList.map ρ) (l.map ρ').toList:=by
 refine ⟨by simp,fun j x v h1 h2=>?_⟩
 rw [Array.toList_map] at h2
 simp only [List.getElem?_map,Option.map_eq_some_iff] at h1 h2
 obtain ⟨a,ha,rfl⟩:=h1
 obtain ⟨b,hb,rfl⟩:=h2
 rw [ha] at hb;cases hb
 exact h a
theorem xZ {E:Env} {ρ:Operand->AV} {ρ':Operand->Value} (h:∀ x,ao E (ρ x) (ρ' x)) (o:Option Operand):qB E (SG ρ o) (o.map ρ'):=by
 cases o with
 | none=>trivial
 | some x=>exact h x
theorem pP {E:Env} {ρ:Operand->AV} {ρ':Operand->Value} (h:∀ x,ao E (ρ x) (ρ' x)) (l:Array (Nat × Operand)):
  (l.toList.map fun p=>(p.1,ρ p.2)).length=(l.map fun (i,x)=>(i,ρ' x)).size/\
  ∀ (j:Nat) (p:Nat × AV) (q:Nat × Value),(l.toList.map fun p=>(p.1,ρ p.2))[j]?=some p->(l.map fun (i,x)=>(i,ρ' x))[j]?=some q->p.1=q.1/\ao E p.2 q.2:=by
 refine ⟨by simp,fun j p q h1 h2=>?_⟩
 simp only [List.getElem?_map,Array.getElem?_map,Option.map_eq_some_iff] at h1 h2
 obtain ⟨a,ha,rfl⟩:=h1
 obtain ⟨b,hb,rfl⟩:=h2
 rw [Array.getElem?_toList] at ha
 rw [ha] at hb;cases hb
 exact ⟨rfl,h _⟩
theorem DZ {E:Env} {t:TypeId} {x y:AV} {v:Value} (hx:ao E x v) (h:oE P H t x=some y):∃ u,(Instr.arrayAt t v).run P w=.ok u w/\ao E y u:=by
 unfold oE at h
 split at h
 ·rename_i n e hu
  split at h
  ·rename_i r off len aA
   cases hx with
   | slice _ _ _ _ cap hr hc hb=>
    split at h
    ·rename_i hn
     simp only [Option.some.injEq] at h;subst h
     exact ⟨_,by simp only [Instr.arrayAt,Sem.run_bind,run_underlying hu,Result.andThen_ok];rw [if_neg (by omega)];rfl,.ptr r off hr⟩
    ·cases h
  ·rename_i len cells
   split at h
   ·rename_i hn
    simp only [Option.some.injEq] at h;subst h
    cases hx with
    | bY=>simp at hn
    | list _ cap _ b o vs hc hF hm hl hv=>
     refine ⟨.pointer (some ⟨b,o+0,none⟩),?_,.dK cells 0 b o vs hF hm hl hv⟩
     simp only [Instr.arrayAt,Sem.run_bind,run_underlying hu,Result.andThen_ok];rw [if_neg (by omega)];rfl
   ·cases h
  ·cases h
 ·cases h
def PA (v:Value):Sem Next:=
 match v with
 | .pointer none | .nilIface | .nilFunc=>runtimePanic .nilDeref
 | .func (.method name) first captured=>
  match (first[0]?:Option Value) with
  | some .nilIface=>runtimePanic .nilDeref
  | some (.iface t w)=>do
   if (←nilAhead ((←program).types.size+Made.depth) t w name) != some false then
    unsupported (.noEntry "op/nilCheck.the method's receiver behind this interface value is a nil pointer, or cannot be seen to be none, and the arguments act or may panic (ledger 612)")
   pure (.value (.func (.method name) first captured))
  | _=>pure (.value (.func (.method name) first captured))
 | x=>pure (.value x)
theorem Ce {E:Env} {x y:AV} {v:Value} (hx:ao E x v) (h:jL x=some y):(PA v).run P w=.ok (.value v) w/\ao E y v:=by
 unfold jL at h
 split at h<;>first
  | (cases h;done)
  | (simp only [Option.some.injEq] at h;subst h;cases hx<;>exact ⟨rfl,by constructor<;>assumption⟩)
end
end Go.Abs
end
noncomputable section
namespace Go.Abs
section
variable {P : Program} {F G : Nat → Prop} {i : Nat → Nat} {H : af} {w : World}
theorem du {x:Option AV} {H H':af} {y:AV} (h:(match x with | some y=>some (y,H) | none=>none)=some (y,H')):x=some y/\H=H':=by
 cases x with
 | none=>simp at h
 | some z=>simp at h;exact ⟨by rw [h.1],h.2⟩
theorem Cf (hH:ba F G i H w.heap) {b:Builtin} {ts:List TypeId} {xs:List AV} {vs:List Value} {ty:TypeId} {cons:Array Bool} {y:AV} {H':af} (hx:ay ⟨F,w.heap,i,H.n⟩ xs vs)
  (h:dn P H b ts xs=some (y,H')):mo P (builtin b ts.toArray ty cons vs.toArray) F G i H w y H':=by
 unfold dn at h
 have one:∀ {x:AV},ay ⟨F,w.heap,i,H.n⟩ [x] vs->∃ v,vs=[v]/\ao ⟨F,w.heap,i,H.n⟩ x v:=by
  intro x hx
  match vs,hx with
  | [v],hx=>exact ⟨v,rfl,hx.2 0 x v rfl rfl⟩
  | [],hx=>simp [ay] at hx
  | _::_::_,hx=>simp [ay] at hx
 have two:∀ {x y:AV},ay ⟨F,w.heap,i,H.n⟩ [x,y] vs->∃ v u,vs=[v,u]/\ao ⟨F,w.heap,i,H.n⟩ x v/\ao ⟨F,w.heap,i,H.n⟩ y u:=by
  intro x y hx
  match vs,hx with
  | [v,u],hx=>exact ⟨v,u,rfl,hx.2 0 x v rfl rfl,hx.2 1 y u rfl rfl⟩
  | [],hx=>simp [ay] at hx
  | [_],hx=>simp [ay] at hx
  | _::_::_::_,hx=>simp [ay] at hx
 split at h
 ·obtain ⟨v,u,rfl,h1,h2⟩:=two hx
  exact FM hH h1 h2 h
 ·obtain ⟨v,rfl,h1⟩:=one hx
  split at h
  ·rename_i y' hy
   simp only [Option.some.injEq,Prod.mk.injEq] at h
   obtain ⟨rfl,rfl⟩:=h
   exact bB hH (Pp h1 hy)
  ·cases h
 ·obtain ⟨v,u,rfl,h1,h2⟩:=two hx
  exact MP hH h1 h2 h
 ·obtain ⟨v,rfl,h1⟩:=one hx
  split at h
  ·rename_i hu
   split at h
   ·rename_i H2 hc
    simp only [Option.some.injEq,Prod.mk.injEq] at h
    obtain ⟨rfl,rfl⟩:=h
    exact IU hH h1 hc hu
   ·cases h
  ·cases h
 ·rename_i x xs
  split at h
  ·rename_i y' hy
   simp only [Option.some.injEq,Prod.mk.injEq] at h
   obtain ⟨rfl,rfl⟩:=h
   match vs,hx with
   | [],hx=>simp [ay] at hx
   | v::vs,hx=>
    have h0:=hx.2 0 x v rfl rfl
    have hs:ay ⟨F,w.heap,i,H.n⟩ xs vs:=⟨by have:=hx.1;simpa using this,fun j a b p q=>hx.2 (j+1) a b (by simpa using p) (by simpa using q)⟩
    exact bB hH (s:=Builtin.max_ ts.toArray ty (v::vs).toArray) (uW (fun _ _ _ _ _ a b c=>MQ a b c) xs vs x y' v hs h0 hy)
  ·cases h
 ·rename_i x xs
  split at h
  ·rename_i y' hy
   simp only [Option.some.injEq,Prod.mk.injEq] at h
   obtain ⟨rfl,rfl⟩:=h
   match vs,hx with
   | [],hx=>simp [ay] at hx
   | v::vs,hx=>
    have h0:=hx.2 0 x v rfl rfl
    have hs:ay ⟨F,w.heap,i,H.n⟩ xs vs:=⟨by have:=hx.1;simpa using this,fun j a b p q=>hx.2 (j+1) a b (by simpa using p) (by simpa using q)⟩
    exact bB hH (s:=Builtin.min_ ts.toArray ty (v::vs).toArray) (uW (fun _ _ _ _ _ a b c=>MR a b c) xs vs x y' v hs h0 hy)
  ·cases h
 ·cases h
theorem Py (hH:ba F G i H w.heap) {ρ:Operand->AV} {ρ':Operand->Value} (hρ:∀ x,ao ⟨F,w.heap,i,H.n⟩ (ρ x) (ρ' x)) {o:Oper} {y:AV} {H':af}
  (h:fi P ρ H o=some (y,H')):mo P (execOp ρ' o) F G i H w y H':=by
 unfold fi at h
 cases ho:o.op<;>simp only [ho,reduceCtorEq] at h
 case move x=>
  simp only [Option.some.injEq,Prod.mk.injEq] at h
  obtain ⟨rfl,rfl⟩:=h
  simp only [execOp,ho]
  exact pY hH rfl (hρ x)
 case assign x=>
  simp only [Option.some.injEq,Prod.mk.injEq] at h
  obtain ⟨rfl,rfl⟩:=h
  simp only [execOp,ho]
  exact pY hH rfl (hρ x)
 case pick c a b=>
  split at h
  ·rename_i t hc
   simp only [Option.some.injEq,Prod.mk.injEq] at h
   obtain ⟨rfl,rfl⟩:=h
   have:=hρ c
   rw [hc] at this
   simp only [execOp,ho]
   generalize hvc:ρ' c=vc at this
   cases this
   refine pY hH (v:=if t then ρ' a else ρ' b) ?_ (by cases t<;>exact hρ _)
   simp only [asBool,Sem.run_bind,Sem.run_pure,Result.andThen_ok]
  ·cases h
 case alloc t=>
  split at h
  ·rename_i z hz
   simp only [Option.some.injEq,Prod.mk.injEq] at h
   obtain ⟨rfl,rfl⟩:=h
   simp only [execOp,ho]
   exact Iv hH hz
  ·cases h
 case box t x=>
  split at h
  ·rename_i hk
   simp only [Option.some.injEq,Prod.mk.injEq] at h
   obtain ⟨rfl,rfl⟩:=h
   simp only [execOp,ho]
   exact O2 hH t (hρ x) hk
  ·cases h
 case build t ps=>
  obtain ⟨k1,rfl⟩:=du h
  clear h
  have h:=k1
  simp only [execOp,ho]
  obtain ⟨hl,hp⟩:=pP hρ ps
  exact bB hH (Mx h hl hp)
 case buildSlice t n ps=>
  simp only [execOp,ho]
  obtain ⟨hl,hp⟩:=pP hρ ps
  exact nK hH h hl hp
 case load t a=>
  obtain ⟨k1,rfl⟩:=du h
  clear h
  have h:=k1
  simp only [execOp,ho]
  exact bB hH (CG hH (hρ a) h)
 case store t a x=>
  split at h
  ·rename_i H2 hs
   simp only [Option.some.injEq,Prod.mk.injEq] at h
   obtain ⟨rfl,rfl⟩:=h
   simp only [execOp,ho]
   exact Iw hH (hρ a) (hρ x) hs
  ·cases h
 case nilCheck x=>
  obtain ⟨k1,rfl⟩:=du h
  clear h
  have h:=k1
  obtain ⟨h1,h2⟩:=Ce (P:=P) (w:=w) (hρ x) h
  have e:execOp ρ' o=PA (ρ' x):=by simp only [execOp,ho];rfl
  rw [e]
  exact pY hH h1 h2
 case binOp op t x z yt=>
  obtain ⟨k1,rfl⟩:=du h
  clear h
  have h:=k1
  simp only [execOp,ho]
  exact Iu hH (IX (hρ x) (hρ z) h)
 case unOp op t x=>
  obtain ⟨k1,rfl⟩:=du h
  clear h
  have h:=k1
  simp only [execOp,ho]
  exact bB hH (IV (hρ x) h)
 case convert s d x=>
  obtain ⟨k1,rfl⟩:=du h
  clear h
  have h:=k1
  simp only [execOp,ho]
  exact bB hH (DY hH (hρ x) h)
 case sliceToArrayPointer t x=>
  obtain ⟨k1,rfl⟩:=du h
  clear h
  have h:=k1
  simp only [execOp,ho]
  exact bB hH (DZ (hρ x) h)
 case makeInterface t x=>
  obtain ⟨k1,rfl⟩:=du h
  clear h
  have h:=k1
  simp only [execOp,ho]
  refine bB hH ?_
  unfold Po at h
  split at h
  ·cases h
  ·rename_i d hd hu
   simp only [Option.some.injEq] at h;subst h
   refine ⟨.iface t (ρ' x),?_,.iface t _ _ (hρ x)⟩
   simp only [Instr.makeInterface,Sem.run_bind,run_underlying hu,Result.andThen_ok]
   cases d<;>first | rfl | exact absurd hu (hd _)
  ·cases h
 case makeFunc fn first cap=>
  cases fn<;>simp only [reduceCtorEq] at h
  rename_i f
  simp only [Option.some.injEq,Prod.mk.injEq] at h
  obtain ⟨rfl,rfl⟩:=h
  simp only [execOp,ho]
  have r1:=tw hρ first
  have r2:=tw hρ cap
  exact bB hH ⟨.func (.func f) (first.map ρ') (cap.map ρ'),rfl,.func f _ _ _ _ (by simp) (by simp) (fun j x v a b=>r1.2 j x v a (by simpa using b)) (fun j x v a b=>r2.2 j x v a (by simpa using b))⟩
 case makeSlice t l c=>
  simp only [execOp,ho]
  exact yT hH (hρ l) (hρ c) h
 case slice t x lo hi mx=>
  cases mx with
  | some m=>
   cases hi with
   | none=>simp at h
   | some hi=>
    simp only at h
    obtain ⟨k1,rfl⟩:=du h
    clear h
    have h:=k1
    simp only [execOp,ho]
    exact bB hH (FR (hρ x) (xZ hρ lo) (hρ hi) (hρ m) h)
  | none=>
   simp only at h
   obtain ⟨k1,rfl⟩:=du h
   clear h
   have h:=k1
   simp only [execOp,ho]
   exact bB hH (Is hH (hρ x) (xZ hρ lo) (xZ hρ hi) h)
 case fieldAddr s x f=>
  obtain ⟨k1,rfl⟩:=du h
  clear h
  have h:=k1
  simp only [execOp,ho]
  exact bB hH (zq (hρ x) h)
 case field t x f=>
  obtain ⟨k1,rfl⟩:=du h
  clear h
  have h:=k1
  simp only [execOp,ho]
  exact bB hH (IT (hρ x) h)
 case indexAddr t x ix=>
  obtain ⟨k1,rfl⟩:=du h
  clear h
  have h:=k1
  simp only [execOp,ho]
  exact bB hH (zr (hρ x) (hρ ix) h)
 case index t x ix=>
  obtain ⟨k1,rfl⟩:=du h
  clear h
  have h:=k1
  simp only [execOp,ho]
  exact bB hH (IS (hρ x) (hρ ix) h)
 case extract x k=>
  obtain ⟨k1,rfl⟩:=du h
  clear h
  have h:=k1
  simp only [execOp,ho]
  refine bB hH ?_
  unfold oo at h
  split at h
  ·rename_i vs hv
   have:=hρ x
   rw [hv] at this
   generalize ρ' x=u at this
   cases this with
   | tuple _ us hl hr=>
    have hk:k<us.size:=by rw [←hl];exact (List.getElem?_eq_some_iff.1 h).1
    refine ⟨us[k],?_,hr k y us[k] h (by simp [hk])⟩
    simp only [Instr.extract,Array.getElem?_eq_getElem hk]
    rfl
  ·cases h
 case makeMap t r=>
  simp only [execOp,ho]
  exact DX hH (xZ hρ r) h
 case lookup t x k ok=>
  obtain ⟨k1,rfl⟩:=du h
  clear h
  have h:=k1
  simp only [execOp,ho]
  exact Gh hH (hρ x) (hρ k) h
 case mapUpdate t m k x=>
  split at h
  ·rename_i H2 hs
   simp only [Option.some.injEq,Prod.mk.injEq] at h
   obtain ⟨rfl,rfl⟩:=h
   simp only [execOp,ho]
   exact oA hH (hρ m) (hρ k) (hρ x) hs
  ·cases h
 case insert t m k x=>
  split at h
  ·rename_i H2 hs
   simp only [Option.some.injEq,Prod.mk.injEq] at h
   obtain ⟨rfl,rfl⟩:=h
   simp only [execOp,ho]
   exact oA hH (hρ m) (hρ k) (hρ x) hs
  ·cases h
 case mapEntry t m k=>
  simp only [execOp,ho]
  exact Cb hH (hρ m) (hρ k) h
 case entryStore t m s x=>
  split at h
  ·rename_i H2 hs
   simp only [Option.some.injEq,Prod.mk.injEq] at h
   obtain ⟨rfl,rfl⟩:=h
   simp only [execOp,ho]
   exact xH hH (hρ m) (hρ s) (hρ x) hs
  ·cases h
 case call c=>
  obtain ⟨callee,args,O4⟩:=c
  cases callee with
  | builtin b=>
   simp only at h
   simp only [execOp,ho,resolve,pure_bind,invoke]
   exact Cf (P:=P) (ty:=o.type) hH (tw hρ args) h
  | value f=>simp at h
  | invoke r m=>simp at h
end
end Go.Abs
end
noncomputable section
namespace Go.Abs
inductive gg (H:af):af->Prop
  | same:gg H H
  | push (row:eR):gg H (H.push row)
  | ij (r:Nat) (row j8:eR) (h:H.get r=some j8):gg H (H.ij r row)
  | move (r:Nat) (row j8:eR) (h:H.get r=some j8):gg H ((H.kill r).push row)
structure dD (H H':af):Prop where
  ok:H'.rev.length=H'.n
  n:H.n<=H'.n
  fH:H'.fH=H.fH
  live:∀ r row,r<H.n->H'.get r=some row->∃ j8,H.get r=some j8
theorem dD.refl {H:af} (bw:H.rev.length=H.n):dD H H:=⟨bw,Nat.le_refl _,rfl,fun _ row _ h=>⟨row,h⟩⟩
theorem dD.trans {A B C:af} (h:dD A B) (k:dD B C):dD A C where
  ok:=k.ok
  n:=Nat.le_trans h.n k.n
  fH:=k.fH.trans h.fH
  live r row hr hc:=by
    obtain ⟨j8,h0⟩:=k.live r row (Nat.lt_of_lt_of_le hr h.n) hc
    exact h.live r j8 hr h0
theorem gg.grow {H H':af} (bw:H.rev.length=H.n) (h:gg H H'):dD H H':=by
  cases h with
  | same=>exact dD.refl bw
  | push row=>
    refine ⟨by simp [af.push,bw],by simp,rfl,fun r ro hr h=>?_⟩
    rw [af.dV hr] at h;exact ⟨ro,h⟩
  | ij r row j8 h0=>
    refine ⟨by simp [af.ij,bw],by simp,rfl,fun s ro hs h=>?_⟩
    rw [af.iS bw _ (af.cT h0)] at h
    split at h
    · rename_i e;subst e;exact ⟨j8,h0⟩
    · exact ⟨ro,h⟩
  | move r row j8 h0=>
    refine ⟨by simp [af.push,af.kill,bw],by simp,rfl,fun s ro hs h=>?_⟩
    rw [af.dV (by simpa using hs),af.fa bw (af.cT h0)] at h
    split at h
    · cases h
    · exact ⟨ro,h⟩
theorem j9 {H:af} {r:Nat} {cs:List AV} (h:iy H r=some cs):H.get r=some (.cells cs):=gp (jT h)
theorem DS {P:Program} {H H':af} {sT xT:TypeId} {s x y:AV} (h:jy P H sT xT s x=some (y,H')):gg H H':=by
  unfold jy at h
  repeat' (split at h)
  all_goals first
    | (cases h;done)
    | (simp only [Option.some.injEq,Prod.mk.injEq] at h
       obtain ⟨rfl,rfl⟩:=h
       first
        | exact .same
        | exact .push _
        | exact .move _ _ _ (j9 (by assumption)))
theorem IN {P:Program} {H H':af} {t:TypeId} {d s y:AV} (h:yF P H t d s=some (y,H')):gg H H':=by
  unfold yF at h
  repeat' (split at h)
  all_goals first
    | (cases h;done)
    | (simp only [Option.some.injEq,Prod.mk.injEq] at h
       obtain ⟨rfl,rfl⟩:=h
       first
        | exact .same
        | exact .ij _ _ _ (j9 (by assumption)))
theorem Gf {P:Program} {H H':af} {t:TypeId} {x:AV} (h:qW P H t x=some H'):gg H H':=by
  unfold qW at h
  repeat' (split at h)
  all_goals first
    | (cases h;done)
    | (simp only [Option.some.injEq] at h
       subst h
       first
        | exact .same
        | exact .ij _ _ _ (j9 (by assumption)))
theorem Gg {P:Program} {H H':af} {t:TypeId} {x y:AV} (h:n5 P H t x y=some H'):gg H H':=by
  unfold n5 at h
  repeat' (split at h)
  all_goals first
    | (cases h;done)
    | (simp only [Option.some.injEq] at h
       subst h
       exact .ij _ _ _ (j9 (by assumption)))
theorem mB {P:Program} {H H':af} {t:TypeId} {n:Nat} {ps:List (Nat × AV)} {y:AV} (h:bC P H t n ps=some (y,H')):gg H H':=by
  unfold bC at h
  repeat' (split at h)
  all_goals first
    | (cases h;done)
    | (simp only [Option.map_eq_some_iff,Prod.mk.injEq] at h
       obtain ⟨_,_,rfl,rfl⟩:=h
       exact .push _)
theorem xF {P:Program} {H H':af} {t:TypeId} {a b:AV} {y:AV} (h:dY P H t a b=some (y,H')):gg H H':=by
  unfold dY at h
  repeat' (split at h)
  all_goals first
    | (cases h;done)
    | (simp only [Option.some.injEq,Prod.mk.injEq] at h
       obtain ⟨rfl,rfl⟩:=h
       exact .push _)
theorem qN {P:Program} {H H':af} {b:Builtin} {ts:List TypeId} {xs:List AV} {y:AV} (h:dn P H b ts xs=some (y,H')):gg H H':=by
  unfold dn at h
  repeat' (split at h)
  all_goals first
    | (cases h;done)
    | exact DS h
    | exact IN h
    | (simp only [Option.some.injEq,Prod.mk.injEq] at h
       obtain ⟨_,rfl⟩:=h
       first
        | exact .same
        | exact Gf (by assumption))
theorem xG {P:Program} {H H':af} {t:TypeId} {m k v:AV} (h:fD P H t m k v=some H'):gg H H':=by
  unfold fD at h
  repeat' (split at h)
  all_goals first
    | (cases h;done)
    | (simp only [Option.some.injEq] at h
       subst h
       exact .ij _ _ _ (by assumption))
theorem uV {H H':af} {m k v:AV} (h:fE H m k v=some H'):gg H H':=by
  unfold fE at h
  repeat' (split at h)
  all_goals first
    | (cases h;done)
    | (simp only [Option.some.injEq] at h
       subst h
       exact .ij _ _ _ (by assumption))
theorem zi {P:Program} {H H':af} {t:TypeId} {m k y:AV} (h:iF P H t m k=some (y,H')):gg H H':=by
  unfold iF at h
  repeat' (split at h)
  all_goals first
    | (cases h;done)
    | (simp only [Option.some.injEq,Prod.mk.injEq] at h
       obtain ⟨_,rfl⟩:=h
       exact .ij _ _ _ (by assumption))
theorem Ca {P:Program} {H H':af} {t:TypeId} {x:Option AV} {y:AV} (h:jb P H t x=some (y,H')):gg H H':=by
  unfold jb at h
  split at h
  · simp only [Option.some.injEq,Prod.mk.injEq] at h
    obtain ⟨_,rfl⟩:=h
    exact .push _
  · cases h
theorem th {P:Program} {ρ:Operand->AV} {H H':af} {o:Oper} {y:AV} (h:fi P ρ H o=some (y,H')):gg H H':=by
  unfold fi at h
  cases ho:o.op<;>simp only [ho,reduceCtorEq] at h
  all_goals first
    | exact ((du h).2 ▸ gg.same)
    | exact mB h
    | exact xF h
    | exact Ca h
    | exact zi h
    | (repeat' (split at h)
       all_goals first
        | (cases h;done)
        | exact qN h
        | exact ((du h).2 ▸ gg.same)
        | (simp only [Option.some.injEq,Prod.mk.injEq] at h
           obtain ⟨_,rfl⟩:=h
           first
            | exact .same
            | exact .push _
            | exact Gg (by assumption)
            | exact xG (by assumption)
            | exact uV (by assumption)))
    | (simp only [Option.some.injEq,Prod.mk.injEq] at h
       obtain ⟨_,rfl⟩:=h
       exact .same)
    | skip
  case slice t x lo hi mx=>
    cases mx with
    | none=>exact (du h).2 ▸ gg.same
    | some _=>cases hi with
      | none=>simp at h
      | some _=>exact (du h).2 ▸ gg.same
  case call c=>
    obtain ⟨ce,args,O4⟩:=c
    cases ce with
    | builtin b=>exact qN h
    | _=>simp at h
def iU:Op->Bool
  | .move _ | .assign _ | .pick .. | .build .. | .load .. | .nilCheck _ | .binOp .. | .unOp .. | .convert .. | .sliceToArrayPointer .. | .makeInterface .. | .makeFunc .. | .slice .. | .fieldAddr .. | .field .. |
    .indexAddr .. | .index .. | .extract .. | .lookup ..=>true
  | .call { callee:=.builtin b,.. }=>match b with
    | .len | .max | .min=>true
    | _=>false
  | _=>false
theorem zj {P:Program} {H H':af} {b:Builtin} {ts:List TypeId} {xs:List AV} {y:AV} (hq:b=.len\/b=.max\/b=.min) (h:dn P H b ts xs=some (y,H')):H'=H:=by
  unfold dn at h
  repeat' (split at h)
  all_goals first
    | (cases h;done)
    | (rcases hq with hq | hq | hq<;>cases hq;done)
    | (simp only [Option.some.injEq,Prod.mk.injEq] at h;exact h.2.symm)
theorem uM {P:Program} {ρ:Operand->AV} {H H':af} {o:Oper} {y:AV} (hq:iU o.op=true) (h:fi P ρ H o=some (y,H')):H'=H:=by
  unfold fi at h
  cases ho:o.op<;>simp only [ho,reduceCtorEq] at h
  all_goals rw [ho] at hq
  all_goals first
    | exact absurd (show false=true from hq) (by decide)
    | exact (du h).2.symm
    | (simp only [Option.some.injEq,Prod.mk.injEq] at h;exact h.2.symm)
    | skip
  case pick c a b=>
    split at h
    · simp only [Option.some.injEq,Prod.mk.injEq] at h;exact h.2.symm
    · cases h
  case makeFunc fn a b=>
    split at h
    · simp only [Option.some.injEq,Prod.mk.injEq] at h;exact h.2.symm
    · cases h
  case slice t x lo hi mx=>
    cases mx with
    | none=>exact (du h).2.symm
    | some _=>cases hi with
      | none=>simp at h
      | some _=>exact (du h).2.symm
  case call c=>
    obtain ⟨ce,args,O4⟩:=c
    cases ce with
    | builtin b=>
      refine zj ?_ h
      revert hq
      cases b<;>simp [iU]
    | _=>exact absurd (show false=true from hq) (by decide)
end Go.Abs
end
noncomputable section
namespace Go.Abs
def B1 (H:af):AV->AV × af
 | .slice r 0 n aA=>match H.get r with
  | some (.cells cs)=>(.list n cs,H.kill r)
  | _=>(.slice r 0 n aA,H)
 | .av=>(.list 0 [],H)
 | x=>(x,H)
def OG (H:af):List AV->List AV × af
 | []=>([],H)
 | x::xs=>((B1 H x).1::(OG (B1 H x).2 xs).1,(OG (B1 H x).2 xs).2)
def FB (H:af) (x:AV):AV × af:=
 match x with
 | .agg cs=>(.agg (OG H cs).1,(OG H cs).2)
 | x=>B1 H x
def ox (H:af):List (Nat × AV)->List (Nat × AV) × af
 | []=>([],H)
 | (k,x)::ps=>((k,(FB H x).1)::(ox (FB H x).2 ps).1,(ox (FB H x).2 ps).2)
def Pj (P:Program):Nat->TypeId->Bool
 | 0,_=>false
 | d+1,t=>match P.underlying t with
  | some (.slice _)=>true
  | some (.struct fs)=>fs.toList.any fun f=>Pj P d f.type
  | some (.array _ e)=>Pj P d e
  | _=>false
def DR (P:Program) (t:TypeId):Bool:=
 match P.underlying t with
 | some (.slice e)=>Pj P 4 e
 | _=>false
structure ik (F G:Nat->Prop) (i:Nat->Nat) (H:af) (h:Array Obj) (F':Nat->Prop) (H':af):Prop where
 sub:∀ b,F b->F' b
 rel:ba F' G i H' h
 n:H'.n=H.n
 grow:dD H H'
section
variable {F G F' FP : Nat → Prop} {i : Nat → Nat} {H H' H'' : af} {h : Array Obj}
theorem ik.refl (hH:ba F G i H h):ik F G i H h F H:=⟨fun _ h=>h,hH,rfl,dD.refl hH.ok⟩
theorem ik.trans (a:ik F G i H h F' H') (b:ik F' G i H' h FP H''):ik F G i H h FP H'':=⟨fun x hx=>b.sub x (a.sub x hx),b.rel,b.n.trans a.n,a.grow.trans b.grow⟩
theorem ik.le (a:ik F G i H h F' H'):Env.le ⟨F,h,i,H.n⟩ ⟨F',h,i,H'.n⟩:=
 ⟨a.sub,fun _ _=>rfl,Nat.le_of_eq a.n.symm,fun _ _=>rfl,fun b c e z hc=>⟨c,e,z,hc,Nat.le_refl _⟩⟩
theorem ba.freeze (hH:ba F G i H h) {r:Nat} {cs:List AV} (hr:H.get r=some (.cells cs)):ik F G i H h (fun b=>F b\/b=i r) (H.kill r):=by
 have hrn:=af.cT hr
 obtain ⟨o,ho,uJ⟩:=hH.row r _ hr
 have cC:i r<h.size:=(Array.getElem?_eq_some_iff.1 ho).1
 have cn:∀ (s:Nat) (row:eR),(H.kill r).get s=some row->s≠r/\H.get s=some row:=by
  intro s row hs
  rw [af.fa hH.ok hrn] at hs
  split at hs
  ·cases hs
  ·rename_i e;exact ⟨e,hs⟩
 have le:Env.le ⟨F,h,i,H.n⟩ ⟨fun b=>F b\/b=i r,h,i,(H.kill r).n⟩:=
  ⟨fun _ hb=>.inl hb,fun _ _=>rfl,Nat.le_refl _,fun _ _=>rfl,fun b c e z hc=>⟨c,e,z,hc,Nat.le_refl _⟩⟩
 refine ⟨fun _ hb=>.inl hb,⟨?_,?_,?_,?_,?_,by simp [af.kill,hH.ok]⟩,rfl,⟨by simp [af.kill,hH.ok],Nat.le_refl _,rfl,?_⟩⟩
 ·intro s row hs
  obtain ⟨_,et⟩:=cn s row hs
  obtain ⟨o',h1,h2⟩:=hH.row s row et
  exact ⟨o',h1,h2.mono le⟩
 ·intro s row hs
  obtain ⟨ek,et⟩:=cn s row hs
  obtain ⟨h1,h2⟩:=hH.out s row et
  exact ⟨fun hb=>hb.elim h1 fun e=>ek (hH.inj s r row _ et hr e),h2⟩
 ·intro s s' a b ha hb e
  exact hH.inj s s' a b (cn s a ha).2 (cn s' b hb).2 e
 ·intro b hb
  rcases hb with (hb | rfl) | hb
  ·exact hH.cn b (.inl hb)
  ·exact cC
  ·exact hH.cn b (.inr hb)
 ·intro b hb
  rcases hb with hb | rfl
  ·exact hH.apart b hb
  ·exact (hH.out r _ hr).2
 ·intro s row _ hs
  exact ⟨row,(cn s row hs).2⟩
theorem Pk (hH:ba F G i H h) {x:AV} {v:Value} (hv:ao ⟨F,h,i,H.n⟩ x v):
  ∃ F',ik F G i H h F' (B1 H x).2/\ao ⟨F',h,i,(B1 H x).2.n⟩ (B1 H x).1 v:=by
 unfold B1
 split
 ·rename_i r n aA
  split
  ·rename_i cs hr
   have hf:=hH.freeze hr
   refine ⟨_,hf,?_⟩
   obtain ⟨o,ho,uJ⟩:=hH.row r _ hr
   cases hv with
   | slice _ _ _ _ cap hrn hc hb=>
    cases uJ with
    | cells _ c e z hk=>
     have hl:=hk.len
     refine ao.list n cap cs (i r) 0 (c.toList.take cs.length) hc (.inr rfl) ⟨c,e,z,ho,by simp;omega,?_⟩ (by simp;omega) ?_
     ·intro j u hu
      rw [List.getElem?_take] at hu
      split at hu
      ·simpa using hu
      ·cases hu
     ·intro j y u hy hu
      rw [List.getElem?_take] at hu
      split at hu
      ·exact (hk.val j y u hy (by simpa using hu)).mono hf.le
      ·cases hu
  ·exact ⟨F,ik.refl hH,hv⟩
 ·refine ⟨F,ik.refl hH,?_⟩
  cases hv
  exact .bY 0 0 none (Nat.le_refl _)
 ·exact ⟨F,ik.refl hH,hv⟩
theorem Pm:∀ {xs:List AV} {vs:List Value} {F:Nat->Prop} {H:af},ba F G i H h->ay ⟨F,h,i,H.n⟩ xs vs->
  ∃ F',ik F G i H h F' (OG H xs).2/\ay ⟨F',h,i,(OG H xs).2.n⟩ (OG H xs).1 vs
 | [],vs,F,H,hH,hv=>⟨F,ik.refl hH,hv⟩
 | x::xs,[],F,H,hH,hv=>absurd hv.1 (by simp)
 | x::xs,v::vs,F,H,hH,hv=>by
  obtain ⟨F1,k1,k2⟩:=Pk hH (hv.2 0 x v rfl rfl)
  have hs:ay ⟨F,h,i,H.n⟩ xs vs:=⟨by have:=hv.1;simpa using this,fun j a b p q=>hv.2 (j+1) a b (by simpa using p) (by simpa using q)⟩
  obtain ⟨F2,k3,k4⟩:=Pm k1.rel (hs.mono k1.le)
  exact ⟨F2,k1.trans k3,ay.cons (k2.mono k3.le) k4⟩
theorem W7 (hH:ba F G i H h) {x:AV} {v:Value} (hv:ao ⟨F,h,i,H.n⟩ x v):
  ∃ F',ik F G i H h F' (FB H x).2/\ao ⟨F',h,i,(FB H x).2.n⟩ (FB H x).1 v:=by
 unfold FB
 split
 ·rename_i cs
  cases hv with
  | agg _ vs hl hc=>
   obtain ⟨F1,k1,k2⟩:=Pm hH (xs:=cs) (vs:=vs.toList) ⟨by simpa using hl,fun j x v a b=>hc j x v a (by simpa using b)⟩
   exact ⟨F1,k1,.agg _ vs (by simpa using k2.1) fun j x v a b=>k2.2 j x v a (by simpa using b)⟩
 ·exact Pk hH hv
theorem Ld:∀ {ps:List (Nat × AV)} {qs:List (Nat × Value)} {F:Nat->Prop} {H:af},ba F G i H h->ps.length=qs.length->
  (∀ (j:Nat) (p:Nat × AV) (q:Nat × Value),ps[j]?=some p->qs[j]?=some q->p.1=q.1/\ao ⟨F,h,i,H.n⟩ p.2 q.2)->
  ∃ F',ik F G i H h F' (ox H ps).2/\(ox H ps).1.length=qs.length/\
   ∀ (j:Nat) (p:Nat × AV) (q:Nat × Value),(ox H ps).1[j]?=some p->qs[j]?=some q->p.1=q.1/\ao ⟨F',h,i,(ox H ps).2.n⟩ p.2 q.2
 | [],qs,F,H,hH,hl,hp=>⟨F,ik.refl hH,hl,fun j p q a=>by simp [ox] at a⟩
 | (k,x)::ps,[],F,H,hH,hl,hp=>by simp at hl
 | (k,x)::ps,(k',v)::qs,F,H,hH,hl,hp=>by
  obtain ⟨e,hv⟩:=hp 0 _ _ rfl rfl
  obtain ⟨F1,k1,k2⟩:=W7 hH hv
  obtain ⟨F2,k3,k4,k5⟩:=Ld (ps:=ps) (qs:=qs) k1.rel (by simpa using hl) fun j p q a b=>by
   obtain ⟨e1,e2⟩:=hp (j+1) p q (by simpa using a) (by simpa using b)
   exact ⟨e1,e2.mono k1.le⟩
  refine ⟨F2,k1.trans k3,by simp [ox,k4],fun j p q a b=>?_⟩
  cases j with
  | zero=>
   simp only [ox,List.getElem?_cons_zero,Option.some.injEq] at a b
   subst a;subst b
   exact ⟨e,k2.mono k3.le⟩
  | succ j=>exact k5 j p q (by simpa [ox] using a) (by simpa using b)
end
theorem dD.kill {H:af} (bw:H.rev.length=H.n) {r:Nat} {row:eR} (hr:H.get r=some row):dD H (H.kill r):=by
 refine ⟨by simp [af.kill,bw],Nat.le_refl _,rfl,fun s ro _ hs=>?_⟩
 rw [af.fa bw (af.cT hr)] at hs
 split at hs
 ·cases hs
 ·exact ⟨ro,hs⟩
theorem tg {H:af} (bw:H.rev.length=H.n) (x:AV):dD H (B1 H x).2:=by
 unfold B1
 split
 ·split
  ·rename_i hr;exact dD.kill bw hr
  ·exact dD.refl bw
 ·exact dD.refl bw
 ·exact dD.refl bw
theorem Ge:∀ {H:af} (bw:H.rev.length=H.n) (xs:List AV),dD H (OG H xs).2
 | H,bw,[]=>dD.refl bw
 | H,bw,x::xs=>(tg bw x).trans (Ge (tg bw x).ok xs)
theorem zh {H:af} (bw:H.rev.length=H.n) (x:AV):dD H (FB H x).2:=by
 unfold FB
 split
 ·exact Ge bw _
 ·exact tg bw x
theorem CH:∀ {H:af} (bw:H.rev.length=H.n) (ps:List (Nat × AV)),dD H (ox H ps).2
 | H,bw,[]=>dD.refl bw
 | H,bw,(k,x)::ps=>(zh bw x).trans (CH (zh bw x).ok ps)
end Go.Abs
end
noncomputable section
namespace Go.Abs
abbrev W (ro:Option Nat):Fence:={ fn:=fun _=>True,depth:=none,alive:=false,round:=ro }
theorem Lf {ro wJ:Option Nat} {n:Nat} {P:Program} {f:FuncId} {args:Array Value} {w:World} {R:Ending->World->Prop} (h:CallsIn (W ro) n P f args w R):CallsIn (W wJ) n P f args w R:=h
theorem Tz {ro wJ:Option Nat} {n:Nat} {P:Program} {l:Nat} {f:FuncId} {tmps:Array Value} {x y:Code} {w:World} {R:Ending->World->Prop} (h:RoundIn (W ro) n P l f tmps x y w R):RoundIn (W wJ) n P l f tmps x y w R:=h
structure fb where
 call:FuncId->List AV->af->Option (AV × af)
 yield:Nat->List AV->af->Option (AV × af)
 ext:FuncId->List AV->Option AV
 /-- The types of slices whose elements are frozen when a slice is built. -/
 fz:TypeId->Bool:=fun _=>false
structure wI (F G:Nat->Prop) (i:Nat->Nat) (H:af) (w:World) (y:AV) (H':af) (v:Value) (w':World) (F':Nat->Prop) (i':Nat->Nat):Prop where
 val:ao ⟨F',w'.heap,i',H'.n⟩ y v
 heap:ba F' G i' H' w'.heap
 ext:Ext H.n F G i w F' i' w'
 le:H.n<=H'.n
def Ret (F G:Nat->Prop) (i:Nat->Nat) (H:af) (w:World) (y:AV) (H':af):Ending->World->Prop
 | .returned v,w'=>∃ F' i',wI F G i H w y H' v w' F' i'
 | _,_=>False
structure CallOk (P:Program) (Γ:bz) (g:FuncId) (args:List AV) (H:af) (y:AV) (H':af):Prop where
 grow:H.rev.length=H.n->dD H H'
 fn : ∃ fn, P.funcs[g]? = some fn ∧ fn.body.isSome = true ∧ fn.name ≠ "runtime.NumGoroutine"
 lu:∀ (F G:Nat->Prop) (i:Nat->Nat) (w:World) (ai:Array Value),ba F G i H w.heap->fq Γ F w.heap i H.n->ay ⟨F,w.heap,i,H.n⟩ args ai.toList->
  CallsIn (W none) 0 P g ai w (Ret F G i H w y H')
structure Lc (P:Program) (Γ:bz) (r:Nat) (args:List AV) (H:af) (y:AV) (H':af):Prop where
 grow:H.rev.length=H.n->dD H H'
 lu:∀ (F G:Nat->Prop) (i:Nat->Nat) (w:World) (ai:Array Value),ba F G i H w.heap->fq Γ F w.heap i H.n->ay ⟨F,w.heap,i,H.n⟩ args ai.toList->
  ∃ f tmps assign body,(Instr.yield (i r) ai).run P w=.ok (.round (i r) f tmps assign body) w/\RoundIn (W none) 0 P (i r) f tmps assign body w (Ret F G i H w y H')
def ta (P:Program) (ext:FuncId->List AV->Option AV):Prop:=
 ∀ g args y,ext g args=some y->∀ (E:Env) (w:World) (ai:Array Value),ay E args ai.toList->∃ v,(callFunc g ai).run P w=.ok (.value v) w/\ao E y v
structure eC (P:Program) (Γ:bz) (fs:fb):Prop where
 call:∀ g args H y H',fs.call g args H=some (y,H')->CallOk P Γ g args H y H'
 yield:∀ r args H y H',fs.yield r args H=some (y,H')->Lc P Γ r args H y H'
 ext:ta P fs.ext
def jC (fs:fb) (g:FuncId) (args:List AV) (H:af):Option (AV × af):=
 match fs.ext g args with
 | some y=>some (y,H)
 | none=>fs.call g args H
def my (P:Program) (s d:TypeId):Bool:=
 match P.underlying s,P.underlying d with
 | some .string,some (.slice e)=>match P.underlying e with
  | some (.int .u8)=>true
  | _=>false
 | _,_=>false
def bj (P:Program) (fs:fb) (ρ:Operand->AV) (H:af) (o:Oper):Option (AV × af):=
 match o.op with
 | .call { callee:=.value f,args,argTypes }=>match ρ f with
  | .func g first cap=>jC fs g (first++args.toList.map ρ++cap) H
  | .yield r=>fs.yield r (args.toList.map ρ) H
  | _=>none
 | .defer _=>none
 | .convert s d x=>match ρ x with
  | .string b=>if my P s d then some (.slice H.n 0 b.size 1,H.push (.cells (b.data.toList.map fun c=>.int .u8 c.toNat))) else fi P ρ H o
  | _=>fi P ρ H o
 | .buildSlice t n parts=>if fs.fz t then bC P (ox H (parts.toList.map fun p=>(p.1,ρ p.2))).2 t n (ox H (parts.toList.map fun p=>(p.1,ρ p.2))).1 else fi P ρ H o
 | _=>fi P ρ H o
section
variable {P : Program} {Γ : bz} {fs : fb} {F G : Nat → Prop} {i : Nat → Nat} {H H' : af} {w : World} {a : Act} {ro : Option Nat} {ρ : Operand → AV} {o : Oper} {y : AV}
theorem I3 (cI:eC P Γ fs) (bw:H.rev.length=H.n) (h:bj P fs ρ H o=some (y,H')):dD H H':=by
 unfold bj at h
 split at h
 ·split at h
  ·unfold jC at h
   split at h
   ·simp only [Option.some.injEq,Prod.mk.injEq] at h
    obtain ⟨_,rfl⟩:=h
    exact dD.refl bw
   ·exact (cI.call _ _ _ _ _ h).grow bw
  ·exact (cI.yield _ _ _ _ _ h).grow bw
  ·cases h
 ·cases h
 ·split at h
  ·split at h
   ·simp only [Option.some.injEq,Prod.mk.injEq] at h
    obtain ⟨_,rfl⟩:=h
    exact (gg.push _).grow bw
   ·exact (th h).grow bw
  ·exact (th h).grow bw
 ·split at h
  ·rename_i ps _ _
   have g:=CH bw (ps.toList.map fun p=>(p.1,ρ p.2))
   exact g.trans ((mB h).grow g.ok)
  ·exact (th h).grow bw
 ·exact (th h).grow bw
theorem tt {g : FuncId} {fn : Func} (hf : P.funcs[g]? = some fn) (hb : fn.body.isSome = true) (hn : fn.name ≠ "runtime.NumGoroutine") (args : Array Value) (w : World) :
  (callFunc g args).run P w=.ok (.enter g args) w:=by
 have DJ:fn.body.isNone=false:=by cases hc:fn.body<;>simp_all
 have hn' : (fn.name == "runtime.NumGoroutine") = false := by simpa using hn
 simp only [callFunc,Sem.run_bind,run_program,Result.andThen_ok,hf,hn',DJ]
 rfl
theorem Cd (hH:ba F G i H w.heap) {s d:TypeId} (TA:my P s d=true) (b:ByteArray):
  ∃ v w' i',(convert s d (.string b)).run P w=.ok v w'/\wI F G i H w (.slice H.n 0 b.size 1) (H.push (.cells (b.data.toList.map fun c=>.int .u8 c.toNat))) v w' F i':=by
 unfold my at TA
 split at TA
 ·rename_i e hs hd
  split at TA
  ·rename_i he
   have cc:=run_bytes_of_string (P:=P) w s d e b hs hd he
   let cap:=grownCap w b.size 0 e
   have qY:b.size<=cap:=grownCap_ge w b.size 0 e
   let o:Obj:=.cells (bytesRow b cap) e ((bytesRow b cap).size,(bytesRow b cap).size+1)
   have fI:(bytesRow b cap).size=cap:=by
    have:b.data.size=b.size:=rfl
    simp only [bytesRow,Array.size_append,Array.size_map,Array.size_replicate];omega
   have SD:ba F G i H w.drew.heap:=hH
   have e1:Ext H.n F G i w F i w.drew:=nY (w.drawn+1)
   have e2:=iG (K:=H.n) (F:=F) (G:=G) (i:=i) (w:=w.drew) o SD.cn H.n w.drew.heap.size (Nat.le_refl _)
   have aG:d_ ⟨F,(w.drew.alloc o).heap,Abs.put i H.n w.drew.heap.size,H.n+1⟩ (.cells (b.data.toList.map fun c=>.int .u8 c.toNat)) o:=by
    refine .cells _ _ _ _ ⟨?_,?_,?_⟩
    ·rw [fI];simpa using qY
    ·intro j x v h1 h2
     rw [List.getElem?_map] at h1
     have hj:j<b.data.size:=by
      rcases Nat.lt_or_ge j b.data.size with h | h
      ·exact h
      ·rw [List.getElem?_eq_none (by simpa using h)] at h1;simp at h1
     rw [bytesRow_at b cap j hj] at h2
     simp only [Array.getElem?_toList,Array.getElem?_eq_getElem hj,Option.map_some,Option.some.injEq] at h1 h2
     subst h1;subst h2
     exact .int _ _
    ·intro j hj hz
     omega
   have h2:=SD.alloc o _ aG
   refine ⟨_,_,_,cc,?_,h2,e1.trans e2 (Nat.le_refl _),by simp⟩
   have:=ao.slice (E:=⟨F,(w.drew.alloc o).heap,Abs.put i H.n w.drew.heap.size,H.n+1⟩) H.n 0 b.size 1 cap (Nat.lt_succ_self _) qY
    ⟨bytesRow b cap,e,_,by
     show (w.drew.alloc o).heap[Abs.put i H.n w.drew.heap.size H.n]?=_
     rw [aH];exact World.alloc_heap_new _ _,by rw [fI];omega⟩
   simp only [aH] at this
   exact this
  ·cases TA
 ·cases TA
theorem Px (cI:eC P Γ fs) (hH:ba F G i H w.heap) (hg:fq Γ F w.heap i H.n) (hρ:∀ x,ao ⟨F,w.heap,i,H.n⟩ (ρ x) (a.eval x)) (h:bj P fs ρ H o=some (y,H'))
  {next:Act->World->Prop} {Q:Exit->Act->World->Prop} (hn:∀ v w' F' i',wI F G i H w y H' v w' F' i'->next (a.put o.dst v) w'):o.wpIn (W ro) 0 P a w next Q:=by
 refine ⟨fun _ _=>trivial,?_⟩
 have plain:(∀ c,o.op≠.defer c)->fi P ρ H o=some (y,H')->o.uponIn (W ro) 0 P a next Q ((o.semAt (W ro).round a.eval).run P w):=by
  intro BZ h
  rw [Oper.semAt_eq _ _ _ BZ]
  obtain ⟨v,w',i',cc,hv,SD,he,hle⟩:=Py hH hρ h
  have:=hn v w' F i' ⟨hv,SD,he,hle⟩
  rcases cc with cc | ⟨cc,rfl⟩
  ·rw [cc];exact this
  ·rw [cc];exact this
 unfold bj at h
 split at h
 ·rename_i f args argTypes ho
  rw [Oper.semAt_eq _ _ _ (by rw [ho];intro c hc;cases hc)]
  simp only [execOp,ho,resolve]
  have hf:=hρ f
  split at h
  ·rename_i g first cap hfv
   rw [hfv] at hf
   generalize a.eval f=fv at hf
   cases hf with
   | func _ _ _ cX nU h1 h2 I2 SE=>
    have cW:ay ⟨F,w.heap,i,H.n⟩ (first++args.toList.map ρ++cap) (cX++args.map a.eval++nU).toList:=by
     have e:(cX++args.map a.eval++nU).toList=cX.toList++(args.map a.eval).toList++nU.toList:=by simp
     rw [e]
     refine ay.append (ay.append ⟨by simpa using h1,fun j x v p q=>I2 j x v p (by simpa using q)⟩ (tw hρ args)) ⟨by simpa using h2,fun j x v p q=>SE j x v p (by simpa using q)⟩
    simp only [Deferred.ofValue,Sem.run_bind,Sem.run_pure,Result.andThen_ok,invoke]
    unfold jC at h
    split at h
    ·rename_i y' hy
     simp only [Option.some.injEq,Prod.mk.injEq] at h
     obtain ⟨rfl,rfl⟩:=h
     obtain ⟨v,hr,hv⟩:=cI.ext _ _ _ hy _ w _ cW
     rw [hr]
     exact hn v w F i ⟨hv,hH,Ext.refl _ _ _ _ _,Nat.le_refl _⟩
    ·have hc:=cI.call _ _ _ _ _ h
     obtain ⟨fn,I2,MU,hf3⟩:=hc.fn
     rw [tt I2 MU hf3]
     refine ⟨fun hd=>by simp at hd,Lf (CallsIn.mono (hc.lu F G i w _ hH hg cW) ?_)⟩
     intro e w' he
     cases e with
     | returned v=>obtain ⟨F',i',dG⟩:=he;exact hn v w' F' i' dG
     | panicked c=>exact he.elim
     | outgrown=>exact he.elim
  ·rename_i r hfv
   rw [hfv] at hf
   generalize a.eval f=fv at hf
   cases hf with
   | yield _ hr=>
    have cW:ay ⟨F,w.heap,i,H.n⟩ (args.toList.map ρ) (#[]++args.map a.eval).toList:=by
     have:=tw hρ args
     simpa using this
    obtain ⟨f,tmps,as,bd,h1,h2⟩:=(cI.yield _ _ _ _ _ h).lu F G i w _ hH hg cW
    simp only [Deferred.ofValue,Sem.run_bind,Sem.run_pure,Result.andThen_ok,invoke,h1]
    refine ⟨fun hd=>by simp at hd,Tz (RoundIn.mono h2 ?_)⟩
    intro e w' he
    cases e with
    | returned v=>obtain ⟨F',i',dG⟩:=he;exact hn v w' F' i' dG
    | panicked c=>exact he.elim
    | outgrown=>exact he.elim
  ·cases h
 ·cases h
 ·rename_i s d x ho
  have BZ:∀ c,o.op≠.defer c:=fun c hc=>by rw [ho] at hc;cases hc
  split at h
  ·rename_i b hb
   split at h
   ·rename_i TA
    simp only [Option.some.injEq,Prod.mk.injEq] at h
    obtain ⟨rfl,rfl⟩:=h
    rw [Oper.semAt_eq _ _ _ BZ]
    have hx:=hρ x
    rw [hb] at hx
    generalize hv:a.eval x=vx at hx
    cases hx
    obtain ⟨v,w',i',cc,dG⟩:=Cd (P:=P) hH TA b
    simp only [execOp,ho,hv,Sem.run_bind,cc,Result.andThen_ok,Sem.run_pure]
    exact hn v w' F i' dG
   ·exact plain BZ h
  ·exact plain BZ h
 ·rename_i t n ps ho
  have BZ:∀ c,o.op≠.defer c:=fun c hc=>by rw [ho] at hc;cases hc
  split at h
  ·rw [Oper.semAt_eq _ _ _ BZ]
   obtain ⟨hl,hp⟩:=pP hρ ps
   obtain ⟨F1,k1,k2,k3⟩:=Ld (qs:=(ps.map fun p=>(p.1,a.eval p.2)).toList) hH (by simp) fun j p q x y=>hp j p q x (by simpa using y)
   obtain ⟨v,w',i',cc,hv,SD,he,hle⟩:=nK (mi:=ps.map fun p=>(p.1,a.eval p.2)) k1.rel h (by simpa using k2) fun j p q x y=>k3 j p q x (by simpa using y)
   have gn:Ext H.n F G i w F1 i' w':=⟨fun b hb=>he.grow b (k1.sub b hb),fun b hb=>he.aP b (hb.elim (fun x=>.inl (k1.sub b x)) .inr),he.size,he.cells,fun r hr=>he.same r (by rw [k1.n];exact hr),he.os,he.output,he.tape⟩
   have:=hn v w' F1 i' ⟨hv,SD,gn,by rw [←k1.n];exact hle⟩
   simp only [execOp,ho]
   rcases cc with cc | ⟨cc,rfl⟩
   ·rw [cc];exact this
   ·rw [cc];exact this
  ·exact plain BZ h
 ·rename_i hnc BZ _ _
  exact plain (fun c hc=>BZ c hc) h
def dU (ops:Array Oper) (ρ:Operand->AV) (o:Oper):Option Bool:=
 match o.guard with
 | none=>some true
 | some (j,want)=>match ops[j]? with
  | none=>some false
  | some oj=>match oj.dst with
   | none=>some false
   | some d=>match ρ (.tmp d) with
    | .bool b=>some (b==want)
    | .tuple _=>some false
    | _=>none
theorem zz {E:Env} {ops:Array Oper} (hρ:∀ x,ao E (ρ x) (a.eval x)) {b:Bool} (h:dU ops ρ o=some b):Region.wanted o (yielded ops a.tmps)=b:=by
 unfold dU at h
 unfold Region.wanted
 split at h
 ·rename_i hg;simp at h;simp [hg,h]
 ·rename_i j want hg
  simp only [hg]
  unfold yielded
  split at h
  ·rename_i hj;simp at h;simp [hj,h]
  ·rename_i oj hj
   split at h
   ·rename_i hd;simp at h;simp [hj,hd,h]
   ·rename_i d hd
    simp only [hj,hd,Option.bind_some]
    have hv:=hρ (.tmp d)
    simp only [Act.eval] at hv
    cases ht:a.tmps[d]? with
    | none=>
     have hu:a.tmps.getD d undef=undef:=by
      rw [Array.getD_eq_getD_getElem?,ht];rfl
     rw [hu] at hv
     split at h
     ·rename_i b' hb;rw [hb] at hv;cases hv
     ·simpa using h
     ·cases h
    | some x=>
     have hu:a.tmps.getD d undef=x:=by
      rw [Array.getD_eq_getD_getElem?,ht];rfl
     rw [hu] at hv
     split at h
     ·rename_i b' hb
      rw [hb] at hv
      cases hv
      simp at h;simpa using h
     ·rename_i l hb
      rw [hb] at hv
      cases hv
      simpa using h
     ·cases h
def aZ (P:Program) (fs:fb) (ops:Array Oper) (ρ:Operand->AV) (H:af) (o:Oper):Option (AV × af):=
 match dU ops ρ o with
 | some true=>bj P fs ρ H o
 | some false=>some (cM undef,H)
 | none=>none
theorem nc (cI:eC P Γ fs) (bw:H.rev.length=H.n) {ops:Array Oper} (h:aZ P fs ops ρ H o=some (y,H')):dD H H':=by
 unfold aZ at h
 split at h
 ·exact I3 cI bw h
 ·simp only [Option.some.injEq,Prod.mk.injEq] at h;obtain ⟨_,rfl⟩:=h;exact dD.refl bw
 ·cases h
theorem i_ (cI:eC P Γ fs) (hH:ba F G i H w.heap) (hg:fq Γ F w.heap i H.n) (hρ:∀ x,ao ⟨F,w.heap,i,H.n⟩ (ρ x) (a.eval x)) {ops:Array Oper}
  (h:aZ P fs ops ρ H o=some (y,H')) {next:Act->World->Prop} {Q:Exit->Act->World->Prop} (hn:∀ v w' F' i',wI F G i H w y H' v w' F' i'->next (a.put o.dst v) w'):
  if Region.wanted o (yielded ops a.tmps) then o.wpIn (W ro) 0 P a w next Q else (∀ f,o.about P w a.eval=some f->(W ro).fn f)/\next (a.put o.dst undef) w:=by
 unfold aZ at h
 split at h
 ·rename_i hw
  rw [zz hρ hw,if_pos rfl]
  exact Px cI hH hg hρ h hn
 ·rename_i hw
  rw [zz hρ hw]
  simp only [Option.some.injEq,Prod.mk.injEq] at h;obtain ⟨rfl,rfl⟩:=h
  exact ⟨fun _ _=>trivial,hn undef w F i ⟨sW _ _,hH,Ext.refl _ _ _ _ _,Nat.le_refl _⟩⟩
 ·cases h
def dt (tmps:List AV) (dst:Option Tmp) (y:AV):List AV:=
 match dst with
 | some d=>tmps.set d y
 | none=>tmps
def fc (P:Program) (Γ:bz) (fs:fb) (ops:Array Oper):List Oper->St->Option St
 | [],σ=>some σ
 | o::os,σ=>match aZ P fs ops (ev Γ σ.tmps) σ.H o with
  | some (y,H')=>fc P Γ fs ops os { σ with tmps:=dt σ.tmps o.dst y,H:=H' }
  | none=>none
theorem Pz {E:Env} {tmps:List AV} (ht:ay E tmps a.tmps.toList) (dst:Option Tmp) {v:Value} (hv:ao E y v):ay E (dt tmps dst y) (a.put dst v).tmps.toList:=by
 cases dst with
 | none=>exact ht
 | some d=>
  have:=ht.set d hv
  simpa [dt,Act.put] using this
theorem put_defers {dst:Option Tmp} {v:Value}:(a.put dst v).defers=a.defers:=by cases dst<;>rfl
theorem iz.step {σ:St} {v:Value} {w':World} {F':Nat->Prop} {i':Nat->Nat} (hs:iz Γ F G i σ a w) (h:wI F G i σ.H w y H' v w' F' i') (dst:Option Tmp):
  iz Γ F' G i' { σ with tmps:=dt σ.tmps dst y,H:=H' } (a.put dst v) w':=by
 have le:Env.le ⟨F,w.heap,i,σ.H.n⟩ ⟨F',w'.heap,i',H'.n⟩:=h.ext.le (Nat.le_refl _) h.le
 refine ⟨Pz (hs.tmps.mono le) dst h.val,?_,?_,h.heap,hs.dx.mono le⟩
 ·rw [put_defers,hs.defers]
  refine List.map_congr_left fun r hr=>?_
  unfold mark
  rw [h.ext.same r (hs.mZ r hr)]
 ·intro r hr;exact Nat.lt_of_lt_of_le (hs.mZ r hr) h.le
theorem Tq (cI:eC P Γ fs) {ops:Array Oper} {Q:Exit->Act->World->Prop}:∀ (os:List Oper) (σ σ':St) (F:Nat->Prop) (i:Nat->Nat) (a:Act) (w:World),iz Γ F G i σ a w->fc P Γ fs ops os σ=some σ'->
  (∀ F' i' a' w',iz Γ F' G i' σ' a' w'->Ext σ.H.n F G i w F' i' w'->σ.H.n<=σ'.H.n->Q .normal a' w')->wpListIn (W ro) 0 P ops Q os a w:=by
 intro os
 induction os with
 | nil=>
  intro σ σ' F i a w hs h hq
  simp only [fc,Option.some.injEq] at h;subst h
  exact hq F i a w hs (Ext.refl _ _ _ _ _) (Nat.le_refl _)
 | cons o os ih=>
  intro σ σ' F i a w hs h hq
  simp only [fc] at h
  split at h
  ·rename_i y H' cA
   exact i_ cI hs.heap hs.dx (yN hs.tmps hs.dx) cA fun v w' F' i' dG=>
    ih _ _ F' i' _ w' (hs.step dG o.dst) h fun FP K0 OY K2 et he hle=>hq FP K0 OY K2 et (dG.ext.trans he dG.le) (Nat.le_trans dG.le hle)
  ·cases h
theorem uQ (cI:eC P Γ fs) {ops:Array Oper}:∀ (os:List Oper) (σ σ':St),σ.H.rev.length=σ.H.n->fc P Γ fs ops os σ=some σ'->dD σ.H σ'.H/\σ'.defers=σ.defers:=by
 intro os
 induction os with
 | nil=>
  intro σ σ' bw h
  simp only [fc,Option.some.injEq] at h;subst h
  exact ⟨dD.refl bw,rfl⟩
 | cons o os ih=>
  intro σ σ' bw h
  simp only [fc] at h
  split at h
  ·rename_i y H' cA
   have g1:=nc cI bw cA
   obtain ⟨g2,hd⟩:=ih _ _ g1.ok h
   exact ⟨g1.trans g2,hd⟩
  ·cases h
end
end Go.Abs
end
