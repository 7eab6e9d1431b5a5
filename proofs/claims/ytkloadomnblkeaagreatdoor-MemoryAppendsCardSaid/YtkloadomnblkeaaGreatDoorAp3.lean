/- Part 3 of the library of the proof: an abstract run of the program. -/
import Derived.Test.YtkloadomnblkeaaGreatDoorAp2
import Derived.Deep.Slices
import Derived.OpenShut
set_option linter.unusedVariables false
set_option linter.unusedSimpArgs false

noncomputable section
namespace Go.Abs
open Go.Deep Go.RowKit
inductive Sh where
 | bool
 | int (k:IntKind)
 | flo (k:FloatKind)
 | str
 | sl (es:List Sh)
def shSegs (P:Program) (sh:TypeId->Option (List Sh)):Nat->List (Nat × TypeId)->Option (List Sh)
 | _,[]=>some []
 | off,(o,t)::fs=>match sh t with
  | some es=>if o=off/\P.cellsOf t=es.length then match shSegs P sh (off+es.length) fs with
    | some r=>some (es++r)
    | none=>none
   else none
  | none=>none
def shOf (P:Program):Nat->TypeId->Option (List Sh)
 | 0,_=>none
 | d+1,t=>match P.underlying t with
  | some .bool=>some [.bool]
  | some (.int k)=>some [.int k]
  | some (.float k)=>some [.flo k]
  | some .string=>some [.str]
  | some (.slice e)=>match shOf P d e with
   | some es=>if P.cellsOf e=es.length then some [.sl es] else none
   | none=>none
  | some (.struct fs)=>match shSegs P (shOf P d) 0 (fs.toList.map fun f=>(f.offset,f.type)) with
   | some ss=>if P.cellsOf t=ss.length then some ss else none
   | none=>none
  | some (.array n e)=>match shSegs P (shOf P d) 0 ((List.range n).map fun i=>(i*P.cellsOf e,e)) with
   | some ss=>if P.cellsOf t=ss.length then some ss else none
   | none=>none
  | _=>none
inductive ShR:Sh->AV->Prop
 | bool (b:Bool):ShR .bool (.bool b)
 | int (k:IntKind) (z:Int) (h:(Lit.int k z).wf=true):ShR (.int k) (.int k z)
 | flo (k:FloatKind) (o:Option Nat) (h:∀ n,o=some n->(Lit.float k n).wf=true/\(k.format.read n).isNaN=false):ShR (.flo k) (.flo k o)
 | str (s:ByteArray) (h:s.size<=maxLen):ShR .str (.string s)
 | sl (es:List Sh) (n:Nat) (els:List (List AV)) (hn:n<=maxLen) (hl:els.length=n) (he:∀ e∈els,e.length=es.length)
   (hv:∀ e∈els,∀ (j:Nat) (s:Sh) (x:AV),es[j]?=some s->e[j]?=some x->ShR s x):ShR (.sl es) (.list n els.flatten)
def ShRs (ss:List Sh) (xs:List AV):Prop:=xs.length=ss.length/\∀ (j:Nat) (s:Sh) (x:AV),ss[j]?=some s->xs[j]?=some x->ShR s x
theorem ShRs.nil:ShRs [] []:=⟨rfl,fun j s x h=>by simp at h⟩
theorem ShRs.one {s:Sh} {x:AV} (h:ShR s x):ShRs [s] [x]:=by
 refine ⟨rfl,fun j s' x' h1 h2=>?_⟩
 cases j with
 | zero=>simp at h1 h2;subst h1;subst h2;exact h
 | succ j=>simp at h1
theorem ShRs.append {ss ss':List Sh} {xs xs':List AV} (h:ShRs ss xs) (k:ShRs ss' xs'):ShRs (ss++ss') (xs++xs'):=by
 refine ⟨by simp [h.1,k.1],fun j s x h1 h2=>?_⟩
 by_cases hj:j<ss.length
 ·rw [List.getElem?_append_left hj] at h1
  rw [List.getElem?_append_left (by rw [h.1];exact hj)] at h2
  exact h.2 j s x h1 h2
 ·rw [List.getElem?_append_right (by omega)] at h1
  rw [List.getElem?_append_right (by rw [h.1];omega),h.1] at h2
  exact k.2 _ s x h1 h2
theorem VRels.app {E:Env} {xs xs':List AV} {vs vs':List Value} (h:VRels E xs vs) (k:VRels E xs' vs'):VRels E (xs++xs') (vs++vs'):=by
 refine ⟨by simp [h.1,k.1],fun j s x h1 h2=>?_⟩
 by_cases hj:j<xs.length
 ·rw [List.getElem?_append_left hj] at h1
  rw [List.getElem?_append_left (by rw [←h.1];exact hj)] at h2
  exact h.2 j s x h1 h2
 ·rw [List.getElem?_append_right (by omega)] at h1
  rw [List.getElem?_append_right (by rw [←h.1];omega),←h.1] at h2
  exact k.2 _ s x h1 h2
theorem VRels.of_one {E:Env} {x:AV} {v:Value} (h:VRel E x v):VRels E [x] [v]:=by
 refine ⟨rfl,fun j s' x' h1 h2=>?_⟩
 cases j with
 | zero=>simp at h1 h2;subst h1;subst h2;exact h
 | succ j=>simp at h1
theorem flat_get {α:Type} {C:Nat}:∀ {ls:List (List α)},(∀ l∈ls,l.length=C)->∀ {i r:Nat},r<C->ls.flatten[i*C+r]?=(ls[i]?).bind (·[r]?)
 | [],_,i,r,hr=>by simp
 | l::ls,h,0,r,hr=>by
  have hl:=h l List.mem_cons_self
  rw [List.flatten_cons,Nat.zero_mul,Nat.zero_add,List.getElem?_append_left (by omega)]
  simp
 | l::ls,h,i+1,r,hr=>by
  have hl:=h l List.mem_cons_self
  have e:(i+1)*C+r=C+(i*C+r):=by rw [Nat.add_mul];omega
  rw [List.flatten_cons,e,List.getElem?_append_right (by omega),hl,Nat.add_sub_cancel_left,flat_get (fun l hl=>h l (List.mem_cons_of_mem _ hl)) hr]
  simp
theorem flat_len {α:Type} {C:Nat}:∀ {ls:List (List α)},(∀ l∈ls,l.length=C)->ls.flatten.length=ls.length*C
 | [],_=>by simp
 | l::ls,h=>by
  rw [List.flatten_cons,List.length_append,h l List.mem_cons_self,flat_len (fun l hl=>h l (List.mem_cons_of_mem _ hl)),List.length_cons,Nat.add_mul];omega
theorem cell_at {w:World} {a:Addr} {v:Value} (h:w.cell? a=some v):∃ c e z,w.heap[a.block]?=some (.cells c e z)/\c[a.off]?=some v:=by
 unfold World.cell? at h
 split at h
 ·rename_i c e z hc
  split at h
  ·cases h
  ·exact ⟨c,e,z,hc,h⟩
 ·cases h
section
variable {H : Type} {enc : TypeId × Value → H} {P : Program} {w : World} {base : Nat} {spare : Nat → Bool} {held : Bool}
def OpenAt (enc:TypeId × Value->H) (P:Program) (w:World) (base:Nat) (spare:Nat->Bool) (held:Bool) (d:Nat):Prop:=
 ∀ (fuel:Nat) (t:TypeId) (ss:List Sh) (cs:List Value) (x:DataW H × List MemPlace),shOf P d t=some ss->DataW.trod enc P w base spare held fuel t cs=some x->
  ∃ xs:List AV,ShRs ss xs/\VRels ⟨Old w,w.heap,id,0⟩ xs cs
theorem open_segs {d:Nat} (ih:OpenAt enc P w base spare held d) {cs:List Value}:∀ {fs:List (Nat × TypeId)} {off:Nat} {ss:List Sh},shSegs P (shOf P d) off fs=some ss->
  (∀ f∈fs,∃ fuel y,DataW.trod enc P w base spare held fuel f.2 ((cs.drop f.1).take (P.cellsOf f.2))=some y)->
  ∃ xs:List AV,ShRs ss xs/\VRels ⟨Old w,w.heap,id,0⟩ xs ((cs.drop off).take ss.length)
 | [],off,ss,h,_=>by
  simp only [shSegs,Option.some.injEq] at h
  subst h
  exact ⟨[],ShRs.nil,by simpa using VRels.nil⟩
 | (o,t)::fs,off,ss,h,hf=>by
  simp only [shSegs] at h
  split at h
  ·rename_i es hes
   split at h
   ·rename_i hc
    obtain ⟨rfl,hc⟩:=hc
    split at h
    ·rename_i r hr
     simp only [Option.some.injEq] at h
     subst h
     obtain ⟨fuel,y,hy⟩:=hf _ List.mem_cons_self
     obtain ⟨xs,h1,h2⟩:=ih fuel t es _ y hes hy
     obtain ⟨xs',h3,h4⟩:=open_segs ih hr fun f hf'=>hf f (List.mem_cons_of_mem _ hf')
     refine ⟨xs++xs',h1.append h3,?_⟩
     rw [List.length_append,List.take_add,List.drop_drop]
     simp only [hc] at h2
     exact h2.app h4
    ·cases h
   ·cases h
  ·cases h
theorem open_cells:∀ d,OpenAt enc P w base spare held d
 | 0=>fun fuel t ss cs x h=>by simp [shOf] at h
 | d+1=>fun fuel t ss cs x h hx=>by
  have ih:OpenAt enc P w base spare held d:=open_cells d
  simp only [shOf] at h
  split at h
  ·rename_i ht
   simp only [Option.some.injEq] at h;subst h
   obtain ⟨b,rfl,_⟩:=DataW.trod_bool ht hx
   exact ⟨[.bool b],.one (.bool b),.of_one (.bool b)⟩
  ·rename_i k ht
   simp only [Option.some.injEq] at h;subst h
   obtain ⟨z,rfl,_,hw⟩:=DataW.trod_int ht hx
   exact ⟨[.int k z],.one (.int k z hw),.of_one (.int k z)⟩
  ·rename_i k ht
   simp only [Option.some.injEq] at h;subst h
   obtain ⟨b,rfl,hw⟩:∃ b,cs=[.float k b]/\(Lit.float k b).wf=true:=by
    cases fuel with
    | zero=>simp [DataW.trod] at hx
    | succ n=>
     unfold DataW.trod at hx
     rw [ht] at hx
     split at hx<;>simp_all
   by_cases hn:(k.format.read b).isNaN=true
   ·exact ⟨[.flo k none],.one (.flo k none fun n h=>by cases h),.of_one (.nan k b hn)⟩
   ·exact ⟨[.flo k (some b)],.one (.flo k (some b) fun n h=>by cases h;exact ⟨hw,by simpa using hn⟩),.of_one (.float k b)⟩
  ·rename_i ht
   simp only [Option.some.injEq] at h;subst h
   obtain ⟨s,rfl,_,hw⟩:=DataW.trod_string ht hx
   exact ⟨[.string s],.one (.str s hw),.of_one (.string s)⟩
  ·rename_i e ht
   split at h
   ·rename_i es hes
    split at h
    ·rename_i hc
     simp only [Option.some.injEq] at h;subst h
     rcases open_slice ht hx with ⟨rfl,_⟩ | ⟨a,len,cap,m,n,D,Pl,rfl,hb,hl,hm,hmm,_,hi⟩
     ·refine ⟨[.list 0 []],.one ?_,.of_one (.listNil 0 0 none (Nat.le_refl _))⟩
      exact .sl es 0 [] (Nat.zero_le _) rfl (fun e h=>by simp at h) (fun e h=>by simp at h)
     ·have hle:len<=m:=by rw [hmm];split<;>omega
      rw [hc] at hi
      obtain ⟨V,hV⟩:=choose_lt (α:=List Value) (p:=fun i v=>w.cells? base (a.add (i*es.length)) es.length=some v/\DataW.trod enc P w base spare held n e v=some (D i,Pl i)) (n:=len) (fun i h=>hi i (by omega))
      obtain ⟨X,hX⟩:=choose_lt (α:=List AV) (p:=fun i xs=>ShRs es xs/\VRels ⟨Old w,w.heap,id,0⟩ xs (V i)) (n:=len) (fun i h=>ih n e es _ _ hes (hV i h).2)
      have hXl:∀ l∈(List.range len).map X,l.length=es.length:=by
       intro l hl'
       obtain ⟨i,hi',rfl⟩:=List.mem_map.1 hl'
       exact (hX i (List.mem_range.1 hi')).1.1
      have hVl:∀ l∈(List.range len).map V,l.length=es.length:=by
       intro l hl'
       obtain ⟨i,hi',rfl⟩:=List.mem_map.1 hl'
       rw [←(hX i (List.mem_range.1 hi')).2.1];exact (hX i (List.mem_range.1 hi')).1.1
      have hsl:ShR (.sl es) (.list len ((List.range len).map X).flatten):=by
       refine .sl es len _ (Nat.le_trans hl hm) (by simp) hXl fun l hl' j s x=>?_
       obtain ⟨i,hi',rfl⟩:=List.mem_map.1 hl'
       exact (hX i (List.mem_range.1 hi')).1.2 j s x
      refine ⟨[.list len ((List.range len).map X).flatten],.one hsl,.of_one ?_⟩
      by_cases h0:len*es.length=0
      ·have:((List.range len).map X).flatten=[]:=List.eq_nil_of_length_eq_zero (by rw [flat_len hXl];simpa using h0)
       rw [this]
       exact .listNil len cap (some a) hl
      ·have hlen0:0<len:=Nat.pos_of_ne_zero fun h=>h0 (by rw [h,Nat.zero_mul])
       have hes0:0<es.length:=Nat.pos_of_ne_zero fun h=>h0 (by rw [h,Nat.mul_zero])
       have hcell:∀ i r,i<len->r<es.length->w.cell? (a.add (i*es.length+r))=(V i)[r]?:=by
        intro i r hi' hr
        obtain ⟨_,_,hcl⟩:=World.cells?_some (hV i hi').1
        have:=hcl r hr
        rw [add_add] at this
        exact this
       have hVlen:∀ i,i<len->(V i).length=es.length:=fun i h=>hVl _ (List.mem_map.2 ⟨i,List.mem_range.2 h,rfl⟩)
       obtain ⟨b,off,spot⟩:=a
       have hfirst:=hcell 0 0 hlen0 hes0
       rw [List.getElem?_eq_getElem (by rw [hVlen 0 hlen0];exact hes0)] at hfirst
       have hspot:spot=none:=by simpa [Addr.add] using World.cell?_spot hfirst
       subst hspot
       obtain ⟨c,el,z,hblk,_⟩:=cell_at hfirst
       have hblk':w.heap[b]?=some (.cells c el z):=by simpa [Addr.add] using hblk
       have hat:∀ j v,((List.range len).map V).flatten[j]?=some v->c[off+j]?=some v:=by
        intro j v hj
        have hjl:=(List.getElem?_eq_some_iff.1 hj).1
        rw [flat_len hVl,List.length_map,List.length_range] at hjl
        have e1:j=(j / es.length)*es.length+j%es.length:=by rw [Nat.mul_comm];exact (Nat.div_add_mod j es.length).symm
        have hi':j / es.length<len:=Nat.div_lt_of_lt_mul (by rw [Nat.mul_comm];exact hjl)
        have hr:=Nat.mod_lt j hes0
        rw [e1,flat_get hVl hr] at hj
        simp only [List.getElem?_map,List.getElem?_range hi',Option.map_some,Option.bind_some] at hj
        have h1:=hcell _ _ hi' hr
        rw [hj,←e1] at h1
        obtain ⟨c',el',z',hb',hc'⟩:=cell_at h1
        have ea:(Addr.add ⟨b,off,none⟩ j).block=b/\(Addr.add ⟨b,off,none⟩ j).off=off+j:=by
         by_cases h:j=0<;>simp [Addr.add,h]
        rw [ea.1,hblk'] at hb'
        cases hb'
        rw [ea.2] at hc'
        exact hc'
       have hflat:((List.range len).map X).flatten.length=((List.range len).map V).flatten.length:=by rw [flat_len hXl,flat_len hVl];simp
       refine .list len cap _ b off ((List.range len).map V).flatten hl ?_ ⟨c,el,z,hblk',?_,hat⟩ hflat fun j x v h1 h2=>?_
       ·exact (Array.getElem?_eq_some_iff.1 hblk').1
       ·have hlast:∃ v,((List.range len).map V).flatten[((List.range len).map V).flatten.length-1]?=some v:=by
         refine ⟨_,List.getElem?_eq_getElem ?_⟩
         rw [flat_len hVl,List.length_map,List.length_range];omega
        obtain ⟨v,hv⟩:=hlast
        have:=(Array.getElem?_eq_some_iff.1 (hat _ _ hv)).1
        have hpos:0<((List.range len).map V).flatten.length:=by rw [flat_len hVl,List.length_map,List.length_range];omega
        omega
       ·have hjl:=(List.getElem?_eq_some_iff.1 h1).1
        rw [flat_len hXl,List.length_map,List.length_range] at hjl
        have e1:j=(j / es.length)*es.length+j%es.length:=by rw [Nat.mul_comm];exact (Nat.div_add_mod j es.length).symm
        have hi':j / es.length<len:=Nat.div_lt_of_lt_mul (by rw [Nat.mul_comm];exact hjl)
        have hr:=Nat.mod_lt j hes0
        rw [e1,flat_get hXl hr] at h1
        rw [e1,flat_get hVl hr] at h2
        simp only [List.getElem?_map,List.getElem?_range hi',Option.map_some,Option.bind_some] at h1 h2
        exact (hX _ hi').2.2 _ x v h1 h2
    ·cases h
   ·cases h
  ·rename_i fs ht
   split at h
   ·rename_i ss' hss
    split at h
    ·rename_i hc
     simp only [Option.some.injEq] at h;subst h
     obtain ⟨ys,n,_,_,hl,hyl,hf⟩:=DataW.trod_struct ht hx
     obtain ⟨xs,h1,h2⟩:=open_segs ih hss (cs:=cs) fun f hf'=>by
      obtain ⟨g,hg,rfl⟩:=List.mem_map.1 hf'
      obtain ⟨i,hi⟩:=List.getElem?_of_mem hg
      have hi2:fs[i]?=some g:=by simpa using hi
      have hlt:i<fs.size:=(Array.getElem?_eq_some_iff.1 hi2).1
      exact ⟨n,ys[i]'(by omega),by rw [hf i g hi2];exact List.getElem?_eq_getElem _⟩
     refine ⟨xs,h1,?_⟩
     rw [List.drop_zero,←hc,←hl,List.take_length] at h2
     exact h2
    ·cases h
   ·cases h
  ·rename_i n e ht
   split at h
   ·rename_i ss' hss
    split at h
    ·rename_i hc
     simp only [Option.some.injEq] at h;subst h
     obtain ⟨ys,m,_,_,hl,hyl,hf⟩:=DataW.trod_array ht hx
     obtain ⟨xs,h1,h2⟩:=open_segs ih hss (cs:=cs) fun f hf'=>by
      obtain ⟨i,hg,rfl⟩:=List.mem_map.1 hf'
      have hi:=List.mem_range.1 hg
      exact ⟨m,ys[i]'(by omega),by rw [hf i hi];exact List.getElem?_eq_getElem _⟩
     refine ⟨xs,h1,?_⟩
     rw [List.drop_zero,←hc,←hl,List.take_length] at h2
     exact h2
    ·cases h
   ·cases h
  ·cases h
theorem open_arg {d:Nat} {t:TypeId} {s:Sh} {v:Value} {y:DataW H} {ps:List MemPlace} (hs:shOf P d t=some [s]) (h:DataW.Trod enc P w base spare held t v y ps) (hv:v.cells.toList=[v]):
  ∃ x:AV,ShR s x/\VRel ⟨Old w,w.heap,id,0⟩ x v:=by
 obtain ⟨fuel,hf⟩:=h
 rw [hv] at hf
 obtain ⟨xs,h1,h2⟩:=open_cells d fuel t [s] _ _ hs hf
 match xs,h1.1 with
 | [x],_=>exact ⟨x,h1.2 0 s x rfl rfl,h2.2 0 x v rfl rfl⟩
end
end Go.Abs
end
