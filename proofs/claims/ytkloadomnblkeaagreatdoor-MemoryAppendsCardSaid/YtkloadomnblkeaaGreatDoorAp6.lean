/- Part 6 of the library of the proof: an abstract run of the program. -/
import Derived.Test.YtkloadomnblkeaaGreatDoorAp5
set_option linter.unusedVariables false
set_option linter.unusedSimpArgs false

noncomputable section
namespace Go.Abs
open Classical
inductive PlainC:AV->Prop
 | bool (b:Bool):PlainC (.bool b)
 | int (k:IntKind) (n:Int):PlainC (.int k n)
 | flo (k:FloatKind) (o:Option Nat):PlainC (.flo k o)
 | string (s:ByteArray):PlainC (.string s)
theorem PlainC.cell {x:AV} (h:PlainC x):Cell x:=by
 cases h
 ·exact .bool _
 ·exact .int _ _
 ·exact .flo _ _
 ·exact .string _
theorem PlainC.rel {E E':Env} {x:AV} {v:Value} (h:PlainC x) (hv:VRel E x v):VRel E' x v:=by
 cases h<;>cases hv
 ·exact .bool _
 ·exact .int _ _
 ·exact .float _ _
 ·exact .nan _ _ (by assumption)
 ·exact .string _
theorem nl_list {E:Env} {n:Nat} {cs:List AV} {v:Value} (h:VRel E (.nl n cs) v):VRel E (.list n cs) v:=by
 cases h with
 | nlNil=>exact .listNil 0 0 none (Nat.le_refl _)
 | nl _ cap _ b o vs h0 hc hF hm hl hv=>exact .list n cap cs b o vs hc hF hm hl hv
inductive Thaw (H0:Heap):AV->AV->Prop
 | same {x:AV} (h:Pure x):Thaw H0 x x
 | slice {r n esz:Nat} {cs:List AV} (hg:H0.get r=some (.cells cs)) (hc:∀ c∈cs,Cell c) (hl:cs.length=n*esz):Thaw H0 (.slice r 0 n esz) (.list n cs)
 | nil:Thaw H0 .nilslice (.list 0 [])
 | nl {n:Nat} {cs:List AV} (hc:∀ c∈cs,Cell c):Thaw H0 (.nl n cs) (.list n cs)
 | sub {r o n esz:Nat} {cs:List AV} (hg:H0.get r=some (.cells cs)) (hc:∀ c∈cs,Cell c) (hl:o+n*esz<=cs.length):Thaw H0 (.slice r o n esz) (.list n ((cs.drop o).take (n*esz)))
inductive LeafR (H0:Heap) (O:Nat->Prop):AV->RLeaf->Prop
 | v {x u:AV} (h:Thaw H0 x u) (hO:∀ r o n e,x=.slice r o n e->¬ O r):LeafR H0 O x (.v u)
 | agg {xs us:List AV} (h:All2 (Thaw H0) xs us) (hO:∀ x∈xs,∀ r o n e,x=.slice r o n e->¬ O r):LeafR H0 O (.agg xs) (.v (.agg us))
 | fz {r n esz:Nat} {cs:List AV} (hg:H0.get r=some (.cells cs)) (hc:∀ c∈cs,PlainC c) (hl:cs.length=n*esz) (hO:¬ O r):LeafR H0 O (.slice r 0 n esz) (.fz n cs)
 | fznil:LeafR H0 O .nilslice (.fz 0 [])
 | fzsub {r o n esz:Nat} {cs:List AV} (hg:H0.get r=some (.cells cs)) (hc:∀ c∈(cs.drop o).take (n*esz),PlainC c) (hl:o+n*esz<=cs.length) (hO:¬ O r):LeafR H0 O (.slice r o n esz) (.fz n ((cs.drop o).take (n*esz)))
 | fznone:LeafR H0 O (.list 0 []) (.fz 0 [])
 | own {r n esz:Nat} {cs:List AV} (hg:H0.get r=some (.cells cs)) (hc:∀ c∈cs,PlainC c) (hl:cs.length=n*esz) (hn:n≠0) (hO:O r):LeafR H0 O (.slice r 0 n esz) (.own esz n cs)
 | ownnil {esz:Nat}:LeafR H0 O .nilslice (.own esz 0 [])
def ownsD:List AV->List RLeaf->List Nat
 | .slice r _ _ _::xs,.own _ _ _::ls=>r::ownsD xs ls
 | _::xs,_::ls=>ownsD xs ls
 | _,_=>[]
section
variable {P : Program} {F G F' F2 : Nat → Prop} {i i' ic : Nat → Nat} {H H0 Hc : Heap} {w w' : World}
theorem plainB_rel {E E':Env} {x:AV} {v:Value} (h:plainB x=true) (hv:VRel E x v):VRel E' x v:=by
 cases x with
 | bool b=>cases hv;exact .bool _
 | int k n=>cases hv;exact .int _ _
 | flo k o=>
  cases hv
  ·exact .float _ _
  ·exact .nan _ _ (by assumption)
 | string s=>cases hv;exact .string _
 | nilptr=>cases hv;exact .nilptr
 | nilFunc=>cases hv;exact .nilFunc
 | nilIface=>cases hv;exact .nilIface
 | agg cs=>
  cases hv with
  | agg _ vs hl hv=>
   refine .agg _ vs hl fun j x u h1 h2=>?_
   have hx:=hv j x u h1 h2
   simp only [plainB,List.all_eq_true] at h
   have hp:=h x (List.mem_of_getElem? h1)
   cases x<;>simp only [Bool.false_eq_true] at hp<;>cases hx<;>constructor
   all_goals assumption
 | _=>cases h
theorem list_of_row {r n esz:Nat} {cs:List AV} {v:Value} {E':Env} (hH0:HRel F' G i' H0 w'.heap) (hg:H0.get r=some (.cells cs)) (hl:cs.length=n*esz) (hv:VRel ⟨F',w'.heap,i',H0.n⟩ (.slice r 0 n esz) v)
  (hF:E'.F (i' r)) (hh:E'.h=w'.heap) (hc:∀ (x:AV) (u:Value),x∈cs->VRel ⟨F',w'.heap,i',H0.n⟩ x u->VRel E' x u):VRel E' (.list n cs) v:=by
 obtain ⟨o,ho,hr⟩:=hH0.row r _ hg
 cases hr with
 | cells _ c e z hok=>
  cases hv with
  | slice _ _ _ _ cap hr' hcap hb=>
   have hlen:(c.toList.take cs.length).length=cs.length:=by
    have:=hok.len
    simp only [List.length_take,Array.length_toList];omega
   refine .list n cap cs (i' r) 0 (c.toList.take cs.length) hcap hF ⟨c,e,z,by rw [hh];exact ho,by rw [hlen];have:=hok.len;omega,fun j u hj=>?_⟩ hlen.symm fun j x u h1 h2=>?_
   ·rw [List.getElem?_take] at hj
    split at hj
    ·rw [Nat.zero_add];simpa using hj
    ·cases hj
   ·have hj:j<cs.length:=(List.getElem?_eq_some_iff.1 h1).1
    rw [List.getElem?_take,if_pos hj] at h2
    exact hc x u (List.mem_of_getElem? h1) (hok.val j x u h1 (by simpa using h2))
theorem list_of_part {r o n esz:Nat} {cs:List AV} {v:Value} {E':Env} (hH0:HRel F' G i' H0 w'.heap) (hg:H0.get r=some (.cells cs)) (hl:o+n*esz<=cs.length) (hv:VRel ⟨F',w'.heap,i',H0.n⟩ (.slice r o n esz) v)
  (hF:E'.F (i' r)) (hh:E'.h=w'.heap) (hc:∀ (x:AV) (u:Value),x∈(cs.drop o).take (n*esz)->VRel ⟨F',w'.heap,i',H0.n⟩ x u->VRel E' x u):VRel E' (.list n ((cs.drop o).take (n*esz))) v:=by
 obtain ⟨q,ho,hr⟩:=hH0.row r _ hg
 cases hr with
 | cells _ c e z hok=>
  cases hv with
  | slice _ _ _ _ cap hr' hcap hb=>
   have hsz:=hok.len
   have hlen:((c.toList.drop o).take (n*esz)).length=((cs.drop o).take (n*esz)).length:=by
    simp only [List.length_take,List.length_drop,Array.length_toList];omega
   refine .list n cap _ (i' r) o ((c.toList.drop o).take (n*esz)) hcap hF ⟨c,e,z,by rw [hh];exact ho,by simp only [List.length_take,List.length_drop,Array.length_toList];omega,fun j u hj=>?_⟩ hlen.symm fun j x u h1 h2=>?_
   ·rw [List.getElem?_take] at hj
    split at hj
    ·rw [List.getElem?_drop] at hj;simpa using hj
    ·cases hj
   ·have h1':=h1
    rw [List.getElem?_take] at h1 h2
    split at h1
    ·rename_i hj
     rw [if_pos hj,List.getElem?_drop] at h2
     rw [List.getElem?_drop] at h1
     exact hc x u (List.mem_of_getElem? h1') (hok.val _ x u h1 (by simpa using h2))
    ·cases h1
structure Hand (F' F2 G:Nat->Prop) (i':Nat->Nat) (H0:Heap) (w':World) (O:Nat->Prop) (bor:Bool):Prop where
 h0:HRel F' (fun _=>False) i' H0 w'.heap
 kept:∀ r row,H0.get r=some row->¬ O r->F2 (i' r)
 own:∀ r row,H0.get r=some row->O r->¬ F2 (i' r)/\¬ G (i' r)
 more:bor=false->∀ b,F' b->F2 b
theorem env_F {x:AV} {v:Value} {j:Nat->Nat} {N:Nat} (hF:∀ b,F' b->F2 b) (hp:Pure x) (hv:VRel ⟨F',w'.heap,i',H0.n⟩ x v):VRel ⟨F2,w'.heap,j,N⟩ x v:=by
 have:=hv.pure hp j N
 have le:Env.le ⟨F',w'.heap,j,N⟩ ⟨F2,w'.heap,j,N⟩:=⟨hF,fun _ _=>rfl,Nat.le_refl _,fun _ _=>rfl,fun b c e z h=>⟨c,e,z,h,Nat.le_refl _⟩⟩
 exact this.mono le
def LeafV (E:Env):RLeaf->Value->Prop
 | .v u,v=>VRel E u v
 | .fz n cs,v=>VRel E (.list n cs) v
 | .own _ n _,v=>n=0->VRel E .nilslice v
theorem thaw_rel {O:Nat->Prop} (hh:Hand F' F2 G i' H0 w' O false) {x u:AV} {v:Value} (ht:Thaw H0 x u) (hO:∀ r o n e,x=.slice r o n e->¬ O r) (hv:VRel ⟨F',w'.heap,i',H0.n⟩ x v) (j:Nat->Nat) (N:Nat):
  VRel ⟨F2,w'.heap,j,N⟩ u v:=by
 cases ht with
 | same hp=>exact env_F (hh.more rfl) hp hv
 | slice hg hc hl=>exact list_of_row hh.h0 hg hl hv (hh.kept _ _ hg (hO _ _ _ _ rfl)) rfl fun x u hx hxu=>env_F (hh.more rfl) (hc x hx).pure hxu
 | nil=>cases hv;exact .listNil 0 0 none (Nat.le_refl _)
 | nl hc=>exact env_F (hh.more rfl) (Cell.list _ _ hc).pure (nl_list hv)
 | sub hg hc hl=>exact list_of_part hh.h0 hg hl hv (hh.kept _ _ hg (hO _ _ _ _ rfl)) rfl fun x u hx hxu=>env_F (hh.more rfl) (hc x (List.mem_of_mem_drop (List.mem_of_mem_take hx))).pure hxu
theorem leaf_rel {O:Nat->Prop} {bor:Bool} (hh:Hand F' F2 G i' H0 w' O bor) {x:AV} {l:RLeaf} {v:Value} (hl:LeafR H0 O x l) (hb:bor=true->plainD [l]=true) (hv:VRel ⟨F',w'.heap,i',H0.n⟩ x v) (j:Nat->Nat) (N:Nat):
  LeafV ⟨F2,w'.heap,j,N⟩ l v:=by
 cases hl with
 | v ht hO=>
  cases hbo:bor with
  | false=>subst hbo;exact thaw_rel hh ht hO hv j N
  | true=>
   have hp:=hb hbo
   simp only [plainD,Bool.and_true] at hp
   cases ht with
   | same _=>exact plainB_rel hp hv
   | slice _ _ _=>cases hp
   | nil=>cases hp
   | nl _=>cases hp
   | sub _ _ _=>cases hp
 | @agg xs us ht hO=>
  cases hv with
  | agg _ vs hlen hvs=>
   cases hbo:bor with
   | false=>
    subst hbo
    refine .agg us vs (by rw [←ht.length];exact hlen) fun k u a h1 h2=>?_
    obtain ⟨x,hx,hr⟩:=ht.get' h1
    exact thaw_rel hh hr (hO x (List.mem_of_getElem? hx)) (hvs k x a hx h2) j N
   | true=>
    have hp:=hb hbo
    simp only [plainD,Bool.and_true] at hp
    refine .agg us vs (by rw [←ht.length];exact hlen) fun k u a h1 h2=>?_
    obtain ⟨x,hx,hr⟩:=ht.get' h1
    simp only [plainB,List.all_eq_true] at hp
    have hu:=hp u (List.mem_of_getElem? h1)
    have hxa:=hvs k x a hx h2
    cases hr with
    | same _=>exact plainB_rel (by cases u<;>simp only [Bool.false_eq_true] at hu<;>rfl) hxa
    | slice _ _ _=>cases hu
    | nil=>cases hu
    | nl _=>cases hu
    | sub _ _ _=>cases hu
 | fz hg hc hl hO=>exact list_of_row hh.h0 hg hl hv (hh.kept _ _ hg hO) rfl fun x u hx hxu=>(hc x hx).rel hxu
 | fznil=>cases hv;exact .listNil 0 0 none (Nat.le_refl _)
 | fzsub hg hc hl hO=>exact list_of_part hh.h0 hg hl hv (hh.kept _ _ hg hO) rfl fun x u hx hxu=>(hc x hx).rel hxu
 | fznone=>cases hv<;>first | exact .listNil 0 _ _ (Nat.zero_le _) | exact .listNil 0 _ _ ‹_›
 | own hg hc hl hn hO=>intro h;exact absurd h hn
 | ownnil=>intro _;cases hv;exact .nilslice
theorem owns_row {O:Nat->Prop}:∀ {xs:List AV} {d:List RLeaf} {r:Nat},All2 (LeafR H0 O) xs d->r∈ownsD xs d->∃ row,H0.get r=some row
 | [],[],r,_,h=>by cases h
 | x::xs,l::d,r,.cons hl ht,h=>by
  cases hl with
  | own hg hc hlen hn hO=>
   rcases List.mem_cons.1 h with rfl | h
   ·exact ⟨_,hg⟩
   ·exact owns_row ht h
  | v h1 h2=>
   have:r∈ownsD xs d:=by cases x<;>exact h
   exact owns_row ht this
  | agg h1 h2=>exact owns_row ht h
  | fz h1 h2 h3 h4=>exact owns_row ht h
  | fznil=>exact owns_row ht h
  | fzsub h1 h2 h3 h4=>exact owns_row ht h
  | fznone=>exact owns_row ht h
  | ownnil=>exact owns_row ht h
theorem place_ok {O:Nat->Prop} {bor:Bool} (hh:Hand F' F2 G i' H0 w' O bor):∀ (xs:List AV) (d:List RLeaf) (Hc:Heap) (ic:Nat->Nat) (vs:List Value),All2 (LeafR H0 O) xs d->(bor=true->plainD d=true)->(ownsD xs d).Nodup->
  HRel F2 G ic Hc w'.heap->(∀ r∈ownsD xs d,∀ s row,Hc.get s=some row->ic s≠i' r)->VRels ⟨F',w'.heap,i',H0.n⟩ xs vs->
  ∃ ic',HRel F2 G ic' (placeL d Hc).2 w'.heap/\(∀ s,s<Hc.n->ic' s=ic s)/\Hc.n<=(placeL d Hc).2.n/\VRels ⟨F2,w'.heap,ic',(placeL d Hc).2.n⟩ (placeL d Hc).1 vs
 | [],[],Hc,ic,vs,_,_,_,hH,_,hv=>by
  refine ⟨ic,hH,fun _ _=>rfl,Nat.le_refl _,?_⟩
  have:vs=[]:=List.eq_nil_of_length_eq_zero (by rw [←hv.1];rfl)
  subst this
  exact VRels.nil
 | x::xs,l::d,Hc,ic,[],_,_,_,_,_,hv=>by have:=hv.1;simp at this
 | x::xs,l::d,Hc,ic,v::vs,.cons hl ht,hb,hnd,hH,hfar,hv=>by
  have hx:VRel ⟨F',w'.heap,i',H0.n⟩ x v:=hv.2 0 x v rfl rfl
  have hvs:VRels ⟨F',w'.heap,i',H0.n⟩ xs vs:=⟨by simpa using hv.1,fun j a b p q=>hv.2 (j+1) a b (by simpa using p) (by simpa using q)⟩
  have hb1:bor=true->plainD [l]=true:=by
   intro e
   have:=hb e
   cases l with
   | v u=>simp only [plainD,Bool.and_eq_true,Bool.and_true] at this ⊢;exact this.1
   | _=>rfl
  have hb2:bor=true->plainD d=true:=by
   intro e
   have:=hb e
   cases l with
   | v u=>simp only [plainD,Bool.and_eq_true] at this;exact this.2
   | _=>exact this
  have hleaf:=leaf_rel hh hl hb1 hx
  have simple:(ownsD (x::xs) (l::d)=ownsD xs d)->∀ (u:AV),(placeL (l::d) Hc)=(u::(placeL d Hc).1,(placeL d Hc).2)->(∀ j N,VRel ⟨F2,w'.heap,j,N⟩ u v)->
    ∃ ic',HRel F2 G ic' (placeL (l::d) Hc).2 w'.heap/\(∀ s,s<Hc.n->ic' s=ic s)/\Hc.n<=(placeL (l::d) Hc).2.n/\VRels ⟨F2,w'.heap,ic',(placeL (l::d) Hc).2.n⟩ (placeL (l::d) Hc).1 (v::vs):=by
   intro ho u hpl hu
   obtain ⟨ic',k1,k2,k3,k4⟩:=place_ok hh xs d Hc ic vs ht hb2 (by rw [←ho];exact hnd) hH (by rw [←ho];exact hfar) hvs
   rw [hpl]
   exact ⟨ic',k1,k2,k3,VRels.cons (hu _ _) k4⟩
  cases hl with
  | v h1 h2=>
   refine simple ?_ _ rfl fun j N=>hleaf j N
   cases x<;>rfl
  | agg h1 h2=>exact simple rfl _ rfl fun j N=>hleaf j N
  | fz h1 h2 h3 h4=>exact simple rfl _ rfl fun j N=>hleaf j N
  | fznil=>exact simple rfl _ rfl fun j N=>hleaf j N
  | fzsub h1 h2 h3 h4=>exact simple rfl _ rfl fun j N=>hleaf j N
  | fznone=>exact simple rfl _ rfl fun j N=>hleaf j N
  | ownnil=>exact simple rfl _ (by simp [placeL]) fun j N=>hleaf j N rfl
  | @own r n esz cs hg hc hlen hn hO=>
   have ho:ownsD (.slice r 0 n esz::xs) (.own esz n cs::d)=r::ownsD xs d:=rfl
   rw [ho,List.nodup_cons] at hnd
   rw [ho] at hfar
   obtain ⟨o,hob,hro⟩:=hh.h0.row r _ hg
   obtain ⟨n1,n2⟩:=hh.own r _ hg hO
   have hany:∀ E,RowRel E (.cells cs) o:=by
    intro E
    cases hro with
    | cells _ c e z hok=>exact .cells cs c e z ⟨hok.len,fun j x u p q=>(hc x (List.mem_of_getElem? p)).rel (hok.val j x u p q),hok.free⟩
   have hbs:i' r<w'.heap.size:=(Array.getElem?_eq_some_iff.1 hob).1
   have hH1:HRel F2 (fun c=>G c\/c=i' r) ic Hc w'.heap:=by
    refine ⟨hH.row,fun s row hs=>⟨(hH.out s row hs).1,?_⟩,hH.inj,fun b hb=>?_,fun b hf hg'=>?_,hH.ok⟩
    ·rintro (h | h)
     ·exact (hH.out s row hs).2 h
     ·exact hfar r List.mem_cons_self s row hs h
    ·rcases hb with h | h | h
     ·exact hH.old b (.inl h)
     ·exact hH.old b (.inr h)
     ·rw [h];exact hbs
    ·rcases hg' with h | h
     ·exact hH.apart b hf h
     ·rw [h] at hf;exact n1 hf
   have hH2:=hH1.adopt hob hany n2
   obtain ⟨ic',k1,k2,k3,k4⟩:=place_ok hh xs d (Hc.push (.cells cs)) (Abs.put ic Hc.n (i' r)) vs ht hb2 hnd.2 hH2 (fun r' hr' s row hs=>by
    rcases Heap.get_push hs with ⟨hl,hs⟩ | ⟨rfl,rfl⟩
    ·rw [put_lt hl];exact hfar r' (List.mem_cons_of_mem _ hr') s row hs
    ·rw [put_self]
     intro e
     have hown:=owns_row ht hr'
     obtain ⟨row',hr2⟩:=hown
     have:=hh.h0.inj r r' _ _ hg hr2 e
     subst this
     exact hnd.1 hr') hvs
   have hpl:placeL (.own esz n cs::d) Hc=(.slice Hc.n 0 n esz::(placeL d (Hc.push (.cells cs))).1,(placeL d (Hc.push (.cells cs))).2):=by simp only [placeL,if_neg hn]
   rw [hpl]
   refine ⟨ic',k1,fun s hs=>by rw [k2 s (by simp;omega),put_lt hs],Nat.le_trans (by simp) k3,VRels.cons ?_ k4⟩
   cases hx with
   | slice _ _ _ _ cap hr' hcap hbb=>
    have hi:ic' Hc.n=i' r:=by rw [k2 Hc.n (by simp),put_self]
    have:=VRel.slice (E:=⟨F2,w'.heap,ic',(placeL d (Hc.push (.cells cs))).2.n⟩) Hc.n 0 n esz cap (by
     have:Hc.n<(Hc.push (.cells cs)).n:=by simp
     exact Nat.lt_of_lt_of_le this k3) hcap (by
     obtain ⟨c2,e2,z2,q1,q2⟩:=hbb
     exact ⟨c2,e2,z2,by show w'.heap[ic' Hc.n]?=_;rw [hi];exact q1,q2⟩)
    simp only [hi] at this
    exact this
def Bor (bor:Bool) (i:Nat->Nat) (H:Heap) (b:Nat):Prop:=bor=true/\∃ r row,H.get r=some row/\b=i r
def UnBor (bor:Bool) (i:Nat->Nat) (H:Heap) (b:Nat):Prop:=bor=false/\∃ r row,H.get r=some row/\b=i r
theorem bor_start {bor:Bool} (hH:HRel F G i H w.heap):HRel (fun b=>F b\/Bor bor i H b) (fun b=>G b\/UnBor bor i H b) i Heap.empty w.heap:=by
 refine ⟨fun r row h=>?_,fun r row h=>?_,fun r r' a b h=>?_,fun b hb=>?_,fun b hf hg=>?_,rfl⟩
 ·rw [Heap.get_empty] at h;cases h
 ·rw [Heap.get_empty] at h;cases h
 ·rw [Heap.get_empty] at h;cases h
 ·have hrow:(∃ r row,H.get r=some row/\b=i r)->b<w.heap.size:=by
   rintro ⟨r,row,hr,rfl⟩
   obtain ⟨o,ho,_⟩:=hH.row r row hr
   exact (Array.getElem?_eq_some_iff.1 ho).1
  rcases hb with (hb | hb) | (hb | hb)
  ·exact hH.old b (.inl hb)
  ·exact hrow hb.2
  ·exact hH.old b (.inr hb)
  ·exact hrow hb.2
 ·rcases hf with hf | ⟨e1,r,row,hr,e⟩<;>rcases hg with hg | ⟨e2,r',row',hr',e'⟩
  ·exact hH.apart b hf hg
  ·rw [e'] at hf;exact (hH.out r' row' hr').1 hf
  ·rw [e] at hg;exact (hH.out r row hr).2 hg
  ·rw [e1] at e2;cases e2
theorem normCell_rel {bor:Bool} (hH:HRel F G i H w.heap) {x u:AV} {b:Bool} (h:normCell H x=some (u,b)) (hb:b=true->bor=true) {v:Value} (hv:VRel ⟨F,w.heap,i,H.n⟩ x v) (N:Nat):
  VRel ⟨fun b=>F b\/Bor bor i H b,w.heap,i,N⟩ u v:=by
 have le:∀ M,Env.le ⟨F,w.heap,i,M⟩ ⟨fun b=>F b\/Bor bor i H b,w.heap,i,M⟩:=fun M=>⟨fun _ h=>.inl h,fun _ _=>rfl,Nat.le_refl _,fun _ _=>rfl,fun b c e z h=>⟨c,e,z,h,Nat.le_refl _⟩⟩
 unfold normCell at h
 split at h
 ·rename_i r off len esz
  split at h
  ·rename_i cs hcs
   split at h
   ·rename_i hc
    simp only [Option.some.injEq,Prod.mk.injEq] at h
    obtain ⟨rfl,rfl⟩:=h
    have hg:=rowOf_spec hcs
    obtain ⟨o,ho,hr⟩:=hH.row r _ hg
    cases hr with
    | cells _ c e z hok=>
     cases hv with
     | slice _ _ _ _ cap hr' hcap hbb=>
      have hlen:((c.toList.drop off).take (len*esz)).length=((cs.drop off).take (len*esz)).length:=by
       have:=hok.len
       simp only [List.length_take,List.length_drop,Array.length_toList];omega
      have hsz:((cs.drop off).take (len*esz)).length=len*esz:=by simp only [List.length_take,List.length_drop];omega
      refine .list len cap _ (i r) off ((c.toList.drop off).take (len*esz)) hcap (.inr ⟨hb rfl,r,_,hg,rfl⟩) ⟨c,e,z,ho,by rw [hlen,hsz];have:=hok.len;omega,fun j u hj=>?_⟩ hlen.symm fun j x u h1 h2=>?_
      ·rw [List.getElem?_take] at hj
       split at hj
       ·rw [List.getElem?_drop] at hj;simpa using hj
       ·cases hj
      ·have hj:j<len*esz:=by
        have:=(List.getElem?_eq_some_iff.1 h1).1
        rw [hsz] at this;exact this
       rw [List.getElem?_take,if_pos hj,List.getElem?_drop] at h1 h2
       have:=hok.val (off+j) x u h1 (by simpa using h2)
       exact ((this.pure (hc.2 x (List.mem_of_getElem? h1)).pure i N)).mono (le N)
   ·cases h
  ·cases h
 ·simp only [Option.some.injEq,Prod.mk.injEq] at h
  obtain ⟨rfl,rfl⟩:=h
  cases hv
  exact .listNil 0 0 none (Nat.le_refl _)
 ·split at h
  ·rename_i hp
   simp only [Option.some.injEq,Prod.mk.injEq] at h
   obtain ⟨rfl,rfl⟩:=h
   exact (hv.pure hp.1 i N).mono (le N)
  ·cases h
theorem normCells_rel {bor:Bool} (hH:HRel F G i H w.heap):∀ {xs us:List AV} {b:Bool} {vs:List Value},normCells H xs=some (us,b)->(b=true->bor=true)->VRels ⟨F,w.heap,i,H.n⟩ xs vs->∀ N,VRels ⟨fun b=>F b\/Bor bor i H b,w.heap,i,N⟩ us vs
 | [],us,b,vs,h,hb,hv,N=>by
  simp only [normCells,Option.some.injEq,Prod.mk.injEq] at h
  obtain ⟨rfl,rfl⟩:=h
  have:vs=[]:=List.eq_nil_of_length_eq_zero (by rw [←hv.1];rfl)
  subst this;exact VRels.nil
 | x::xs,us,b,[],h,hb,hv,N=>by have:=hv.1;simp at this
 | x::xs,us,b,v::vs,h,hb,hv,N=>by
  simp only [normCells] at h
  split at h
  ·rename_i y b1 ys b2 h1 h2
   simp only [Option.some.injEq,Prod.mk.injEq] at h
   obtain ⟨rfl,rfl⟩:=h
   exact VRels.cons (normCell_rel hH h1 (fun e=>hb (by simp [e])) (hv.2 0 x v rfl rfl) N)
    (normCells_rel hH h2 (fun e=>hb (by simp [e])) ⟨by simpa using hv.1,fun j a b p q=>hv.2 (j+1) a b (by simpa using p) (by simpa using q)⟩ N)
  ·cases h
theorem normArg_rel {bor:Bool} (hH:HRel F G i H w.heap) {x u:AV} {b:Bool} (h:normArg H x=some (u,b)) (hb:b=true->bor=true) {v:Value} (hv:VRel ⟨F,w.heap,i,H.n⟩ x v) (N:Nat):
  VRel ⟨fun b=>F b\/Bor bor i H b,w.heap,i,N⟩ u v:=by
 unfold normArg at h
 split at h
 ·split at h
  ·rename_i ys b1 h1
   simp only [Option.some.injEq,Prod.mk.injEq] at h
   obtain ⟨rfl,rfl⟩:=h
   cases hv with
   | agg _ vs hl hvs=>
    have:=normCells_rel (vs:=vs.toList) hH h1 hb ⟨by simpa using hl,fun j x v p q=>hvs j x v p (by simpa using q)⟩ N
    exact .agg _ vs (by simpa using this.1) fun j x v p q=>this.2 j x v p (by simpa using q)
  ·cases h
 ·split at h
  ·rename_i hc
   simp only [Option.some.injEq,Prod.mk.injEq] at h
   obtain ⟨rfl,rfl⟩:=h
   refine normCell_rel (x:=.list _ _) hH ?_ hb (nl_list hv) N
   simp only [normCell]
   rw [if_pos ⟨(Cell.list _ _ hc).pure,fun _ h=>by cases h⟩]
  ·cases h
 ·exact normCell_rel hH h hb hv N
theorem normArgs_rel {bor:Bool} (hH:HRel F G i H w.heap):∀ {xs us:List AV} {b:Bool} {vs:List Value},normArgs H xs=some (us,b)->(b=true->bor=true)->VRels ⟨F,w.heap,i,H.n⟩ xs vs->∀ N,VRels ⟨fun b=>F b\/Bor bor i H b,w.heap,i,N⟩ us vs
 | [],us,b,vs,h,hb,hv,N=>by
  simp only [normArgs,Option.some.injEq,Prod.mk.injEq] at h
  obtain ⟨rfl,rfl⟩:=h
  have:vs=[]:=List.eq_nil_of_length_eq_zero (by rw [←hv.1];rfl)
  subst this;exact VRels.nil
 | x::xs,us,b,[],h,hb,hv,N=>by have:=hv.1;simp at this
 | x::xs,us,b,v::vs,h,hb,hv,N=>by
  simp only [normArgs] at h
  split at h
  ·rename_i y b1 ys b2 h1 h2
   simp only [Option.some.injEq,Prod.mk.injEq] at h
   obtain ⟨rfl,rfl⟩:=h
   exact VRels.cons (normArg_rel hH h1 (fun e=>hb (by simp [e])) (hv.2 0 x v rfl rfl) N)
    (normArgs_rel hH h2 (fun e=>hb (by simp [e])) ⟨by simpa using hv.1,fun j a b p q=>hv.2 (j+1) a b (by simpa using p) (by simpa using q)⟩ N)
  ·cases h
theorem placeL_grow:∀ (d:List RLeaf) (H:Heap),H.rev.length=H.n->Grow H (placeL d H).2
 | [],H,hok=>Grow.refl hok
 | .v x::ls,H,hok=>placeL_grow ls H hok
 | .fz n cs::ls,H,hok=>placeL_grow ls H hok
 | .own esz n cs::ls,H,hok=>by
  by_cases hn:n=0
  ·simp only [placeL,hn,if_true];exact placeL_grow ls H hok
  ·simp only [placeL,hn,if_false]
   have g:=(Turn.push (H:=H) (.cells cs)).grow hok
   exact g.trans (placeL_grow ls _ g.ok)
theorem CallOk.place {g:FuncId} {args' xs:List AV} {d:List RLeaf} (h:CallOk P (fun _=>none) g args' Heap.empty (atuple xs) H0) (hl:All2 (LeafR H0 fun r=>r∈ownsD xs d) xs d) (hnd:(ownsD xs d).Nodup)
  {args:List AV} {bor:Bool} (hn:normArgs H args=some (args',bor)) (hb:bor=true->plainD d=true):CallOk P (fun _=>none) g args H (atuple (placeL d H).1) (placeL d H).2:=by
 refine ⟨fun hok=>placeL_grow d H hok,h.fn,fun F G i w args2 hH hg hA=>?_⟩
 have hA':VRels ⟨fun b=>F b\/Bor bor i H b,w.heap,i,Heap.empty.n⟩ args' args2.toList:=normArgs_rel hH hn (fun e=>e) hA _
 have hdoes:=h.does (fun b=>F b\/Bor bor i H b) (fun b=>G b\/UnBor bor i H b) i w args2 (bor_start hH) ⟨fun g cells e=>by cases e⟩ hA'
 refine CallsIn.mono hdoes fun e w' he=>?_
 cases e with
 | panicked c=>exact he.elim
 | outgrown=>exact he.elim
 | returned v=>
  obtain ⟨F',i',hgv⟩:=he
  have hOut:∀ r row,H0.get r=some row->¬ F' (i' r)/\¬ G (i' r)/\∀ s row',H.get s=some row'->i s≠i' r:=by
   intro r row hr
   obtain ⟨o1,o2⟩:=hgv.heap.out r row hr
   refine ⟨o1,fun hG=>o2 (.inl hG),fun s row' hs e=>?_⟩
   cases hbo:bor with
   | true=>exact o1 (hgv.ext.grow _ (.inr ⟨hbo,s,row',hs,e.symm⟩))
   | false=>exact o2 (.inr ⟨hbo,s,row',hs,e.symm⟩)
  let F2:Nat->Prop:=fun b=>(F' b/\¬ Bor bor i H b)\/∃ r row,H0.get r=some row/\¬ (r∈ownsD xs d)/\b=i' r
  have hFF2:∀ b,F b->F2 b:=by
   intro b hf
   refine .inl ⟨hgv.ext.grow b (.inl hf),?_⟩
   rintro ⟨_,r,row,hr,rfl⟩
   exact (hH.out r row hr).1 hf
  have hkeep:∀ b,F b\/G b\/(∃ r row,H.get r=some row/\b=i r)->w'.heap[b]?=w.heap[b]?:=by
   intro b hbb
   refine hgv.ext.keep b ?_
   rcases hbb with hf | hG | hr
   ·exact .inl (.inl hf)
   ·exact .inr (.inl hG)
   ·cases hbo:bor with
    | true=>exact .inl (.inr ⟨rfl,hr⟩)
    | false=>exact .inr (.inr ⟨rfl,hr⟩)
  have le:Env.le ⟨F,w.heap,i,H.n⟩ ⟨F2,w'.heap,i,H.n⟩:=⟨hFF2,fun b hf=>hkeep b (.inl hf),Nat.le_refl _,fun _ _=>rfl,hgv.ext.cells⟩
  have hHand:Hand F' F2 G i' H0 w' (fun r=>r∈ownsD xs d) bor:=by
   refine ⟨⟨hgv.heap.row,fun r row hr=>⟨(hgv.heap.out r row hr).1,fun h=>h⟩,hgv.heap.inj,fun b hbb=>?_,fun _ _ h=>h,hgv.heap.ok⟩,fun r row hr ho=>.inr ⟨r,row,hr,ho,rfl⟩,fun r row hr ho=>⟨?_,(hOut r row hr).2.1⟩,fun hbo b hf=>.inl ⟨hf,?_⟩⟩
   ·rcases hbb with hf | hf
    ·exact hgv.heap.old b (.inl hf)
    ·exact hf.elim
   ·rintro (⟨hf,_⟩ | ⟨r',row',hr',ho',e⟩)
    ·exact (hOut r row hr).1 hf
    ·have:=hgv.heap.inj r r' row row' hr hr' e
     subst this
     exact ho' ho
   ·rintro ⟨e,_⟩;rw [hbo] at e;cases e
  have hH2:HRel F2 G i H w'.heap:=by
   refine ⟨fun r row hr=>?_,fun r row hr=>⟨?_,(hH.out r row hr).2⟩,hH.inj,fun b hbb=>?_,fun b hf hG=>?_,hH.ok⟩
   ·obtain ⟨o,ho,hrel⟩:=hH.row r row hr
    exact ⟨o,by rw [hkeep _ (.inr (.inr ⟨r,row,hr,rfl⟩))];exact ho,hrel.mono le⟩
   ·rintro (⟨hf,hnb⟩ | ⟨r',row',hr',_,e⟩)
    ·cases hbo:bor with
     | true=>rw [hbo] at hnb;exact hnb ⟨rfl,r,row,hr,rfl⟩
     | false=>have hap:=hgv.heap.apart _ hf;exact hap (.inr ⟨hbo,r,row,hr,rfl⟩)
    ·exact (hOut r' row' hr').2.2 r row hr e
   ·rcases hbb with (⟨hf,_⟩ | ⟨r',row',hr',_,rfl⟩) | hG
    ·exact hgv.heap.old b (.inl hf)
    ·obtain ⟨o,ho,_⟩:=hgv.heap.row r' row' hr'
     exact (Array.getElem?_eq_some_iff.1 ho).1
    ·exact hgv.heap.old b (.inr (.inl hG))
   ·rcases hf with ⟨hf,_⟩ | ⟨r',row',hr',_,rfl⟩
    ·exact hgv.heap.apart b hf (.inl hG)
    ·exact (hOut r' row' hr').2.1 hG
  have fin:∀ vs:List Value,VRels ⟨F',w'.heap,i',H0.n⟩ xs vs->(∀ (E:Env) (us:List AV),VRels E us vs->us.length=xs.length->VRel E (atuple us) v)->Ret F G i H w (atuple (placeL d H).1) (placeL d H).2 (.returned v) w':=by
   intro vs hvs hto
   obtain ⟨ic',k1,k2,k3,k4⟩:=place_ok hHand xs d H i vs hl hb hnd hH2 (fun r hr s row hs=>by
    obtain ⟨row0,h0⟩:=owns_row hl hr
    exact (hOut r row0 h0).2.2 s row hs) hvs
   refine ⟨F2,ic',hto _ _ k4 (by rw [k4.1,←hvs.1]),k1,⟨hFF2,fun b hbb=>hkeep b (hbb.imp id .inl),hgv.ext.size,hgv.ext.cells,k2,hgv.ext.os,hgv.ext.output,hgv.ext.tape⟩,k3⟩
  have hval:=hgv.val
  unfold atuple at hval
  split at hval
  ·rename_i x
   refine fin [v] (VRels.cons hval VRels.nil) fun E us hus hlen=>?_
   match us,hlen with
   | [u],_=>exact hus.2 0 u v rfl rfl
  ·rename_i hne
   cases hval with
   | tuple _ vs hlen hvs=>
    refine fin vs.toList ⟨by simpa using hlen,fun j x v p q=>hvs j x v p (by simpa using q)⟩ fun E us hus hlen2=>?_
    have hto:atuple us=.tuple us:=by
     unfold atuple
     split
     ·rename_i u
      exfalso
      match xs,hlen2 with
      | [x],_=>exact hne x rfl
     ·rfl
    rw [hto]
    exact .tuple us vs (by rw [hlen2];exact hlen) fun j x v p q=>hus.2 j x v p (by simpa using q)
end
end Go.Abs
end
noncomputable section
namespace Go.Abs
open Classical
def Contract (P:Program) (g:FuncId) (args':List AV) (d:List RLeaf):Prop:=
 ∀ (H:Heap) (args:List AV) (bor:Bool),normArgs H args=some (args',bor)->(bor=true->plainD d=true)->CallOk P (fun _=>none) g args H (atuple (placeL d H).1) (placeL d H).2
def symA:AV->SV
 | .agg cs=>.s (.agg (cs.map fun c=>.b (ofLeaf1 c)))
 | .func f [] []=>.s (.o (.fn f [] []))
 | .cptr cs off=>.ofB (.lptr cs off)
 | x=>.ofB (ofLeaf1 x)
def leafK (rows:Rows) (fz:Bool) (x:S3):Option RLeaf:=
 match fz,x with
 | true,.o (.b (.own r ver _))=>match rows[r]? with
  | some (some (.vec _ v _ n cs))=>match Nat.beq ver v with
   | true=>some (.fz n cs)
   | false=>none
  | _=>none
 | true,.o (.b (.sub r ver off n _))=>match rows[r]? with
  | some (some (.vec _ v es _ cs))=>match Nat.beq ver v with
   | true=>some (.fz n ((cs.drop (off*es)).take (n*es)))
   | false=>none
  | _=>none
 | true,.o (.b (.raw .nilslice))=>some (.fz 0 [])
 | true,_=>none
 | false,x=>match argS rows (.s x) with
  | some (u,_)=>some (.v u)
  | none=>none
def leavesK (rows:Rows):List Bool->List S3->Option (List RLeaf)
 | [],[]=>some []
 | m::ms,x::xs=>match leafK rows m x,leavesK rows ms xs with
  | some l,some ls=>some (l::ls)
  | _,_=>none
 | _,_=>none
def resK (ms:List Bool) (y:SV) (rows:Rows):Option (List RLeaf):=
 match y,ms with
 | .s x,[m]=>leavesK rows [m] [x]
 | .tuple xs,[]=>leavesK rows [] xs
 | .tuple xs,m::m'::ms=>leavesK rows (m::m'::ms) xs
 | _,_=>none
def FzPlain:List RLeaf->Prop
 | []=>True
 | .fz _ cs::ls=>(∀ c∈cs,PlainC c)/\FzPlain ls
 | .own _ _ cs::ls=>(∀ c∈cs,PlainC c)/\FzPlain ls
 | .v _::ls=>FzPlain ls
section
variable {P : Program} {T : CTab} {dom jn : FuncId → Bool} {N : Nat} {live : FuncId → Nat → Nat} {asg : FuncId → Nat → Asg} {C : Codes} {ι : Nat → Nat} {rows : Rows} {H : Heap}
theorem symA_rel {x:AV} (h:ArgOk x):RV ι rows (symA x) x:=by
 unfold symA
 split
 ·rename_i cs
  refine ⟨cs,rfl,?_⟩
  have:=All2.of_map (R:=R2 ι rows) (fun c=>.b (ofLeaf1 c)) id cs fun c hc=>(ofLeaf1_rel (x:=c) (fun n cs' e=>by
   have:=h c hc
   subst e
   exact this) (fun n cs' e=>by
   have:=h c hc
   subst e
   exact this))
  simpa using this
 ·exact ⟨[],[],rfl,.nil,.nil⟩
 ·exact ⟨rfl,h⟩
 ·exact ofLeaf1_rel (fun n cs e=>by subst e;exact h) (fun n cs e=>by subst e;exact h)
theorem thaw_of (hE:RowsE C ι rows H) {x:S2} {v u:AV} {b:Bool} (hx:R2 ι rows x v) (h:argC rows x=some (u,b)):Thaw H v u:=by
 unfold argC at h
 split at h
 ·rename_i x
  split at h
  ·rename_i q ver esz
   split at h
   ·rename_i nb v' es n cs hrow
    split at h
    ·rename_i hver
     have hver:=Nat.eq_of_beq_eq_true hver
     subst hver
     simp only [Option.some.injEq,Prod.mk.injEq] at h
     obtain ⟨rfl,rfl⟩:=h
     have hx:R1 ι rows (.own q ver esz) v:=hx
     obtain ⟨e,hv⟩:=(hx.2 _ _ _ _ (sg_vec hrow)).2 rfl
     obtain ⟨g1,g2,g3⟩:=hE.row _ _ hrow
     subst e
     subst hv
     unfold ownAV
     by_cases hn:nb=true/\n=0
     ·rw [if_pos hn]
      have:cs=[]:=by rw [hn.2,Nat.zero_mul] at g1;exact List.eq_nil_of_length_eq_zero g1
      rw [hn.2,this];exact .nil
     ·rw [if_neg hn]
      exact .slice (g3 hn) g2 g1
    ·cases h
   ·cases h
  ·rename_i q ver off n esz
   split at h
   ·rename_i nb v' es m cs hrow
    split at h
    ·rename_i hver
     have hver:=Nat.eq_of_beq_eq_true hver
     subst hver
     simp only [Option.some.injEq,Prod.mk.injEq] at h
     obtain ⟨rfl,rfl⟩:=h
     have hx:R1 ι rows (.sub q ver off n esz) v:=hx
     obtain ⟨e,hle,hv⟩:=(hx.2 _ _ _ _ (sg_vec hrow)).2 rfl
     obtain ⟨g1,g2,g3⟩:=hE.row _ _ hrow
     subst e
     have hl:off*esz+n*esz<=cs.length:=by rw [g1,←Nat.add_mul];exact Nat.mul_le_mul_right _ hle
     unfold SubV at hv
     split at hv
     ·rename_i hn
      have:n=0:=by omega
      subst hv;subst this
      simp only [Nat.zero_mul,List.take_zero];exact .nil
     ·rename_i hn
      rcases hv with hv | ⟨hn0,hv⟩
      ·subst hv;exact .sub (g3 hn) g2 hl
      ·subst hv;subst hn0
       simp only [Nat.zero_mul,List.take_zero];exact .same (.list 0 [] fun x hx=>(by cases hx))
    ·cases h
   ·cases h
  ·rename_i q off n esz
   split at h
   ·rename_i cs hrow
    split at h
    ·rename_i us hus
     split at h
     ·rename_i hb
      rw [Nat.ble_eq] at hb
      simp only [Option.some.injEq,Prod.mk.injEq] at h
      obtain ⟨rfl,rfl⟩:=h
      have hx:R1 ι rows (.lsub q off n esz) v:=hx
      have hv:=hx.2 (sg_lit hrow)
      subst hv
      obtain ⟨cs',g1,g2⟩:=hE.row _ _ hrow
      obtain ⟨e,hc⟩:=toCells_rel g2 hus
      subst e
      exact .sub g1 hc hb
     ·cases h
    ·cases h
   ·cases h
  ·have hx:v=.nilslice:=hx
   simp only [Option.some.injEq,Prod.mk.injEq] at h
   obtain ⟨rfl,rfl⟩:=h
   rw [hx];exact .nil
  ·have hx:v=.nilptr:=hx
   simp only [Option.some.injEq,Prod.mk.injEq] at h
   obtain ⟨rfl,rfl⟩:=h
   rw [hx];exact .same .nilptr
  ·have hx:v=.nilFunc:=hx
   simp only [Option.some.injEq,Prod.mk.injEq] at h
   obtain ⟨rfl,rfl⟩:=h
   rw [hx];exact .same .nilFunc
  ·rename_i cs off
   have hx:R1 ι rows (.lptr cs off) v:=hx
   simp only [Option.some.injEq,Prod.mk.injEq] at h
   obtain ⟨rfl,rfl⟩:=h
   rw [hx.1];exact .same (.cptr _ _ fun x hx'=>(hx.2 x hx').pure)
  ·split at h
   ·rename_i u hu
    simp only [Option.some.injEq,Prod.mk.injEq] at h
    obtain ⟨rfl,rfl⟩:=h
    obtain ⟨e,hc⟩:=toAV_rel (show R1 ι rows _ v from hx) hu
    rw [e];exact .same hc.pure
   ·cases h
 ·split at h
  ·rename_i f
   simp only [Option.some.injEq,Prod.mk.injEq] at h
   obtain ⟨rfl,rfl⟩:=h
   obtain ⟨first',cap',e,h1,h2⟩:=hx
   cases h1;cases h2
   rw [e];exact .same (.func _ _ _ (by simp) (by simp))
  ·cases h
theorem thaws_of (hE:RowsE C ι rows H):∀ {xs:List S2} {vs us:List AV} {b:Bool},All2 (R2 ι rows) xs vs->argCs rows xs=some (us,b)->All2 (Thaw H) vs us
 | [],[],us,b,_,h=>by simp only [argCs,Option.some.injEq,Prod.mk.injEq] at h;obtain ⟨rfl,rfl⟩:=h;exact .nil
 | x::xs,v::vs,us,b,.cons hx ht,h=>by
  simp only [argCs] at h
  split at h
  ·rename_i y b1 ys b2 h1 h2
   simp only [Option.some.injEq,Prod.mk.injEq] at h
   obtain ⟨rfl,rfl⟩:=h
   exact .cons (thaw_of hE hx h1) (thaws_of hE ht h2)
  ·cases h
theorem leafK_ok (hE:RowsE C ι rows H) {m:Bool} {x:S3} {v:AV} {l:RLeaf} (hx:R3 ι rows x v) (h:leafK rows m x=some l) (hp:FzPlain [l]):LeafR H (fun _=>False) v l:=by
 unfold leafK at h
 split at h
 ·rename_i q ver esz
  split at h
  ·rename_i nb v' es n cs hrow
   split at h
   ·rename_i hver
    have hver:=Nat.eq_of_beq_eq_true hver
    subst hver
    simp only [Option.some.injEq] at h
    subst h
    have hx:R1 ι rows (.own q ver esz) v:=hx
    obtain ⟨e,hv⟩:=(hx.2 _ _ _ _ (sg_vec hrow)).2 rfl
    obtain ⟨g1,g2,g3⟩:=hE.row _ _ hrow
    subst e
    subst hv
    unfold ownAV
    by_cases hn:nb=true/\n=0
    ·rw [if_pos hn]
     have:cs=[]:=by rw [hn.2,Nat.zero_mul] at g1;exact List.eq_nil_of_length_eq_zero g1
     rw [hn.2,this];exact .fznil
    ·rw [if_neg hn]
     exact .fz (g3 hn) hp.1 g1 (fun h=>h)
   ·cases h
  ·cases h
 ·rename_i q ver off n esz
  split at h
  ·rename_i nb v' es m cs hrow
   split at h
   ·rename_i hver
    have hver:=Nat.eq_of_beq_eq_true hver
    subst hver
    simp only [Option.some.injEq] at h
    subst h
    have hx:R1 ι rows (.sub q ver off n esz) v:=hx
    obtain ⟨e,hle,hv⟩:=(hx.2 _ _ _ _ (sg_vec hrow)).2 rfl
    obtain ⟨g1,g2,g3⟩:=hE.row _ _ hrow
    subst e
    have hl:off*esz+n*esz<=cs.length:=by rw [g1,←Nat.add_mul];exact Nat.mul_le_mul_right _ hle
    unfold SubV at hv
    split at hv
    ·rename_i hn
     have:n=0:=by omega
     subst hv;subst this
     simp only [Nat.zero_mul,List.take_zero];exact .fznil
    ·rename_i hn
     rcases hv with hv | ⟨hn0,hv⟩
     ·subst hv;exact .fzsub (g3 hn) hp.1 hl (fun h=>h)
     ·subst hv;subst hn0
      simp only [Nat.zero_mul,List.take_zero];exact .fznone
   ·cases h
  ·cases h
 ·simp only [Option.some.injEq] at h
  subst h
  have hx:v=.nilslice:=hx
  subst hx
  exact .fznil
 ·cases h
 ·split at h
  ·rename_i u b hu
   simp only [Option.some.injEq] at h
   subst h
   cases x with
   | o x=>
    simp only [argS] at hu
    split at hu
    ·simp only [Option.some.injEq,Prod.mk.injEq] at hu
     obtain ⟨rfl,rfl⟩:=hu
     obtain ⟨e,hc⟩:=(show v=_/\_ from hx)
     subst e
     exact .v (.nl hc) fun _ _ _ _ _ h=>h
    ·exact .v (thaw_of hE (show R2 ι rows x v from hx) hu) fun _ _ _ _ _ h=>h
   | agg cs=>
    obtain ⟨cs',e,hall⟩:=hx
    subst e
    simp only [argS] at hu
    split at hu
    ·rename_i ys b1 h1
     simp only [Option.some.injEq,Prod.mk.injEq] at hu
     obtain ⟨rfl,rfl⟩:=hu
     exact .agg (thaws_of hE hall h1) fun _ _ _ _ _ _ _ h=>h
    ·cases hu
  ·cases h
theorem leavesK_ok (hE:RowsE C ι rows H):∀ {ms:List Bool} {xs:List S3} {vs:List AV} {d:List RLeaf},All2 (R3 ι rows) xs vs->leavesK rows ms xs=some d->FzPlain d->All2 (LeafR H fun _=>False) vs d
 | [],[],[],d,_,h,_=>by simp only [leavesK,Option.some.injEq] at h;subst h;exact .nil
 | m::ms,x::xs,v::vs,d,.cons hx ht,h,hp=>by
  simp only [leavesK] at h
  split at h
  ·rename_i l ls h1 h2
   simp only [Option.some.injEq] at h;subst h
   have:FzPlain [l]/\FzPlain ls:=by
    cases l with
    | v u=>exact ⟨trivial,hp⟩
    | fz n cs=>exact ⟨⟨hp.1,trivial⟩,hp.2⟩
    | own e n cs=>exact ⟨⟨hp.1,trivial⟩,hp.2⟩
   exact .cons (leafK_ok hE hx h1 this.1) (leavesK_ok hE ht h2 this.2)
  ·cases h
theorem LeafR.mono {O O':Nat->Prop} {x:AV} {l:RLeaf} (h:LeafR H O x l) (h1:∀ r,O' r->O r) (h2:∀ r,O r->O' r):LeafR H O' x l:=by
 cases h with
 | v a b=>exact .v a fun r o n e he h=>b r o n e he (h1 _ h)
 | agg a b=>exact .agg a fun x hx r o n e he h=>b x hx r o n e he (h1 _ h)
 | fz a b c d=>exact .fz a b c fun h=>d (h1 _ h)
 | fzsub a b c d=>exact .fzsub a b c fun h=>d (h1 _ h)
 | fznone=>exact .fznone
 | fznil=>exact .fznil
 | own a b c d e=>exact .own a b c d (h2 _ e)
 | ownnil=>exact .ownnil
theorem owns_none:∀ {xs:List AV} {d:List RLeaf},All2 (LeafR H fun _=>False) xs d->ownsD xs d=[]
 | [],[],_=>rfl
 | x::xs,l::d,.cons hl ht=>by
  have ih:=owns_none ht
  cases hl with
  | v h1 h2=>cases x<;>exact ih
  | agg h1 h2=>exact ih
  | fz h1 h2 h3 h4=>exact ih
  | fznil=>exact ih
  | fzsub h1 h2 h3 h4=>exact ih
  | fznone=>exact ih
  | own hg hc hlen hn hO=>exact hO.elim
  | ownnil=>exact ih
theorem rowsE_nil:RowsE C ι [] Heap.empty:=⟨fun r row h=>by simp at h,fun r r' row row' h=>by simp at h,rfl,rfl⟩
theorem syms_rel:∀ {args':List AV},(∀ x∈args',ArgOk x)->All2 (RV ι rows) (args'.map symA) args'
 | [],_=>.nil
 | x::xs,h=>.cons (symA_rel (h x List.mem_cons_self)) (syms_rel fun y hy=>h y (List.mem_cons_of_mem _ hy))
theorem contract_of (hm:P.follows .mixedOrders=true) (hnum:NoNum P) (hT:TabOkX P T dom) {k:Nat} {g:FuncId} {args':List AV} {ms:List Bool} {d:List RLeaf}
  (h:(fsS P T dom jn N live asg k).call (List RLeaf) g (args'.map symA) [] (resK ms)=some d) (ha:∀ x∈args',ArgOk x) (hp:FzPlain d):Contract P g args' d:=by
 obtain ⟨y,H',ys,rows',ι',h1,h2,h3,h4⟩:=fsS_call hm hnum hT h (rowsE_nil (ι:=id)) (syms_rel ha)
 intro H args bor hn hb
 have fin:∀ xs:List AV,y=atuple xs->All2 (LeafR H' fun _=>False) xs d->CallOk P (fun _=>none) g args H (atuple (placeL d H).1) (placeL d H).2:=by
  intro xs e hl
  subst e
  have ho:=owns_none hl
  refine CallOk.place h1 (hl.mono fun x l hx=>hx.mono (fun r hr=>by rw [ho] at hr;cases hr) (fun r hr=>hr.elim)) (by rw [ho];exact List.nodup_nil) hn hb
 unfold resK at h4
 split at h4
 ·rename_i x m
  refine fin [y] rfl (leavesK_ok h2 (.cons h3 .nil) h4 hp)
 ·rename_i xs
  obtain ⟨vs,e,hall⟩:=h3
  refine fin vs ?_ (leavesK_ok h2 hall h4 hp)
  have:xs=[]:=by
   cases xs with
   | nil=>rfl
   | cons x xs=>cases h4
  subst this
  cases hall
  rw [e];rfl
 ·rename_i xs m m' ms
  obtain ⟨vs,e,hall⟩:=h3
  refine fin vs ?_ (leavesK_ok h2 hall h4 hp)
  match xs,vs,hall,h4 with
  | [],_,_,h4=>cases h4
  | [x],_,_,h4=>
   simp only [leavesK] at h4
   split at h4
   ·rename_i h5;cases h5
   ·cases h4
  | _::_::_,_::_::_,_,_=>rw [e];rfl
 ·cases h4
abbrev Ent:=List AV->(R:Type)->(List RLeaf->Option R)->Option R
end
end Go.Abs
end
noncomputable section
namespace Go.Abs
open Classical
theorem nat_beq' {a b:Nat} (h:Nat.beq a b=true):a=b:=Nat.eq_of_beq_eq_true h
def tabL:List (FuncId × Ent)->CTab
 | [],_,_,_,_=>none
 | (g',f)::l,g,args,R,K=>match Nat.beq g' g with
  | true=>f args R K
  | false=>tabL l g args R K
def domL:List (FuncId × Ent)->FuncId->Bool
 | [],_=>false
 | (g',_)::l,g=>match Nat.beq g' g with
  | true=>true
  | false=>domL l g
def EntOk (P:Program) (g:FuncId) (f:Ent):Prop:=
 ∀ (args':List AV) (R:Type) (K:List RLeaf->Option R) (r:R),(∀ x∈args',ArgOk x)->f args' R K=some r->
  ∃ d,(∀ (R':Type) (K':List RLeaf->Option R'),f args' R' K'=K' d)/\(∀ l∈d,LeafOk l)/\Contract P g args' d
def TabLOk (P:Program):List (FuncId × Ent)->Prop
 | []=>True
 | (g,f)::l=>EntOk P g f/\TabLOk P l
theorem tabL_ok {P:Program}:∀ {l:List (FuncId × Ent)},TabLOk P l->TabOkX P (tabL l) (domL l)
 | [],_=>fun g args' R K r hd ha h=>by cases h
 | (g',f)::l,hl=>by
  intro g args' R K r hd ha h
  simp only [tabL] at h ⊢
  cases hg:Nat.beq g' g with
  | true=>
   rw [hg] at h
   have:=nat_beq' hg
   subst this
   exact hl.1 args' R K r ha h
  | false=>
   rw [hg] at h
   simp only [domL,hg] at hd
   exact tabL_ok hl.2 g args' R K r hd ha h
def find2:List (Nat × Nat × Nat)->Nat->Nat × Nat
 | [],_=>(0,0)
 | (b,l,a)::xs,k=>match Nat.beq b k with
  | true=>(l,a)
  | false=>find2 xs k
def find1:List (Nat × List (Nat × Nat × Nat))->Nat->List (Nat × Nat × Nat)
 | [],_=>[]
 | (g,xs)::rest,k=>match Nat.beq g k with
  | true=>xs
  | false=>find1 rest k
def liveOf (m:List (Nat × List (Nat × Nat × Nat))) (g b:Nat):Nat:=(find2 (find1 m g) b).1
structure JoinE where
 fn:Nat
 /-- the variable that is asked, or the region's number -/
 at_:Nat
 live:Nat
 mask:Nat
 protos:List (Tmp × S3)
def setProtos:List (Tmp × S3)->SSt->SSt
 | [],s=>s
 | (t,x)::ps,s=>setProtos ps (match Nat.beq t 99999 with
  | true=>{ s with rows:=s.rows++[some (.vec true 0 1 0 [])] }
  | false=>{ s with tmps:=s.tmps.set t (.s x) })
def findJ:List JoinE->Nat->Nat->Option JoinW
 | [],_,_=>none
 | e::xs,g,t=>match Nat.beq e.fn g&&Nat.beq e.at_ t with
  | true=>some ⟨e.live,e.mask,fun s=>⟨[],[setProtos e.protos s]⟩⟩
  | false=>findJ xs g t
def hasNat2 (g b:Nat):List (Nat × Nat)->Bool
 | []=>false
 | (x,y)::xs=>(Nat.beq x g&&Nat.beq y b)||hasNat2 g b xs
def asgU (m:List (Nat × List (Nat × Nat × Nat))) (v:FuncId->Nat->Option (SSt->Vary)) (u:FuncId->Nat->Option (Tmp × Nat)) (p:FuncId->Bool) (j r:List JoinE) (d:List (Nat × Nat)) (g b:Nat):Asg:=⟨(find2 (find1 m g) b).2,v g b,u g b,p g,findJ j g,findJ r g,hasNat2 g b d⟩
end Go.Abs
end
