/- Part 5 of the library that the proof of the statement uses: an abstract run of the program, proved right, and what its functions give. -/
import Derived.Test.YtkloadomnblkeaaGreatDoorPt4
set_option linter.unusedVariables false
set_option linter.unusedSimpArgs false

noncomputable section
namespace Go.Abs
open Classical
def Contract (P:Program) (g:FuncId) (args':List AV) (d:List RLeaf):Prop:=
 ∀ (H:Heap) (args:List AV) (bor:Bool),normArgs H args=some (args',bor)->(bor=true->plainD d=true)->CallOk P (fun _=>none) g args H (atuple (placeL d H).1) (placeL d H).2
def symA:AV->SV
 | .agg cs=>.s (.agg (cs.map fun c=>.b (ofLeaf1 c)))
 | .func f [] []=>.s (.o (.fn f [] []))
 | .cptr cs off=>.ofB (.lptr cs off)
 | x=>.ofB (ofLeaf1 x)
def leafK (rows:Rows) (fz:Bool) (x:S3):Option RLeaf:=
 match fz,x with
 | true,.o (.b (.own r ver _))=>match rows[r]? with
  | some (some (.vec _ v _ n cs))=>match Nat.beq ver v with
   | true=>some (.fz n cs)
   | false=>none
  | _=>none
 | true,.o (.b (.sub r ver off n _))=>match rows[r]? with
  | some (some (.vec _ v es _ cs))=>match Nat.beq ver v with
   | true=>some (.fz n ((cs.drop (off*es)).take (n*es)))
   | false=>none
  | _=>none
 | true,.o (.b (.raw .nilslice))=>some (.fz 0 [])
 | true,_=>none
 | false,x=>match argS rows (.s x) with
  | some (u,_)=>some (.v u)
  | none=>none
def leavesK (rows:Rows):List Bool->List S3->Option (List RLeaf)
 | [],[]=>some []
 | m::ms,x::xs=>match leafK rows m x,leavesK rows ms xs with
  | some l,some ls=>some (l::ls)
  | _,_=>none
 | _,_=>none
def resK (ms:List Bool) (y:SV) (rows:Rows):Option (List RLeaf):=
 match y,ms with
 | .s x,[m]=>leavesK rows [m] [x]
 | .tuple xs,[]=>leavesK rows [] xs
 | .tuple xs,m::m'::ms=>leavesK rows (m::m'::ms) xs
 | _,_=>none
def FzPlain:List RLeaf->Prop
 | []=>True
 | .fz _ cs::ls=>(∀ c∈cs,PlainC c)/\FzPlain ls
 | .own _ _ cs::ls=>(∀ c∈cs,PlainC c)/\FzPlain ls
 | .v _::ls=>FzPlain ls
section
variable {P : Program} {T : CTab} {dom jn : FuncId → Bool} {N : Nat} {live : FuncId → Nat → Nat} {asg : FuncId → Nat → Asg} {C : Codes} {ι : Nat → Nat} {rows : Rows} {H : Heap}
theorem symA_rel {x:AV} (h:ArgOk x):RV ι rows (symA x) x:=by
 unfold symA
 split
 ·rename_i cs
  refine ⟨cs,rfl,?_⟩
  have:=All2.of_map (R:=R2 ι rows) (fun c=>.b (ofLeaf1 c)) id cs fun c hc=>(ofLeaf1_rel (x:=c) fun n cs' e=>by
   have:=h c hc
   subst e
   exact this)
  simpa using this
 ·exact ⟨[],[],rfl,.nil,.nil⟩
 ·exact ⟨rfl,h⟩
 ·exact ofLeaf1_rel fun n cs e=>by subst e;exact h
theorem thaw_of (hE:RowsE C ι rows H) {x:S2} {v u:AV} {b:Bool} (hx:R2 ι rows x v) (h:argC rows x=some (u,b)):Thaw H v u:=by
 unfold argC at h
 split at h
 ·rename_i x
  split at h
  ·rename_i q ver esz
   split at h
   ·rename_i nb v' es n cs hrow
    split at h
    ·rename_i hver
     have hver:=Nat.eq_of_beq_eq_true hver
     subst hver
     simp only [Option.some.injEq,Prod.mk.injEq] at h
     obtain ⟨rfl,rfl⟩:=h
     have hx:R1 ι rows (.own q ver esz) v:=hx
     obtain ⟨e,hv⟩:=(hx.2 _ _ _ _ (sg_vec hrow)).2 rfl
     obtain ⟨g1,g2,g3⟩:=hE.row _ _ hrow
     subst e
     subst hv
     unfold ownAV
     by_cases hn:nb=true/\n=0
     ·rw [if_pos hn]
      have:cs=[]:=by rw [hn.2,Nat.zero_mul] at g1;exact List.eq_nil_of_length_eq_zero g1
      rw [hn.2,this];exact .nil
     ·rw [if_neg hn]
      exact .slice (g3 hn) g2 g1
    ·cases h
   ·cases h
  ·rename_i q ver off n esz
   split at h
   ·rename_i nb v' es m cs hrow
    split at h
    ·rename_i hver
     have hver:=Nat.eq_of_beq_eq_true hver
     subst hver
     simp only [Option.some.injEq,Prod.mk.injEq] at h
     obtain ⟨rfl,rfl⟩:=h
     have hx:R1 ι rows (.sub q ver off n esz) v:=hx
     obtain ⟨e,hle,hv⟩:=(hx.2 _ _ _ _ (sg_vec hrow)).2 rfl
     obtain ⟨g1,g2,g3⟩:=hE.row _ _ hrow
     subst e
     have hl:off*esz+n*esz<=cs.length:=by rw [g1,←Nat.add_mul];exact Nat.mul_le_mul_right _ hle
     unfold SubV at hv
     split at hv
     ·rename_i hn
      have:n=0:=by omega
      subst hv;subst this
      simp only [Nat.zero_mul,List.take_zero];exact .nil
     ·rename_i hn
      rcases hv with hv | ⟨hn0,hv⟩
      ·subst hv;exact .sub (g3 hn) g2 hl
      ·subst hv;subst hn0
       simp only [Nat.zero_mul,List.take_zero];exact .same (.list 0 [] fun x hx=>(by cases hx))
    ·cases h
   ·cases h
  ·rename_i q off n esz
   split at h
   ·rename_i cs hrow
    split at h
    ·rename_i us hus
     split at h
     ·rename_i hb
      rw [Nat.ble_eq] at hb
      simp only [Option.some.injEq,Prod.mk.injEq] at h
      obtain ⟨rfl,rfl⟩:=h
      have hx:R1 ι rows (.lsub q off n esz) v:=hx
      have hv:=hx.2 (sg_lit hrow)
      subst hv
      obtain ⟨cs',g1,g2⟩:=hE.row _ _ hrow
      obtain ⟨e,hc⟩:=toCells_rel g2 hus
      subst e
      exact .sub g1 hc hb
     ·cases h
    ·cases h
   ·cases h
  ·have hx:v=.nilslice:=hx
   simp only [Option.some.injEq,Prod.mk.injEq] at h
   obtain ⟨rfl,rfl⟩:=h
   rw [hx];exact .nil
  ·have hx:v=.nilptr:=hx
   simp only [Option.some.injEq,Prod.mk.injEq] at h
   obtain ⟨rfl,rfl⟩:=h
   rw [hx];exact .same .nilptr
  ·have hx:v=.nilFunc:=hx
   simp only [Option.some.injEq,Prod.mk.injEq] at h
   obtain ⟨rfl,rfl⟩:=h
   rw [hx];exact .same .nilFunc
  ·rename_i cs off
   have hx:R1 ι rows (.lptr cs off) v:=hx
   simp only [Option.some.injEq,Prod.mk.injEq] at h
   obtain ⟨rfl,rfl⟩:=h
   rw [hx.1];exact .same (.cptr _ _ fun x hx'=>(hx.2 x hx').pure)
  ·split at h
   ·rename_i u hu
    simp only [Option.some.injEq,Prod.mk.injEq] at h
    obtain ⟨rfl,rfl⟩:=h
    obtain ⟨e,hc⟩:=toAV_rel (show R1 ι rows _ v from hx) hu
    rw [e];exact .same hc.pure
   ·cases h
 ·split at h
  ·rename_i f
   simp only [Option.some.injEq,Prod.mk.injEq] at h
   obtain ⟨rfl,rfl⟩:=h
   obtain ⟨first',cap',e,h1,h2⟩:=hx
   cases h1;cases h2
   rw [e];exact .same (.func _ _ _ (by simp) (by simp))
  ·cases h
theorem thaws_of (hE:RowsE C ι rows H):∀ {xs:List S2} {vs us:List AV} {b:Bool},All2 (R2 ι rows) xs vs->argCs rows xs=some (us,b)->All2 (Thaw H) vs us
 | [],[],us,b,_,h=>by simp only [argCs,Option.some.injEq,Prod.mk.injEq] at h;obtain ⟨rfl,rfl⟩:=h;exact .nil
 | x::xs,v::vs,us,b,.cons hx ht,h=>by
  simp only [argCs] at h
  split at h
  ·rename_i y b1 ys b2 h1 h2
   simp only [Option.some.injEq,Prod.mk.injEq] at h
   obtain ⟨rfl,rfl⟩:=h
   exact .cons (thaw_of hE hx h1) (thaws_of hE ht h2)
  ·cases h
theorem leafK_ok (hE:RowsE C ι rows H) {m:Bool} {x:S3} {v:AV} {l:RLeaf} (hx:R3 ι rows x v) (h:leafK rows m x=some l) (hp:FzPlain [l]):LeafR H (fun _=>False) v l:=by
 unfold leafK at h
 split at h
 ·rename_i q ver esz
  split at h
  ·rename_i nb v' es n cs hrow
   split at h
   ·rename_i hver
    have hver:=Nat.eq_of_beq_eq_true hver
    subst hver
    simp only [Option.some.injEq] at h
    subst h
    have hx:R1 ι rows (.own q ver esz) v:=hx
    obtain ⟨e,hv⟩:=(hx.2 _ _ _ _ (sg_vec hrow)).2 rfl
    obtain ⟨g1,g2,g3⟩:=hE.row _ _ hrow
    subst e
    subst hv
    unfold ownAV
    by_cases hn:nb=true/\n=0
    ·rw [if_pos hn]
     have:cs=[]:=by rw [hn.2,Nat.zero_mul] at g1;exact List.eq_nil_of_length_eq_zero g1
     rw [hn.2,this];exact .fznil
    ·rw [if_neg hn]
     exact .fz (g3 hn) hp.1 g1 (fun h=>h)
   ·cases h
  ·cases h
 ·rename_i q ver off n esz
  split at h
  ·rename_i nb v' es m cs hrow
   split at h
   ·rename_i hver
    have hver:=Nat.eq_of_beq_eq_true hver
    subst hver
    simp only [Option.some.injEq] at h
    subst h
    have hx:R1 ι rows (.sub q ver off n esz) v:=hx
    obtain ⟨e,hle,hv⟩:=(hx.2 _ _ _ _ (sg_vec hrow)).2 rfl
    obtain ⟨g1,g2,g3⟩:=hE.row _ _ hrow
    subst e
    have hl:off*esz+n*esz<=cs.length:=by rw [g1,←Nat.add_mul];exact Nat.mul_le_mul_right _ hle
    unfold SubV at hv
    split at hv
    ·rename_i hn
     have:n=0:=by omega
     subst hv;subst this
     simp only [Nat.zero_mul,List.take_zero];exact .fznil
    ·rename_i hn
     rcases hv with hv | ⟨hn0,hv⟩
     ·subst hv;exact .fzsub (g3 hn) hp.1 hl (fun h=>h)
     ·subst hv;subst hn0
      simp only [Nat.zero_mul,List.take_zero];exact .fznone
   ·cases h
  ·cases h
 ·simp only [Option.some.injEq] at h
  subst h
  have hx:v=.nilslice:=hx
  subst hx
  exact .fznil
 ·cases h
 ·split at h
  ·rename_i u b hu
   simp only [Option.some.injEq] at h
   subst h
   cases x with
   | o x=>exact .v (thaw_of hE (show R2 ι rows x v from hx) hu) fun _ _ _ _ _ h=>h
   | agg cs=>
    obtain ⟨cs',e,hall⟩:=hx
    subst e
    simp only [argS] at hu
    split at hu
    ·rename_i ys b1 h1
     simp only [Option.some.injEq,Prod.mk.injEq] at hu
     obtain ⟨rfl,rfl⟩:=hu
     exact .agg (thaws_of hE hall h1) fun _ _ _ _ _ _ _ h=>h
    ·cases hu
  ·cases h
theorem leavesK_ok (hE:RowsE C ι rows H):∀ {ms:List Bool} {xs:List S3} {vs:List AV} {d:List RLeaf},All2 (R3 ι rows) xs vs->leavesK rows ms xs=some d->FzPlain d->All2 (LeafR H fun _=>False) vs d
 | [],[],[],d,_,h,_=>by simp only [leavesK,Option.some.injEq] at h;subst h;exact .nil
 | m::ms,x::xs,v::vs,d,.cons hx ht,h,hp=>by
  simp only [leavesK] at h
  split at h
  ·rename_i l ls h1 h2
   simp only [Option.some.injEq] at h;subst h
   have:FzPlain [l]/\FzPlain ls:=by
    cases l with
    | v u=>exact ⟨trivial,hp⟩
    | fz n cs=>exact ⟨⟨hp.1,trivial⟩,hp.2⟩
    | own e n cs=>exact ⟨⟨hp.1,trivial⟩,hp.2⟩
   exact .cons (leafK_ok hE hx h1 this.1) (leavesK_ok hE ht h2 this.2)
  ·cases h
theorem LeafR.mono {O O':Nat->Prop} {x:AV} {l:RLeaf} (h:LeafR H O x l) (h1:∀ r,O' r->O r) (h2:∀ r,O r->O' r):LeafR H O' x l:=by
 cases h with
 | v a b=>exact .v a fun r o n e he h=>b r o n e he (h1 _ h)
 | agg a b=>exact .agg a fun x hx r o n e he h=>b x hx r o n e he (h1 _ h)
 | fz a b c d=>exact .fz a b c fun h=>d (h1 _ h)
 | fzsub a b c d=>exact .fzsub a b c fun h=>d (h1 _ h)
 | fznone=>exact .fznone
 | fznil=>exact .fznil
 | own a b c d e=>exact .own a b c d (h2 _ e)
 | ownnil=>exact .ownnil
theorem owns_none:∀ {xs:List AV} {d:List RLeaf},All2 (LeafR H fun _=>False) xs d->ownsD xs d=[]
 | [],[],_=>rfl
 | x::xs,l::d,.cons hl ht=>by
  have ih:=owns_none ht
  cases hl with
  | v h1 h2=>cases x<;>exact ih
  | agg h1 h2=>exact ih
  | fz h1 h2 h3 h4=>exact ih
  | fznil=>exact ih
  | fzsub h1 h2 h3 h4=>exact ih
  | fznone=>exact ih
  | own hg hc hlen hn hO=>exact hO.elim
  | ownnil=>exact ih
theorem rowsE_nil:RowsE C ι [] Heap.empty:=⟨fun r row h=>by simp at h,fun r r' row row' h=>by simp at h,rfl,rfl⟩
theorem syms_rel:∀ {args':List AV},(∀ x∈args',ArgOk x)->All2 (RV ι rows) (args'.map symA) args'
 | [],_=>.nil
 | x::xs,h=>.cons (symA_rel (h x List.mem_cons_self)) (syms_rel fun y hy=>h y (List.mem_cons_of_mem _ hy))
theorem contract_of (hm:P.follows .mixedOrders=true) (hnum:NoNum P) (hT:TabOkX P T dom) {k:Nat} {g:FuncId} {args':List AV} {ms:List Bool} {d:List RLeaf}
  (h:(fsS P T dom jn N live asg k).call (List RLeaf) g (args'.map symA) [] (resK ms)=some d) (ha:∀ x∈args',ArgOk x) (hp:FzPlain d):Contract P g args' d:=by
 obtain ⟨y,H',ys,rows',ι',h1,h2,h3,h4⟩:=fsS_call hm hnum hT h (rowsE_nil (ι:=id)) (syms_rel ha)
 intro H args bor hn hb
 have fin:∀ xs:List AV,y=atuple xs->All2 (LeafR H' fun _=>False) xs d->CallOk P (fun _=>none) g args H (atuple (placeL d H).1) (placeL d H).2:=by
  intro xs e hl
  subst e
  have ho:=owns_none hl
  refine CallOk.place h1 (hl.mono fun x l hx=>hx.mono (fun r hr=>by rw [ho] at hr;cases hr) (fun r hr=>hr.elim)) (by rw [ho];exact List.nodup_nil) hn hb
 unfold resK at h4
 split at h4
 ·rename_i x m
  refine fin [y] rfl (leavesK_ok h2 (.cons h3 .nil) h4 hp)
 ·rename_i xs
  obtain ⟨vs,e,hall⟩:=h3
  refine fin vs ?_ (leavesK_ok h2 hall h4 hp)
  have:xs=[]:=by
   cases xs with
   | nil=>rfl
   | cons x xs=>cases h4
  subst this
  cases hall
  rw [e];rfl
 ·rename_i xs m m' ms
  obtain ⟨vs,e,hall⟩:=h3
  refine fin vs ?_ (leavesK_ok h2 hall h4 hp)
  match xs,vs,hall,h4 with
  | [],_,_,h4=>cases h4
  | [x],_,_,h4=>
   simp only [leavesK] at h4
   split at h4
   ·rename_i h5;cases h5
   ·cases h4
  | _::_::_,_::_::_,_,_=>rw [e];rfl
 ·cases h4
abbrev Ent:=List AV->(R:Type)->(List RLeaf->Option R)->Option R
end
end Go.Abs
end
noncomputable section
namespace Go.Abs
open Classical
theorem nat_beq' {a b:Nat} (h:Nat.beq a b=true):a=b:=Nat.eq_of_beq_eq_true h
def tabL:List (FuncId × Ent)->CTab
 | [],_,_,_,_=>none
 | (g',f)::l,g,args,R,K=>match Nat.beq g' g with
  | true=>f args R K
  | false=>tabL l g args R K
def domL:List (FuncId × Ent)->FuncId->Bool
 | [],_=>false
 | (g',_)::l,g=>match Nat.beq g' g with
  | true=>true
  | false=>domL l g
def EntOk (P:Program) (g:FuncId) (f:Ent):Prop:=
 ∀ (args':List AV) (R:Type) (K:List RLeaf->Option R) (r:R),(∀ x∈args',ArgOk x)->f args' R K=some r->
  ∃ d,(∀ (R':Type) (K':List RLeaf->Option R'),f args' R' K'=K' d)/\(∀ l∈d,LeafOk l)/\Contract P g args' d
def TabLOk (P:Program):List (FuncId × Ent)->Prop
 | []=>True
 | (g,f)::l=>EntOk P g f/\TabLOk P l
theorem tabL_ok {P:Program}:∀ {l:List (FuncId × Ent)},TabLOk P l->TabOkX P (tabL l) (domL l)
 | [],_=>fun g args' R K r hd ha h=>by cases h
 | (g',f)::l,hl=>by
  intro g args' R K r hd ha h
  simp only [tabL] at h ⊢
  cases hg:Nat.beq g' g with
  | true=>
   rw [hg] at h
   have:=nat_beq' hg
   subst this
   exact hl.1 args' R K r ha h
  | false=>
   rw [hg] at h
   simp only [domL,hg] at hd
   exact tabL_ok hl.2 g args' R K r hd ha h
def find2:List (Nat × Nat × Nat)->Nat->Nat × Nat
 | [],_=>(0,0)
 | (b,l,a)::xs,k=>match Nat.beq b k with
  | true=>(l,a)
  | false=>find2 xs k
def find1:List (Nat × List (Nat × Nat × Nat))->Nat->List (Nat × Nat × Nat)
 | [],_=>[]
 | (g,xs)::rest,k=>match Nat.beq g k with
  | true=>xs
  | false=>find1 rest k
def liveOf (m:List (Nat × List (Nat × Nat × Nat))) (g b:Nat):Nat:=(find2 (find1 m g) b).1
structure JoinE where
 fn:Nat
 /-- the variable that is asked, or the region's number -/
 at_:Nat
 live:Nat
 mask:Nat
 protos:List (Tmp × S3)
def setProtos:List (Tmp × S3)->SSt->SSt
 | [],s=>s
 | (t,x)::ps,s=>setProtos ps { s with tmps:=s.tmps.set t (.s x) }
def findJ:List JoinE->Nat->Nat->Option JoinW
 | [],_,_=>none
 | e::xs,g,t=>match Nat.beq e.fn g&&Nat.beq e.at_ t with
  | true=>some ⟨e.live,e.mask,fun s=>⟨[],[setProtos e.protos s]⟩⟩
  | false=>findJ xs g t
def hasNat2 (g b:Nat):List (Nat × Nat)->Bool
 | []=>false
 | (x,y)::xs=>(Nat.beq x g&&Nat.beq y b)||hasNat2 g b xs
def asgU (m:List (Nat × List (Nat × Nat × Nat))) (v:FuncId->Nat->Option (SSt->Vary)) (u:FuncId->Nat->Option (Tmp × Nat)) (p:FuncId->Bool) (j r:List JoinE) (d:List (Nat × Nat)) (g b:Nat):Asg:=⟨(find2 (find1 m g) b).2,v g b,u g b,p g,findJ j g,findJ r g,hasNat2 g b d⟩
end Go.Abs
end
