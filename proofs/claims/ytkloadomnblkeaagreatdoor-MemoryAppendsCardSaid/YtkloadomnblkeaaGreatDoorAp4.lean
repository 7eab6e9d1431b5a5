/- Part 4 of the library of the proof: an abstract run of the program. -/
import Derived.Test.YtkloadomnblkeaaGreatDoorAp2
set_option linter.unusedVariables false
set_option linter.unusedSimpArgs false

noncomputable section
namespace Go.Abs
inductive All2 {α β:Type} (R:α->β->Prop):List α->List β->Prop
 | nil:All2 R [] []
 | cons {x:α} {y:β} {xs:List α} {ys:List β} (h:R x y) (t:All2 R xs ys):All2 R (x::xs) (y::ys)
section
variable {α β : Type} {R S : α → β → Prop}
theorem All2.mono (hRS:∀ x y,R x y->S x y) {xs:List α} {ys:List β} (h:All2 R xs ys):All2 S xs ys:=by
 induction h with
 | nil=>exact .nil
 | cons h _ ih=>exact .cons (hRS _ _ h) ih
theorem All2.length {xs:List α} {ys:List β} (h:All2 R xs ys):xs.length=ys.length:=by
 induction h with
 | nil=>rfl
 | cons _ _ ih=>simp [ih]
theorem All2.get {xs:List α} {ys:List β} (h:All2 R xs ys):∀ {j:Nat} {x:α},xs[j]?=some x->∃ y,ys[j]?=some y/\R x y:=by
 induction h with
 | nil=>intro j x h;simp at h
 | @cons x y xs ys h _ ih=>
  intro j z hz
  cases j with
  | zero=>simp at hz;subst hz;exact ⟨y,rfl,h⟩
  | succ j=>exact ih (by simpa using hz)
theorem All2.get' {xs:List α} {ys:List β} (h:All2 R xs ys):∀ {j:Nat} {y:β},ys[j]?=some y->∃ x,xs[j]?=some x/\R x y:=by
 induction h with
 | nil=>intro j x h;simp at h
 | @cons x y xs ys h _ ih=>
  intro j z hz
  cases j with
  | zero=>simp at hz;subst hz;exact ⟨x,rfl,h⟩
  | succ j=>exact ih (by simpa using hz)
theorem All2.append {xs xs':List α} {ys ys':List β} (h:All2 R xs ys) (k:All2 R xs' ys'):All2 R (xs++xs') (ys++ys'):=by
 induction h with
 | nil=>exact k
 | cons h _ ih=>exact .cons h ih
theorem All2.set {xs:List α} {ys:List β} (h:All2 R xs ys) {x:α} {y:β} (hxy:R x y):∀ (n:Nat),All2 R (xs.set n x) (ys.set n y):=by
 induction h with
 | nil=>intro n;exact .nil
 | cons h t ih=>
  intro n
  cases n with
  | zero=>exact .cons hxy t
  | succ n=>exact .cons h (ih n)
theorem All2.take {xs:List α} {ys:List β} (h:All2 R xs ys):∀ (n:Nat),All2 R (xs.take n) (ys.take n):=by
 induction h with
 | nil=>intro n;simp;exact .nil
 | cons h t ih=>
  intro n
  cases n with
  | zero=>exact .nil
  | succ n=>exact .cons h (ih n)
theorem All2.drop {xs:List α} {ys:List β} (h:All2 R xs ys):∀ (n:Nat),All2 R (xs.drop n) (ys.drop n):=by
 induction h with
 | nil=>intro n;simp;exact .nil
 | cons h t ih=>
  intro n
  cases n with
  | zero=>exact .cons h t
  | succ n=>exact ih n
theorem All2.replicate {x:α} {y:β} (h:R x y):∀ (n:Nat),All2 R (List.replicate n x) (List.replicate n y)
 | 0=>.nil
 | n+1=>.cons h (All2.replicate h n)
theorem All2.of_map {γ:Type} (f:γ->α) (g:γ->β):∀ (l:List γ),(∀ z∈l,R (f z) (g z))->All2 R (l.map f) (l.map g)
 | [],_=>.nil
 | z::l,h=>.cons (h z (List.mem_cons_self)) (All2.of_map f g l fun z hz=>h z (List.mem_cons_of_mem _ hz))
end
inductive Cell:AV->Prop
 | bool (b:Bool):Cell (.bool b)
 | int (k:IntKind) (n:Int):Cell (.int k n)
 | flo (k:FloatKind) (o:Option Nat):Cell (.flo k o)
 | string (s:ByteArray):Cell (.string s)
 | list (len:Nat) (cells:List AV) (h:∀ x∈cells,Cell x):Cell (.list len cells)
 | nl (len:Nat) (cells:List AV) (h:∀ x∈cells,Cell x):Cell (.nl len cells)
theorem Cell.one {x:AV} (h:Cell x):x.one=true:=by cases h<;>rfl
theorem Cell.pure {x:AV} (h:Cell x):Pure x:=by
 induction h with
 | bool b=>exact .bool b
 | int k n=>exact .int k n
 | flo k o=>cases o;exact .nan k;exact .float k _
 | string s=>exact .string s
 | list len cells _ ih=>exact .list len cells ih
 | nl len cells _ ih=>exact .nl len cells ih
inductive S1 where
 | top
 | bool (b:Bool)
 | int (k:IntKind) (n:Int)
 | flo (k:FloatKind) (o:Option Nat)
 | string (s:ByteArray)
 | list (n:Nat) (cs:List AV)
 | nl (n:Nat) (cs:List AV)
 | lptr (cs:List AV) (off:Nat)
 | own (r ver esz:Nat)
 | ptr (r off:Nat)
 | eptr (r ver off:Nat)
 | sub (r ver off n esz:Nat)
 | lsub (r off n esz:Nat)
 | yield (r:Nat)
 | mp (r:Nat)
 | raw (x:AV)
inductive S2 where
 | b (x:S1)
 | fn (f:FuncId) (first cap:List S1)
inductive S3 where
 | o (x:S2)
 | agg (cs:List S2)
inductive SV where
 | s (x:S3)
 | tuple (xs:List S3)
abbrev Codes:=FuncId->List Nat->Option Code
structure SLoop where
 state:LoopState
 pending:Option Code
 tmps:List SV
 fn:FuncId
 path:List Nat
 defers:Nat
inductive SRow where
 | lit (cs:List S2)
 | vec (nb:Bool) (ver esz n:Nat) (cs:List AV)
 | ice (nb:Bool) (ver esz n:Nat)
 | dict (es:List (AV × AV × Nat)) (clock:Nat)
 | loop (L:SLoop)
 | deferred
abbrev Rows:=List (Option SRow)
def sg (rows:Rows) (r:Nat):Option (Bool × Nat × Nat × Nat):=
 match rows[r]? with
 | some (some (.vec nb ver esz n _))=>some (nb,ver,esz,n)
 | some (some (.ice nb ver esz n))=>some (nb,ver,esz,n)
 | _=>none
def ownAV (b:Nat) (nb:Bool) (esz n:Nat):AV:=if nb=true/\n=0 then .nilslice else .slice b 0 n esz
def SubV (b:Nat) (nb:Bool) (esz m off n:Nat) (v:AV):Prop:=if nb=true/\m=0 then v=.nilslice else (v=.slice b (off*esz) n esz\/(n=0/\v=.list 0 []))
def R1 (ι:Nat->Nat) (rows:Rows):S1->AV->Prop
 | .top,_=>True
 | .bool b,v=>v=.bool b
 | .int k n,v=>v=.int k n
 | .flo k o,v=>v=.flo k o
 | .string s,v=>v=.string s
 | .list n cs,v=>v=.list n cs/\∀ x∈cs,Cell x
 | .nl n cs,v=>v=.nl n cs/\∀ x∈cs,Cell x
 | .lptr cs off,v=>v=.cptr cs off/\∀ x∈cs,Cell x
 | .own r ver esz,v=>r<rows.length/\∀ nb ver' esz' n,sg rows r=some (nb,ver',esz',n)->ver<=ver'/\(ver=ver'->esz=esz'/\v=ownAV (ι r) nb esz n)
 | .ptr r off,v=>r<rows.length/\(sg rows r=none->v=.ptr (ι r) off)
 | .eptr r ver off,v=>r<rows.length/\∀ nb ver' esz' n,sg rows r=some (nb,ver',esz',n)->ver<=ver'/\(ver=ver'->v=.ptr (ι r) off)
 | .sub r ver off n esz,v=>r<rows.length/\∀ nb ver' esz' m,sg rows r=some (nb,ver',esz',m)->ver<=ver'/\(ver=ver'->esz=esz'/\off+n<=m/\SubV (ι r) nb esz m off n v)
 | .lsub r off n esz,v=>r<rows.length/\(sg rows r=none->v=.slice (ι r) off n esz)
 | .yield r,v=>r<rows.length/\(sg rows r=none->v=.yield (ι r))
 | .mp r,v=>r<rows.length/\(sg rows r=none->v=.map (ι r))
 | .raw x,v=>v=x
def R2 (ι:Nat->Nat) (rows:Rows):S2->AV->Prop
 | .b x,v=>R1 ι rows x v
 | .fn f first cap,v=>∃ first' cap',v=.func f first' cap'/\All2 (R1 ι rows) first first'/\All2 (R1 ι rows) cap cap'
def R3 (ι:Nat->Nat) (rows:Rows):S3->AV->Prop
 | .o x,v=>R2 ι rows x v
 | .agg cs,v=>∃ cs',v=.agg cs'/\All2 (R2 ι rows) cs cs'
def RV (ι:Nat->Nat) (rows:Rows):SV->AV->Prop
 | .s x,v=>R3 ι rows x v
 | .tuple xs,v=>∃ xs',v=.tuple xs'/\All2 (R3 ι rows) xs xs'
structure Le (ι:Nat->Nat) (rows:Rows) (ι':Nat->Nat) (rows':Rows):Prop where
 len:rows.length<=rows'.length
 one:∀ x v,R1 ι rows x v->R1 ι' rows' x v
 st:∀ r,r<rows.length->sg rows r=none->sg rows' r=none/\ι' r=ι r
theorem Le.refl (ι:Nat->Nat) (rows:Rows):Le ι rows ι rows:=⟨Nat.le_refl _,fun _ _ h=>h,fun _ _ h=>⟨h,rfl⟩⟩
section
variable {ι ι' ι'' : Nat → Nat} {rows rows' rows'' : Rows}
theorem Le.trans (h:Le ι rows ι' rows') (k:Le ι' rows' ι'' rows''):Le ι rows ι'' rows'':=⟨Nat.le_trans h.len k.len,fun x v hx=>k.one x v (h.one x v hx),fun r hr h0=>by
 obtain ⟨a,b⟩:=h.st r hr h0
 obtain ⟨c,d⟩:=k.st r (Nat.lt_of_lt_of_le hr h.len) a
 exact ⟨c,d.trans b⟩⟩
theorem Le.r2 (h:Le ι rows ι' rows') {x:S2} {v:AV} (hx:R2 ι rows x v):R2 ι' rows' x v:=by
 cases x with
 | b x=>exact h.one x v hx
 | fn f first cap=>
  obtain ⟨a,b,e,h1,h2⟩:=hx
  exact ⟨a,b,e,h1.mono h.one,h2.mono h.one⟩
theorem Le.r3 (h:Le ι rows ι' rows') {x:S3} {v:AV} (hx:R3 ι rows x v):R3 ι' rows' x v:=by
 cases x with
 | o x=>exact h.r2 (x:=x) hx
 | agg cs=>
  obtain ⟨a,e,h1⟩:=hx
  exact ⟨a,e,h1.mono fun _ _=>h.r2⟩
theorem Le.rv (h:Le ι rows ι' rows') {x:SV} {v:AV} (hx:RV ι rows x v):RV ι' rows' x v:=by
 cases x with
 | s x=>exact h.r3 (x:=x) hx
 | tuple xs=>
  obtain ⟨a,e,h1⟩:=hx
  exact ⟨a,e,h1.mono fun _ _=>h.r3⟩
theorem Le.of (hl:rows.length<=rows'.length)
  (hr:∀ r,r<rows.length->(ι' r=ι r/\sg rows' r=sg rows r)\/(∃ nb ver esz n nb' ver' esz' n',sg rows r=some (nb,ver,esz,n)/\sg rows' r=some (nb',ver',esz',n')/\ver<ver')):Le ι rows ι' rows':=by
 refine ⟨hl,fun x v hx=>?_,fun r hr0 h0=>by
  rcases hr r hr0 with ⟨e1,e2⟩ | ⟨nb0,v0,e0,n0,nb1,v1,e1,n1,k1,k2,k3⟩
  ·exact ⟨by rw [e2];exact h0,e1⟩
  ·rw [k1] at h0;cases h0⟩
 cases x with
 | own r ver esz=>
  obtain ⟨h1,h2⟩:=hx
  refine ⟨by omega,fun nb ver' esz' n hs=>?_⟩
  rcases hr r h1 with ⟨e1,e2⟩ | ⟨nb0,v0,e0,n0,nb1,v1,e1,n1,k1,k2,k3⟩
  ·rw [e2] at hs;rw [e1];exact h2 _ _ _ _ hs
  ·rw [k2] at hs;cases hs
   have:=(h2 _ _ _ _ k1).1
   exact ⟨by omega,fun e=>by omega⟩
 | eptr r ver off=>
  obtain ⟨h1,h2⟩:=hx
  refine ⟨by omega,fun nb ver' esz' n hs=>?_⟩
  rcases hr r h1 with ⟨e1,e2⟩ | ⟨nb0,v0,e0,n0,nb1,v1,e1,n1,k1,k2,k3⟩
  ·rw [e2] at hs;rw [e1];exact h2 _ _ _ _ hs
  ·rw [k2] at hs;cases hs
   have:=(h2 _ _ _ _ k1).1
   exact ⟨by omega,fun e=>by omega⟩
 | ptr r off=>
  obtain ⟨h1,h2⟩:=hx
  refine ⟨by omega,fun hs=>?_⟩
  rcases hr r h1 with ⟨e1,e2⟩ | ⟨nb0,v0,e0,n0,nb1,v1,e1,n1,k1,k2,k3⟩
  ·rw [e2] at hs;rw [e1];exact h2 hs
  ·rw [k2] at hs;cases hs
 | sub r ver o0 k0 esz=>
  obtain ⟨h1,h2⟩:=hx
  refine ⟨by omega,fun nb ver' esz' n hs=>?_⟩
  rcases hr r h1 with ⟨e1,e2⟩ | ⟨nb0,v0,e0,n0,nb1,v1,e1,n1,k1,k2,k3⟩
  ·rw [e2] at hs;rw [e1];exact h2 _ _ _ _ hs
  ·rw [k2] at hs;cases hs
   have:=(h2 _ _ _ _ k1).1
   exact ⟨by omega,fun e=>by omega⟩
 | lsub r o0 k0 esz=>
  obtain ⟨h1,h2⟩:=hx
  refine ⟨by omega,fun hs=>?_⟩
  rcases hr r h1 with ⟨e1,e2⟩ | ⟨nb0,v0,e0,n0,nb1,v1,e1,n1,k1,k2,k3⟩
  ·rw [e2] at hs;rw [e1];exact h2 hs
  ·rw [k2] at hs;cases hs
 | yield r=>
  obtain ⟨h1,h2⟩:=hx
  refine ⟨by omega,fun hs=>?_⟩
  rcases hr r h1 with ⟨e1,e2⟩ | ⟨nb0,v0,e0,n0,nb1,v1,e1,n1,k1,k2,k3⟩
  ·rw [e2] at hs;rw [e1];exact h2 hs
  ·rw [k2] at hs;cases hs
 | mp r=>
  obtain ⟨h1,h2⟩:=hx
  refine ⟨by omega,fun hs=>?_⟩
  rcases hr r h1 with ⟨e1,e2⟩ | ⟨nb0,v0,e0,n0,nb1,v1,e1,n1,k1,k2,k3⟩
  ·rw [e2] at hs;rw [e1];exact h2 hs
  ·rw [k2] at hs;cases hs
 | _=>exact hx
end
def RowR (C:Codes) (ι:Nat->Nat) (rows:Rows) (H:Heap) (r:Nat):SRow->Prop
 | .lit cs=>∃ cs',H.get (ι r)=some (.cells cs')/\All2 (R2 ι rows) cs cs'
 | .vec nb _ esz n cs=>cs.length=n*esz/\(∀ x∈cs,Cell x)/\(¬ (nb=true/\n=0)->H.get (ι r)=some (.cells cs))
 | .ice _ _ _ _=>True
 | .dict es clock=>H.get (ι r)=some (.map es clock)
 | .loop L=>∃ L':ALoop,H.get (ι r)=some (.loop L')/\L'.state=L.state/\L'.pending=L.pending/\(∃ g,C L.fn L.path=some (.rangeFunc g L'.params L'.assign L'.body))/\
   All2 (RV ι rows) L.tmps L'.tmps/\L.defers<rows.length/\sg rows L.defers=none/\L'.defers=ι L.defers
 | .deferred=>H.get (ι r)=some .deferred
def SRow.real:SRow->Prop
 | .vec nb _ _ n _=>¬ (nb=true/\n=0)
 | .ice _ _ _ _=>False
 | _=>True
structure RowsE (C:Codes) (ι:Nat->Nat) (rows:Rows) (H:Heap):Prop where
 row:∀ r row,rows[r]?=some (some row)->RowR C ι rows H r row
 inj:∀ r r' row row',rows[r]?=some (some row)->rows[r']?=some (some row')->row.real->row'.real->ι r=ι r'->r=r'
 ok:H.rev.length=H.n
 lim:H.lim=0
structure SSt where
 tmps:List SV
 rows:Rows
 defers:List Nat
structure Emb (C:Codes) (ι:Nat->Nat) (s:SSt) (σ:St):Prop where
 tmps:All2 (RV ι s.rows) s.tmps σ.tmps
 rows:RowsE C ι s.rows σ.H
 defers:σ.defers=s.defers.map ι
 dlt:∀ r∈s.defers,r<s.rows.length/\sg s.rows r=none
theorem RowR.real_lt {C:Codes} {ι:Nat->Nat} {rows:Rows} {H:Heap} {r:Nat} {row:SRow} (h:RowR C ι rows H r row) (hr:row.real):∃ ar,H.get (ι r)=some ar:=by
 cases row with
 | lit cs=>obtain ⟨cs',h,_⟩:=h;exact ⟨_,h⟩
 | vec nb ver esz n cs=>exact ⟨_,h.2.2 hr⟩
 | ice nb ver esz n=>exact hr.elim
 | dict es clock=>exact ⟨_,h⟩
 | loop L=>obtain ⟨L',h,_⟩:=h;exact ⟨_,h⟩
 | deferred=>exact ⟨_,h⟩
theorem RowR.mono {C:Codes} {ι ι':Nat->Nat} {rows rows':Rows} {H H':Heap} {r:Nat} {row:SRow} (h:RowR C ι rows H r row) (le:Le ι rows ι' rows') (hι:row.real->ι' r=ι r/\∀ ar,H.get (ι r)=some ar->H'.get (ι r)=some ar)
  (hd:∀ s,s<rows.length->sg rows s=none->ι' s=ι s/\sg rows' s=none):RowR C ι' rows' H' r row:=by
 cases row with
 | lit cs=>
  obtain ⟨cs',h1,h2⟩:=h
  obtain ⟨e,k⟩:=hι trivial
  exact ⟨cs',by rw [e];exact k _ h1,h2.mono fun _ _=>le.r2⟩
 | vec nb ver esz n cs=>
  obtain ⟨h1,h2,h3⟩:=h
  refine ⟨h1,h2,fun hn=>?_⟩
  obtain ⟨e,k⟩:=hι hn
  rw [e];exact k _ (h3 hn)
 | ice nb ver esz n=>trivial
 | dict es clock=>
  obtain ⟨e,k⟩:=hι trivial
  show H'.get (ι' r)=_
  rw [e];exact k _ h
 | loop L=>
  obtain ⟨L',h1,h2,h3,h4,h7,h8,h8',h9⟩:=h
  obtain ⟨e,k⟩:=hι trivial
  obtain ⟨d1,d2⟩:=hd _ h8 h8'
  exact ⟨L',by rw [e];exact k _ h1,h2,h3,h4,h7.mono fun _ _=>le.rv,Nat.lt_of_lt_of_le h8 le.len,d2,by rw [d1];exact h9⟩
 | deferred=>
  obtain ⟨e,k⟩:=hι trivial
  show H'.get (ι' r)=_
  rw [e];exact k _ h
end Go.Abs
end
noncomputable section
namespace Go.Abs
section
variable {C : Codes} {ι : Nat → Nat} {rows : Rows} {H : Heap}
theorem get_app {rows:Rows} {x:Option SRow} {r:Nat} {row:SRow} (h:(rows++[x])[r]?=some (some row)):(r<rows.length/\rows[r]?=some (some row))\/(r=rows.length/\x=some row):=by
 by_cases hr:r<rows.length
 ·rw [List.getElem?_append_left hr] at h;exact .inl ⟨hr,h⟩
 ·rw [List.getElem?_append_right (by omega)] at h
  have:r-rows.length=0:=by
   rcases Nat.eq_zero_or_pos (r-rows.length) with e | e
   ·exact e
   ·rw [List.getElem?_eq_none (by simp;omega)] at h;cases h
  rw [this] at h
  simp at h
  exact .inr ⟨by omega,h⟩
theorem sg_app_lt {x:Option SRow} {r:Nat} (hr:r<rows.length):sg (rows++[x]) r=sg rows r:=by
 unfold sg;rw [List.getElem?_append_left hr]
theorem lt_of_get {rows:Rows} {r:Nat} {x:Option SRow} (h:rows[r]?=some x):r<rows.length:=(List.getElem?_eq_some_iff.1 h).1
theorem RowsE.lt (hE:RowsE C ι rows H) {r:Nat} {row:SRow} (h:rows[r]?=some (some row)) (hr:row.real):ι r<H.n:=by
 obtain ⟨ar,ha⟩:=(hE.row r row h).real_lt hr
 exact Heap.get_lt ha
theorem le_app (ι:Nat->Nat) (rows:Rows) (x:Option SRow) (b:Nat):Le ι rows (put ι rows.length b) (rows++[x]):=
 Le.of (by simp) fun r hr=>.inl ⟨put_lt hr,sg_app_lt hr⟩
theorem le_app' (ι:Nat->Nat) (rows:Rows) (x:Option SRow):Le ι rows ι (rows++[x]):=
 Le.of (by simp) fun r hr=>.inl ⟨rfl,sg_app_lt hr⟩
theorem RowsE.ghost (hE:RowsE C ι rows H) (esz:Nat):RowsE C ι (rows++[some (.vec true 0 esz 0 [])]) H:=by
 have le:=le_app' ι rows (some (.vec true 0 esz 0 []))
 refine ⟨fun r row h=>?_,fun r r' row row' h h' hr hr' e=>?_,hE.ok,hE.lim⟩
 ·rcases get_app h with ⟨hl,h⟩ | ⟨e,k⟩
  ·exact (hE.row r row h).mono le (fun _=>⟨rfl,fun _ h=>h⟩) fun s hs h0=>⟨rfl,by rw [sg_app_lt hs];exact h0⟩
  ·simp only [Option.some.injEq] at k;subst k;exact ⟨by simp,⟨fun x hx=>absurd hx (by simp),fun h=>absurd (And.intro (Eq.refl true) (Eq.refl 0)) h⟩⟩
 ·rcases get_app h with ⟨hl,h⟩ | ⟨_,h⟩<;>rcases get_app h' with ⟨hl',h'⟩ | ⟨_,h'⟩
  ·exact hE.inj r r' row row' h h' hr hr' e
  ·simp only [Option.some.injEq] at h';subst h';exact absurd ⟨rfl,rfl⟩ hr'
  ·simp only [Option.some.injEq] at h;subst h;exact absurd ⟨rfl,rfl⟩ hr
  ·omega
theorem RowsE.push (hE:RowsE C ι rows H) (srow:SRow) (arow:ARow) (hR:RowR C (put ι rows.length H.n) (rows++[some srow]) (H.push arow) rows.length srow):
  RowsE C (put ι rows.length H.n) (rows++[some srow]) (H.push arow):=by
 have le:=le_app ι rows (some srow) H.n
 refine ⟨fun r row h=>?_,fun r r' row row' h h' hr hr' e=>?_,by simp [Heap.push,hE.ok],hE.lim⟩
 ·rcases get_app h with ⟨hl,h⟩ | ⟨e,k⟩
  ·refine (hE.row r row h).mono le (fun hr=>⟨put_lt hl,fun ar ha=>?_⟩) fun s hs h0=>⟨put_lt hs,by rw [sg_app_lt hs];exact h0⟩
   rw [Heap.get_push_lt (Heap.get_lt ha)];exact ha
  ·simp only [Option.some.injEq] at k;subst k;subst e;exact hR
 ·rcases get_app h with ⟨hl,h⟩ | ⟨k,h⟩<;>rcases get_app h' with ⟨hl',h'⟩ | ⟨k',h'⟩
  ·rw [put_lt hl,put_lt hl'] at e;exact hE.inj r r' row row' h h' hr hr' e
  ·rw [put_lt hl,k',put_self] at e;have:=hE.lt h hr;omega
  ·rw [put_lt hl',k,put_self] at e;have:=hE.lt h' hr';omega
  ·omega
theorem sg_set_ne {r s:Nat} {x:Option SRow} (h:r≠s):sg (rows.set r x) s=sg rows s:=by
 unfold sg;rw [List.getElem?_set_ne h]
theorem RowsE.turn (hE:RowsE C ι rows H) {r:Nat} {row0:SRow} (h0:rows[r]?=some (some row0)) (hr0:row0.real) (srow:SRow) (arow:ARow) (hsg:sg (rows.set r (some srow)) r=sg rows r)
  (hR:Le ι rows ι (rows.set r (some srow))->RowR C ι (rows.set r (some srow)) (H.upd (ι r) arow) r srow):
  RowsE C ι (rows.set r (some srow)) (H.upd (ι r) arow)/\Le ι rows ι (rows.set r (some srow)):=by
 have hlt:=lt_of_get h0
 have le:Le ι rows ι (rows.set r (some srow)):=Le.of (by simp) fun s hs=>.inl ⟨rfl,by
  by_cases e:r=s
  ·subst e;exact hsg
  ·exact sg_set_ne e⟩
 have split:∀ s row,(rows.set r (some srow))[s]?=some (some row)->(s=r/\row=srow)\/(s≠r/\rows[s]?=some (some row)):=by
  intro s row h
  by_cases e:r=s
  ·subst e
   rw [List.getElem?_set_self hlt] at h
   simp only [Option.some.injEq] at h;exact .inl ⟨rfl,h.symm⟩
  ·rw [List.getElem?_set_ne e] at h;exact .inr ⟨fun h=>e h.symm,h⟩
 obtain ⟨ar0,ha0⟩:=(hE.row r row0 h0).real_lt hr0
 have hrn:=Heap.get_lt ha0
 refine ⟨⟨fun s row h=>?_,fun s s' row row' h h' hr hr' e=>?_,by simp [Heap.upd,hE.ok],hE.lim⟩,le⟩
 ·rcases split s row h with ⟨rfl,rfl⟩ | ⟨hne,h⟩
  ·exact hR le
  ·refine (hE.row s row h).mono le (fun hr=>⟨rfl,fun ar ha=>?_⟩) fun s hs h0=>⟨rfl,by
    by_cases e:r=s
    ·subst e;rw [hsg];exact h0
    ·rw [sg_set_ne e];exact h0⟩
   rw [Heap.get_upd hE.ok _ hrn,if_neg]
   ·exact ha
   ·intro e;exact hne (hE.inj s r row row0 h h0 hr hr0 e)
 ·rcases split s row h with ⟨e1,_⟩ | ⟨hne,k⟩<;>rcases split s' row' h' with ⟨e2,_⟩ | ⟨hne',k'⟩
  ·rw [e1,e2]
  ·rw [e1] at e ⊢;exact hE.inj _ _ _ _ h0 k' hr0 hr' e
  ·rw [e2] at e ⊢;exact hE.inj _ _ _ _ k h0 hr hr0 e
  ·exact hE.inj _ _ _ _ k k' hr hr' e
theorem RowsE.move (hE:RowsE C ι rows H) {r:Nat} {nb:Bool} {ver esz n:Nat} {cs:List AV} (h0:rows[r]?=some (some (.vec nb ver esz n cs))) {nb':Bool} {n':Nat} {cs':List AV}
  (hn:¬ (nb'=true/\n'=0)) (hl:cs'.length=n' * esz) (hc:∀ x∈cs',Cell x) (H1:Heap) (hH1:H1=if nb=true/\n=0 then H else H.kill (ι r)):
  RowsE C (put ι r H.n) (rows.set r (some (.vec nb' (ver+1) esz n' cs'))) (H1.push (.cells cs'))/\Le ι rows (put ι r H.n) (rows.set r (some (.vec nb' (ver+1) esz n' cs'))):=by
 have hlt:=lt_of_get h0
 have put_ne:∀ s,s≠r->put ι r H.n s=ι s:=fun s hs=>by unfold put;rw [if_neg hs]
 have sg0:sg rows r=some (nb,ver,esz,n):=by unfold sg;rw [h0]
 have sg1:sg (rows.set r (some (.vec nb' (ver+1) esz n' cs'))) r=some (nb',ver+1,esz,n'):=by
  unfold sg;rw [List.getElem?_set_self hlt]
 have le:Le ι rows (put ι r H.n) (rows.set r (some (.vec nb' (ver+1) esz n' cs'))):=Le.of (by simp) fun s hs=>by
  by_cases e:r=s
  ·subst e;exact .inr ⟨_,_,_,_,_,_,_,_,sg0,sg1,Nat.lt_succ_self _⟩
  ·exact .inl ⟨put_ne s (fun h=>e h.symm),sg_set_ne e⟩
 have split:∀ s row,(rows.set r (some (.vec nb' (ver+1) esz n' cs')))[s]?=some (some row)->(s=r/\row=.vec nb' (ver+1) esz n' cs')\/(s≠r/\rows[s]?=some (some row)):=by
  intro s row h
  by_cases e:r=s
  ·subst e
   rw [List.getElem?_set_self hlt] at h
   simp only [Option.some.injEq] at h;exact .inl ⟨rfl,h.symm⟩
  ·rw [List.getElem?_set_ne e] at h;exact .inr ⟨fun h=>e h.symm,h⟩
 have hn1:H1.n=H.n:=by rw [hH1];split<;>rfl
 have hok1:H1.rev.length=H1.n:=by
  rw [hn1,hH1];split
  ·exact hE.ok
  ·simp [Heap.kill,hE.ok]
 have hlim1:H1.lim=0:=by
  rw [hH1];split
  ·exact hE.lim
  ·exact hE.lim
 have keep:∀ s row,s≠r->rows[s]?=some (some row)->row.real->∀ ar,H.get (ι s)=some ar->(H1.push (.cells cs')).get (ι s)=some ar:=by
  intro s row hs h hr ar ha
  rw [Heap.get_push_lt (by rw [hn1];exact Heap.get_lt ha),hH1]
  split
  ·exact ha
  ·rename_i hreal
   have hlr:=hE.lt h0 hreal
   rw [Heap.get_kill hE.ok hlr,if_neg]
   ·exact ha
   ·intro e;exact hs (hE.inj s r row _ h h0 hr hreal e)
 refine ⟨⟨fun s row h=>?_,fun s s' row row' h h' hr hr' e=>?_,by simp [Heap.push,hok1],hlim1⟩,le⟩
 ·rcases split s row h with ⟨rfl,rfl⟩ | ⟨hne,h⟩
  ·refine ⟨hl,hc,fun _=>?_⟩
   rw [put_self,←hn1];exact Heap.get_push_self
  ·refine (hE.row s row h).mono le (fun hr=>⟨put_ne s hne,keep s row hne h hr⟩) fun q hq hq0=>?_
   have e:q≠r:=by intro h;rw [h,sg0] at hq0;cases hq0
   exact ⟨put_ne q e,by rw [sg_set_ne (fun h=>e h.symm)];exact hq0⟩
 ·rcases split s row h with ⟨e1,_⟩ | ⟨hne,k⟩<;>rcases split s' row' h' with ⟨e2,_⟩ | ⟨hne',k'⟩
  ·rw [e1,e2]
  ·rw [e1,put_self,put_ne _ hne'] at e;have:=hE.lt k' hr';omega
  ·rw [e2,put_self,put_ne _ hne] at e;have:=hE.lt k hr;omega
  ·rw [put_ne _ hne,put_ne _ hne'] at e;exact hE.inj _ _ _ _ k k' hr hr' e
end
end Go.Abs
end
noncomputable section
namespace Go.Abs
def S_ {α:Type} (x:α):α:=Classical.choose (⟨x,rfl⟩:∃ y:α,y=x)
theorem shut_eq {α:Type} (x:α):S_ x=x:=Classical.choose_spec (⟨x,rfl⟩:∃ y:α,y=x)
def bO {α R:Type} (x:Option α) (f:α->Option R):Option R:=
 match x with
 | some a=>f a
 | none=>none
def gO {R:Type} (b:Bool) (x:Option R):Option R:=
 match b with
 | true=>x
 | false=>none
def cO {R:Type} (b:Bool) (x y:Option R):Option R:=
 match b with
 | true=>x
 | false=>y
section
variable {α R : Type} {b : Bool} {x y : Option R} {r : R}
theorem bindO_some {x:Option α} {f:α->Option R} (h:bO x f=some r):∃ a,x=some a/\f a=some r:=by
 cases x with
 | none=>cases h
 | some a=>exact ⟨a,rfl,h⟩
theorem guardO_some (h:gO b x=some r):b=true/\x=some r:=by
 cases b with
 | true=>exact ⟨rfl,h⟩
 | false=>cases h
theorem guardD_some {p:Prop} [Decidable p] (h:gO (decide p) x=some r):p/\x=some r:=by
 obtain ⟨h1,h2⟩:=guardO_some h
 exact ⟨of_decide_eq_true h1,h2⟩
theorem guardS_some {p:Prop} [Decidable p] (h:gO (S_ (decide p)) x=some r):p/\x=some r:=by
 rw [shut_eq] at h
 exact guardD_some h
end
def SV.b1:SV->S1
 | .s (.o (.b x))=>x
 | _=>.top
def SV.ofB (x:S1):SV:=.s (.o (.b x))
def toAV:S1->Option AV
 | .bool b=>some (.bool b)
 | .int k n=>some (.int k n)
 | .flo k o=>some (.flo k o)
 | .string s=>some (.string s)
 | .list n cs=>some (.list n cs)
 | .nl n cs=>some (.nl n cs)
 | _=>none
def ofAV:AV->S1
 | .bool b=>.bool (S_ b)
 | .int k n=>.int k (S_ n)
 | .flo k o=>.flo k (S_ o)
 | .string s=>.string (S_ s)
 | _=>.top
section
variable {C : Codes} {ι : Nat → Nat} {rows : Rows} {H : Heap} {P : Program}
theorem b1_rel {x:SV} {v:AV} (h:RV ι rows x v):R1 ι rows x.b1 v:=by
 unfold SV.b1
 split
 ·exact h
 ·trivial
theorem ofAV_rel (y:AV):R1 ι rows (ofAV y) y:=by
 unfold ofAV
 split<;>first | (rw [shut_eq];rfl) | rfl | trivial
theorem toAV_rel {x:S1} {v u:AV} (hx:R1 ι rows x v) (h:toAV x=some u):v=u/\Cell u:=by
 unfold toAV at h
 split at h<;>simp only [Option.some.injEq,reduceCtorEq] at h<;>subst h
 ·exact ⟨hx,.bool _⟩
 ·exact ⟨hx,.int _ _⟩
 ·exact ⟨hx,.flo _ _⟩
 ·exact ⟨hx,.string _⟩
 ·exact ⟨hx.1,.list _ _ hx.2⟩
 ·exact ⟨hx.1,.nl _ _ hx.2⟩
end
def isShift:BinOp->Bool
 | .shl | .shr=>true
 | _=>false
def isArith:BinOp->Bool
 | .add | .sub | .mul | .quo=>true
 | _=>false
def arithF (op:BinOp) (k:FloatKind) (a b:Nat):Option Nat:=
 match op with
 | .add=>k.format.add a b
 | .sub=>k.format.sub a b
 | .mul=>k.format.mul a b
 | .quo=>k.format.div a b
 | _=>none
def arithO (op:BinOp) (k:FloatKind) (a b:Option Nat):Option Nat:=
 match a,b with
 | some a,some b=>arithF op k a b
 | _,_=>none
def ordO (k:FloatKind) (a b:Option Nat):Option Ordering:=
 match a,b with
 | some a,some b=>k.format.order a b
 | _,_=>none
section
variable {R : Type}
def genS (x:Option AV) (K:S1->Option R):Option R:=
 match x with
 | some y=>K (ofAV y)
 | none=>none
def binI (op:BinOp) (k:IntKind) (a b:Int) (K:S1->Option R):Option R:=
 match op with
 | .quo=>gO (S_ (decide (b≠0))) (K (.int k (S_ (k.wrap (a.tdiv b)))))
 | .rem=>gO (S_ (decide (b≠0))) (K (.int k (S_ (a.tmod b))))
 | op=>genS (aint op k a b) K
def shiftI (op:BinOp) (k:IntKind) (a b:Int) (K:S1->Option R):Option R:=
 match op with
 | .shl=>gO (S_ (decide (0<=b))) (K (.int k (S_ (k.wrap (a*2 ^ min b.toNat k.bits)))))
 | .shr=>gO (S_ (decide (0<=b))) (K (.int k (S_ (a.fdiv (2 ^ min b.toNat k.bits)))))
 | _=>none
def binF (op:BinOp) (k:FloatKind) (a b:Option Nat) (K:S1->Option R):Option R:=
 match isArith op with
 | true=>K (.flo k (S_ (arithO op k a b)))
 | false=>genS (acmp op (ordO k a b)) K
def binStr (op:BinOp) (a b:ByteArray) (K:S1->Option R):Option R:=
 match op with
 | .add=>gO (S_ (decide (a.data.toList.length+b.data.toList.length<=4611686018427387904))) (K (.string (S_ ⟨(a.data.toList++b.data.toList).toArray⟩)))
 | op=>genS (astr op a b) K
def binS (P:Program) (op:BinOp) (t:TypeId) (cx cy:Bool) (x y:S1) (K:S1->Option R):Option R:=
 match x with
 | .int k a=>match y with
  | .int k' b=>match isShift op with
   | true=>shiftI op k a b K
   | false=>gO (decide (k=k')) (binI op k a b K)
  | _=>none
 | .flo k a=>match y with
  | .flo k' b=>gO (decide (k=k')) (binF op k a b K)
  | _=>none
 | .string a=>match y with
  | .string b=>binStr op a b K
  | _=>none
 | .bool a=>match y with
  | .bool b=>genS (abinOp P op t cx cy (.bool a) (.bool b)) K
  | _=>none
 | _=>none
end
section
variable {C : Codes} {ι : Nat → Nat} {rows : Rows} {H : Heap} {P : Program} {R : Type} {r : R}
theorem genS_ok {x:Option AV} {K:S1->Option R} (h:genS x K=some r):∃ z ys,x=some z/\R1 ι rows ys z/\K ys=some r:=by
 cases x with
 | none=>cases h
 | some y=>exact ⟨y,ofAV y,rfl,ofAV_rel y,h⟩
theorem binI_ok {op:BinOp} {k:IntKind} {a b:Int} {K:S1->Option R} (h:binI op k a b K=some r):∃ z ys,aint op k a b=some z/\R1 ι rows ys z/\K ys=some r:=by
 unfold binI at h
 split at h
 ·obtain ⟨h1,h2⟩:=guardS_some h
  rw [shut_eq] at h2
  exact ⟨_,_,by simp only [aint];rw [if_neg h1],(show R1 ι rows (.int k _) (.int k _) from rfl),h2⟩
 ·obtain ⟨h1,h2⟩:=guardS_some h
  rw [shut_eq] at h2
  exact ⟨_,_,by simp only [aint];rw [if_neg h1],(show R1 ι rows (.int k _) (.int k _) from rfl),h2⟩
 ·exact genS_ok h
theorem shiftI_ok {op:BinOp} {k:IntKind} {a b:Int} {K:S1->Option R} (h:shiftI op k a b K=some r):∃ z ys,ashift op k a b=some z/\R1 ι rows ys z/\K ys=some r:=by
 unfold shiftI at h
 split at h
 ·obtain ⟨h1,h2⟩:=guardS_some h
  rw [shut_eq] at h2
  exact ⟨_,_,by simp only [ashift];rw [if_neg (by omega)],(show R1 ι rows (.int k _) (.int k _) from rfl),h2⟩
 ·obtain ⟨h1,h2⟩:=guardS_some h
  rw [shut_eq] at h2
  exact ⟨_,_,by simp only [ashift];rw [if_neg (by omega)],(show R1 ι rows (.int k _) (.int k _) from rfl),h2⟩
 ·cases h
def afloO (op:BinOp) (k:FloatKind) (a b:Option Nat):Option AV:=
 match a,b with
 | some a,some b=>aflo op k a b
 | _,_=>aflonan op k
theorem binF_ok {op:BinOp} {k:FloatKind} {a b:Option Nat} {K:S1->Option R} (h:binF op k a b K=some r):∃ z ys,afloO op k a b=some z/\R1 ι rows ys z/\K ys=some r:=by
 unfold binF at h
 rw [shut_eq] at h
 split at h
 ·rename_i ha
  refine ⟨.flo k (arithO op k a b),.flo k (arithO op k a b),?_,rfl,h⟩
  cases a with
  | none=>cases op<;>simp only [isArith,Bool.false_eq_true] at ha<;>rfl
  | some a=>
   cases b with
   | none=>cases op<;>simp only [isArith,Bool.false_eq_true] at ha<;>rfl
   | some b=>
    simp only [afloO,arithO]
    cases hr:arithF op k a b<;>cases op<;>simp only [isArith,Bool.false_eq_true] at ha<;>simp only [arithF] at hr<;>simp only [aflo,hr,afloRes]
 ·rename_i ha
  obtain ⟨z,ys,h1,h2,h3⟩:=genS_ok (ι:=ι) (rows:=rows) h
  refine ⟨z,ys,?_,h2,h3⟩
  cases a with
  | none=>cases op<;>simp only [isArith,reduceCtorEq] at ha<;>exact h1
  | some a=>
   cases b with
   | none=>cases op<;>simp only [isArith,reduceCtorEq] at ha<;>exact h1
   | some b=>cases op<;>simp only [isArith,reduceCtorEq] at ha<;>exact h1
theorem binStr_ok {op:BinOp} {a b:ByteArray} {K:S1->Option R} (h:binStr op a b K=some r):∃ z ys,astr op a b=some z/\R1 ι rows ys z/\K ys=some r:=by
 unfold binStr at h
 split at h
 ·obtain ⟨h1,h2⟩:=guardS_some h
  rw [shut_eq] at h2
  exact ⟨_,_,by simp only [astr];rw [if_pos h1],(show R1 ι rows (.string _) (.string _) from rfl),h2⟩
 ·exact genS_ok h
theorem binS_ok {op:BinOp} {t:TypeId} {cx cy:Bool} {x y:S1} {v u:AV} {K:S1->Option R} (h:binS P op t cx cy x y K=some r) (hx:R1 ι rows x v) (hy:R1 ι rows y u):
  ∃ z ys,abinOp P op t cx cy v u=some z/\R1 ι rows ys z/\K ys=some r:=by
 unfold binS at h
 split at h
 ·rename_i k a
  split at h
  ·rename_i k' b
   have hx:v=.int k a:=hx
   have hy:u=.int k' b:=hy
   subst hx;subst hy
   split at h
   ·rename_i hs
    obtain ⟨z,ys,h1,h2,h3⟩:=shiftI_ok (ι:=ι) (rows:=rows) h
    refine ⟨z,ys,?_,h2,h3⟩
    cases op<;>simp only [isShift,Bool.false_eq_true] at hs<;>exact h1
   ·rename_i hs
    obtain ⟨e,h⟩:=guardD_some h
    obtain ⟨z,ys,h1,h2,h3⟩:=binI_ok (ι:=ι) (rows:=rows) h
    refine ⟨z,ys,?_,h2,h3⟩
    cases op<;>simp only [isShift,reduceCtorEq] at hs<;>simp only [abinOp]<;>rw [if_pos e]<;>exact h1
  ·cases h
 ·rename_i k a
  have hx:v=.flo k a:=hx
  subst hx
  split at h
  ·rename_i k' b
   have hy:u=.flo k' b:=hy
   subst hy
   obtain ⟨e,h⟩:=guardD_some h
   obtain ⟨z,ys,h1,h2,h3⟩:=binF_ok (ι:=ι) (rows:=rows) h
   refine ⟨z,ys,?_,h2,h3⟩
   cases a<;>cases b<;>cases op<;>simp only [abinOp]<;>rw [if_pos e]<;>exact h1
  ·cases h
 ·rename_i a
  have hx:v=.string a:=hx
  subst hx
  split at h
  ·rename_i b
   have hy:u=.string b:=hy
   subst hy
   obtain ⟨z,ys,h1,h2,h3⟩:=binStr_ok (ι:=ι) (rows:=rows) h
   exact ⟨z,ys,by cases op<;>exact h1,h2,h3⟩
  ·cases h
 ·rename_i a
  have hx:v=.bool a:=hx
  subst hx
  split at h
  ·rename_i b
   have hy:u=.bool b:=hy
   subst hy
   exact genS_ok h
  ·cases h
 ·cases h
end
end Go.Abs
end
noncomputable section
namespace Go.Abs
def curV (rows:Rows) (r ver:Nat):Bool:=
 match sg rows r with
 | some (_,v,_,_)=>Nat.beq ver v
 | none=>false
def cur1 (rows:Rows):S1->Bool
 | .top=>false
 | .own r ver _=>curV rows r ver
 | .eptr r ver _=>curV rows r ver
 | .sub r ver _ _ _=>curV rows r ver
 | .lsub r _ _ _=>(sg rows r).isNone
 | .ptr r _=>(sg rows r).isNone
 | .yield r=>(sg rows r).isNone
 | .mp r=>(sg rows r).isNone
 | .raw x=>x.one
 | _=>true
def cur2 (rows:Rows):S2->Bool
 | .b x=>cur1 rows x
 | .fn _ _ _=>true
def cellsS (rows:Rows):SV->Option (List S2)
 | .s (.o x)=>match cur2 rows x with
  | true=>some [x]
  | false=>none
 | .s (.agg cs)=>match cs.all (cur2 rows) with
  | true=>some cs
  | false=>none
 | _=>none
def putS:List S2->Nat->List S2->List S2
 | cs,_,[]=>cs
 | cs,off,x::xs=>putS (cs.set off x) (off+1) xs
def toCell:S2->Option AV
 | .b x=>toAV x
 | _=>none
def toCells:List S2->Option (List AV)
 | []=>some []
 | x::xs=>match toCell x,toCells xs with
  | some v,some vs=>some (v::vs)
  | _,_=>none
section
variable {C : Codes} {ι : Nat → Nat} {rows : Rows} {H : Heap} {P : Program} {R : Type} {r : R}
theorem curV_spec {q ver:Nat} (h:curV rows q ver=true):∃ nb esz n,sg rows q=some (nb,ver,esz,n):=by
 unfold curV at h
 split at h
 ·rename_i nb v esz n hs
  have:=Nat.eq_of_beq_eq_true h
  subst this
  exact ⟨nb,esz,n,hs⟩
 ·cases h
theorem cur1_one {x:S1} {v:AV} (hx:R1 ι rows x v) (h:cur1 rows x=true):v.one=true:=by
 cases x with
 | top=>cases h
 | own q ver esz=>
  obtain ⟨nb,e,n,hs⟩:=curV_spec h
  obtain ⟨_,hv⟩:=(hx.2 _ _ _ _ hs).2 rfl
  rw [hv];unfold ownAV;split<;>rfl
 | eptr q ver off=>
  obtain ⟨nb,e,n,hs⟩:=curV_spec h
  rw [(hx.2 _ _ _ _ hs).2 rfl];rfl
 | sub q ver off n esz=>
  obtain ⟨nb,e,m,hs⟩:=curV_spec h
  obtain ⟨_,hv⟩:=hx.2 _ _ _ _ hs
  obtain ⟨_,_,hv⟩:=hv rfl
  unfold SubV at hv
  split at hv
  ·rw [hv];rfl
  ·rcases hv with hv | ⟨_,hv⟩<;>rw [hv]<;>rfl
 | lsub q off n esz=>
  rw [hx.2 (by simpa [cur1] using h)];rfl
 | ptr q off=>
  rw [hx.2 (by simpa [cur1] using h)];rfl
 | yield q=>
  rw [hx.2 (by simpa [cur1] using h)];rfl
 | mp q=>
  rw [hx.2 (by simpa [cur1] using h)];rfl
 | raw x=>
  have hx:v=x:=hx
  rw [hx];exact h
 | bool b=>have hx:v=_:=hx;rw [hx];rfl
 | int k n=>have hx:v=_:=hx;rw [hx];rfl
 | flo k o=>have hx:v=_:=hx;rw [hx];cases o<;>rfl
 | string s=>have hx:v=_:=hx;rw [hx];rfl
 | list n cs=>rw [hx.1];rfl
 | nl n cs=>rw [hx.1];rfl
 | lptr cs off=>rw [hx.1];rfl
theorem cur2_one {x:S2} {v:AV} (hx:R2 ι rows x v) (h:cur2 rows x=true):v.one=true:=by
 cases x with
 | b x=>exact cur1_one hx h
 | fn f a b=>obtain ⟨_,_,e,_⟩:=hx;rw [e];rfl
theorem one_cells {v:AV} (h:v.one=true):v.known=true/\v.cells=[v]:=by
 cases v<;>first | exact ⟨rfl,rfl⟩ | simp [AV.one] at h
theorem all2_one {cs:List S2} {cs':List AV} (h:All2 (R2 ι rows) cs cs') (hc:cs.all (cur2 rows)=true):cs'.all AV.one=true:=by
 induction h with
 | nil=>rfl
 | cons h _ ih=>
  simp only [List.all_cons,Bool.and_eq_true] at hc ⊢
  exact ⟨cur2_one h hc.1,ih hc.2⟩
theorem cellsS_ok {x:SV} {v:AV} {cs:List S2} (hx:RV ι rows x v) (h:cellsS rows x=some cs):v.known=true/\All2 (R2 ι rows) cs v.cells/\v.cells.all AV.one=true:=by
 unfold cellsS at h
 split at h
 ·rename_i y
  split at h
  ·rename_i hc
   simp only [Option.some.injEq] at h;subst h
   have h1:v.one=true:=cur2_one hx hc
   obtain ⟨h2,h3⟩:=one_cells h1
   rw [h3]
   exact ⟨h2,.cons hx .nil,by simp [h1]⟩
  ·cases h
 ·split at h
  ·rename_i hc
   simp only [Option.some.injEq] at h;subst h
   obtain ⟨cs',e,ha⟩:=hx
   subst e
   exact ⟨rfl,ha,all2_one ha hc⟩
  ·cases h
 ·cases h
theorem putS_rel:∀ (xs:List S2) (vs:List AV) (cs:List S2) (cs':List AV) (off:Nat),All2 (R2 ι rows) xs vs->All2 (R2 ι rows) cs cs'->All2 (R2 ι rows) (putS cs off xs) (putCells cs' off vs)
 | [],[],cs,cs',off,_,h=>h
 | x::xs,v::vs,cs,cs',off,.cons h t,hc=>putS_rel xs vs _ _ (off+1) t (hc.set h off)
theorem toCell_rel {x:S2} {v u:AV} (hx:R2 ι rows x v) (h:toCell x=some u):v=u/\Cell u:=by
 cases x with
 | b x=>exact toAV_rel hx h
 | fn=>cases h
theorem toCells_rel:∀ {xs:List S2} {vs us:List AV},All2 (R2 ι rows) xs vs->toCells xs=some us->vs=us/\∀ u∈us,Cell u
 | [],[],us,_,h=>by simp only [toCells,Option.some.injEq] at h;subst h;exact ⟨rfl,fun u hu=>by cases hu⟩
 | x::xs,v::vs,us,.cons hx ht,h=>by
  simp only [toCells] at h
  split at h
  ·rename_i a as h1 h2
   simp only [Option.some.injEq] at h;subst h
   obtain ⟨e1,c1⟩:=toCell_rel hx h1
   obtain ⟨e2,c2⟩:=toCells_rel ht h2
   refine ⟨by rw [e1,e2],fun u hu=>?_⟩
   rcases List.mem_cons.1 hu with rfl | hu
   ·exact c1
   ·exact c2 u hu
  ·cases h
end
inductive CK where
 | int (k:IntKind)
 | bool
 | float (k:FloatKind)
 | string
 | list
 | nl
def asInt (k:IntKind):AV->Option Int
 | .int k' n=>if k'=k then some n else none
 | _=>none
def asBool:AV->Option Bool
 | .bool b=>some b
 | _=>none
def asFloat (k:FloatKind):AV->Option (Option Nat)
 | .flo k' o=>if k'=k then some o else none
 | _=>none
def asString:AV->Option ByteArray
 | .string s=>some s
 | _=>none
def asList:AV->Option (Nat × List AV)
 | .list n cs=>some (n,cs)
 | _=>none
def asNl:AV->Option (Nat × List AV)
 | .nl n cs=>some (n,cs)
 | _=>none
def kindOf (P:Program) (t:TypeId):Option CK:=
 match P.underlying t with
 | some (.int k)=>some (.int k)
 | some .bool=>some .bool
 | some (.float k)=>some (.float k)
 | some .string=>some .string
 | some (.slice e)=>match P.underlying e with
  | some (.int .u64)=>some .nl
  | _=>some .list
 | _=>none
def kindsOf (P:Program):Nat->TypeId->Option (List CK)
 | 0,_=>none
 | d+1,t=>match P.underlying t with
  | some (.struct fs)=>kindsFs P (kindsOf P d) fs.toList
  | some (.array n e)=>match kindsOf P d e with
   | some ks=>some ((List.range n).flatMap fun _=>ks)
   | none=>none
  | _=>match kindOf P t with
   | some k=>some [k]
   | none=>none
 where kindsFs (P:Program) (f:TypeId->Option (List CK)):List Field->Option (List CK)
 | []=>some []
 | fd::fs=>match f fd.type,kindsFs P f fs with
  | some a,some b=>some (a++b)
  | _,_=>none
section
variable {R : Type}
def dec1 (k:CK) (v:AV) (K:S2->Option R):Option R:=
 match k with
 | .int k=>bO (asInt k v) fun n=>K (.b (.int k n))
 | .bool=>bO (asBool v) fun b=>K (.b (.bool b))
 | .float k=>bO (asFloat k v) fun n=>K (.b (.flo k n))
 | .string=>bO (asString v) fun s=>K (.b (.string s))
 | .list=>bO (asList v) fun p=>K (.b (.list p.1 p.2))
 | .nl=>bO (asNl v) fun p=>K (.b (.nl p.1 p.2))
def decL:List CK->List AV->Nat->(List S2->Option R)->Option R
 | [],_,_,K=>K []
 | k::ks,cs,off,K=>dec1 k (cs.getD off .top) fun c=>decL ks cs (off+1) fun l=>K (c::l)
def isAggD:TypeDesc->Bool
 | .struct _ | .array _ _=>true
 | _=>false
def decAt (P:Program) (t:TypeId) (d:TypeDesc) (size:Nat) (cs:List AV) (off:Nat) (K:SV->Option R):Option R:=
 match isAggD d with
 | true=>match kindsOf P 8 t with
  | some ks=>match Nat.beq ks.length size with
   | true=>gO (S_ (decide (off+size<=cs.length))) (decL ks cs off fun l=>K (.s (.agg l)))
   | false=>none
  | none=>none
 | false=>match kindOf P t with
  | some k=>dec1 k (cs.getD off .top) fun c=>K (.s (.o c))
  | none=>none
def loadS (P:Program) (rows:Rows) (t:TypeId) (x:S1) (K:SV->Option R):Option R:=
 match P.underlying t,P.info? t with
 | some d,some i=>match x with
  | .ptr r off=>match rows[r]? with
   | some (some (.lit cs))=>match isAggD d with
    | true=>gO (decide (off+i.size<=cs.length)) (K (.s (.agg ((cs.drop off).take i.size))))
    | false=>match cs[off]? with
     | some c=>K (.s (.o c))
     | none=>none
   | _=>none
  | .eptr r ver off=>match rows[r]? with
   | some (some (.vec nb v esz n cs))=>match Nat.beq ver v with
    | true=>gO (S_ (!(nb&&Nat.beq n 0))) (decAt P t d i.size cs off K)
    | false=>none
   | _=>none
  | .lptr cs off=>decAt P t d i.size cs off K
  | _=>none
 | _,_=>none
end
section
variable {C : Codes} {ι : Nat → Nat} {rows : Rows} {H : Heap} {P : Program} {R : Type} {r : R}
theorem dec1_ok {k:CK} {v:AV} {K:S2->Option R} (h:dec1 k v K=some r) (hp:Cell v):∃ c,R2 ι rows c v/\K c=some r/\v≠.top:=by
 cases k with
 | int k=>
  obtain ⟨n,h1,h2⟩:=bindO_some h
  unfold asInt at h1
  split at h1
  ·split at h1
   ·rename_i e;subst e
    simp only [Option.some.injEq] at h1;subst h1
    exact ⟨.b (.int _ _),(rfl:R1 ι rows (.int _ _) _),h2,by simp⟩
   ·cases h1
  ·cases h1
 | bool=>
  obtain ⟨n,h1,h2⟩:=bindO_some h
  unfold asBool at h1
  split at h1
  ·simp only [Option.some.injEq] at h1;subst h1
   exact ⟨.b (.bool _),(rfl:R1 ι rows (.bool _) _),h2,by simp⟩
  ·cases h1
 | float k=>
  obtain ⟨n,h1,h2⟩:=bindO_some h
  unfold asFloat at h1
  split at h1
  ·split at h1
   ·rename_i e;subst e
    simp only [Option.some.injEq] at h1;subst h1
    exact ⟨.b (.flo _ _),(rfl:R1 ι rows (.flo _ _) _),h2,by simp⟩
   ·cases h1
  ·cases h1
 | string=>
  obtain ⟨n,h1,h2⟩:=bindO_some h
  unfold asString at h1
  split at h1
  ·simp only [Option.some.injEq] at h1;subst h1
   exact ⟨.b (.string _),(rfl:R1 ι rows (.string _) _),h2,by simp⟩
  ·cases h1
 | list=>
  obtain ⟨n,h1,h2⟩:=bindO_some h
  unfold asList at h1
  split at h1
  ·simp only [Option.some.injEq] at h1;subst h1
   cases hp with
   | list _ _ hc=>exact ⟨.b (.list _ _),(⟨rfl,hc⟩:R1 ι rows (.list _ _) _),h2,by simp⟩
  ·cases h1
 | nl=>
  obtain ⟨n,h1,h2⟩:=bindO_some h
  unfold asNl at h1
  split at h1
  ·simp only [Option.some.injEq] at h1;subst h1
   cases hp with
   | nl _ _ hc=>exact ⟨.b (.nl _ _),(⟨rfl,hc⟩:R1 ι rows (.nl _ _) _),h2,by simp⟩
  ·cases h1
theorem getD_some {cs:List AV} {off:Nat} (h:cs.getD off .top≠.top):cs[off]?=some (cs.getD off .top):=by
 rw [List.getD_eq_getElem?_getD] at h ⊢
 cases hc:cs[off]? with
 | none=>rw [hc] at h;exact absurd rfl h
 | some v=>rfl
theorem cell_getD {cs:List AV} (hp:∀ x∈cs,Cell x) {off:Nat} (h:cs.getD off .top≠.top):Cell (cs.getD off .top):=by
 rw [List.getD_eq_getElem?_getD] at h ⊢
 cases hc:cs[off]? with
 | none=>rw [hc] at h;exact absurd rfl h
 | some v=>exact hp v (List.mem_of_getElem? hc)
theorem dec1_top {k:CK} {K:S2->Option R} (h:dec1 k .top K=some r):False:=by
 cases k<;>simp [dec1,asInt,asBool,asFloat,asString,asList,asNl,bO] at h
theorem decL_ok:∀ (ks:List CK) (cs:List AV) (off:Nat) (K:List S2->Option R),decL ks cs off K=some r->(∀ x∈cs,Cell x)->
  ∃ l,All2 (R2 ι rows) l ((cs.drop off).take ks.length)/\K l=some r
 | [],cs,off,K,h,_=>⟨[],by simp;exact .nil,h⟩
 | k::ks,cs,off,K,h,hp=>by
  have hnt:cs.getD off .top≠.top:=by
   intro e;rw [decL,e] at h;exact dec1_top h
  obtain ⟨c,h1,h2,h3⟩:=dec1_ok (ι:=ι) (rows:=rows) h (cell_getD hp hnt)
  obtain ⟨l,h4,h5⟩:=decL_ok ks cs (off+1) _ h2 hp
  refine ⟨c::l,?_,h5⟩
  have hg:=getD_some h3
  have hlt:off<cs.length:=(List.getElem?_eq_some_iff.1 hg).1
  have e:cs.drop off=cs.getD off .top::cs.drop (off+1):=by
   rw [List.drop_eq_getElem_cons hlt]
   congr 1
   have:=(List.getElem?_eq_some_iff.1 hg).2
   exact this
  rw [e,List.length_cons,List.take_succ_cons]
  exact .cons h1 h4
theorem isAgg_take {d:TypeDesc} {n off:Nat} {cs:List AV} (h:isAggD d=true) (hl:off+n<=cs.length):takeVar d n cs off=some (.agg ((cs.drop off).take n)):=by
 cases d<;>first | (simp [isAggD] at h;done) | (simp only [takeVar];rw [if_pos hl])
theorem notAgg_take {d:TypeDesc} {n off:Nat} {cs:List AV} (h:isAggD d=false):takeVar d n cs off=cs[off]?:=by
 cases d<;>first | (simp [isAggD] at h;done) | rfl
theorem decAt_ok {t:TypeId} {d:TypeDesc} {size:Nat} {cs:List AV} {off:Nat} {K:SV->Option R} (h:decAt P t d size cs off K=some r) (hp:∀ x∈cs,Cell x):
  ∃ y ys,takeVar d size cs off=some y/\RV ι rows ys y/\K ys=some r:=by
 unfold decAt at h
 split at h
 ·rename_i ha
  split at h
  ·rename_i ks hk
   split at h
   ·rename_i hn
    have hn:=Nat.eq_of_beq_eq_true hn
    obtain ⟨h1,h2⟩:=guardS_some h
    obtain ⟨l,h3,h4⟩:=decL_ok (ι:=ι) (rows:=rows) ks cs off _ h2 hp
    exact ⟨_,.s (.agg l),isAgg_take ha h1,⟨_,rfl,by rw [hn] at h3;exact h3⟩,h4⟩
   ·cases h
  ·cases h
 ·rename_i ha
  split at h
  ·rename_i k hk
   have hnt:cs.getD off .top≠.top:=by
    intro e;rw [e] at h;exact dec1_top h
   obtain ⟨c,h1,h2,h3⟩:=dec1_ok (ι:=ι) (rows:=rows) h (cell_getD hp hnt)
   exact ⟨_,.s (.o c),by rw [notAgg_take ha];exact getD_some h3,h1,h2⟩
  ·cases h
theorem rowOf_of {q:Nat} {cs:List AV} (h:H.get q=some (.cells cs)):rowOf H q=some cs:=by
 unfold rowOf;rw [h]
theorem vec_cells (hE:RowsE C ι rows H) {q:Nat} {nb:Bool} {ver esz n:Nat} {cs:List AV} (h:rows[q]?=some (some (.vec nb ver esz n cs))) (hn:(!(nb&&Nat.beq n 0))=true):
  H.get (ι q)=some (.cells cs)/\(∀ x∈cs,Cell x)/\cs.length=n*esz/\¬ (nb=true/\n=0):=by
 obtain ⟨h1,h2,h3⟩:=hE.row q _ h
 have hn':¬ (nb=true/\n=0):=by
  rintro ⟨rfl,rfl⟩
  simp at hn
 exact ⟨h3 hn',h2,h1,hn'⟩
theorem sg_vec {q:Nat} {nb:Bool} {ver esz n:Nat} {cs:List AV} (h:rows[q]?=some (some (.vec nb ver esz n cs))):sg rows q=some (nb,ver,esz,n):=by
 unfold sg;rw [h]
theorem sg_lit {q:Nat} {cs:List S2} (h:rows[q]?=some (some (.lit cs))):sg rows q=none:=by
 unfold sg;rw [h]
theorem loadS_ok (hE:RowsE C ι rows H) {t:TypeId} {x:S1} {v:AV} {K:SV->Option R} (hx:R1 ι rows x v) (h:loadS P rows t x K=some r):
  ∃ y ys,aload P H t v=some y/\RV ι rows ys y/\K ys=some r:=by
 unfold loadS at h
 split at h
 ·rename_i d i hd hi
  unfold aload
  rw [hd,hi]
  split at h
  ·rename_i q off
   split at h
   ·rename_i cs hrow
    have hv:=hx.2 (sg_lit hrow)
    subst hv
    obtain ⟨cs',h1,h2⟩:=hE.row _ _ hrow
    simp only [rowOf_of h1]
    split at h
    ·rename_i ha
     obtain ⟨h3,h4⟩:=guardD_some h
     exact ⟨_,.s (.agg _),isAgg_take ha (by rw [←h2.length];exact h3),⟨_,rfl,(h2.drop off).take i.size⟩,h4⟩
    ·rename_i ha
     split at h
     ·rename_i c hc
      obtain ⟨y,hy,hr⟩:=h2.get hc
      exact ⟨y,.s (.o c),by rw [notAgg_take ha];exact hy,hr,h⟩
     ·cases h
   ·cases h
  ·rename_i q ver off
   split at h
   ·rename_i nb v' esz n cs hrow
    split at h
    ·rename_i hver
     have:=Nat.eq_of_beq_eq_true hver
     subst this
     obtain ⟨hn,h⟩:=guardO_some h
     rw [shut_eq] at hn
     obtain ⟨h1,h2,h3,_⟩:=vec_cells hE hrow hn
     have hv:=(hx.2 _ _ _ _ (sg_vec hrow)).2 rfl
     subst hv
     simp only [rowOf_of h1]
     exact decAt_ok h h2
    ·cases h
   ·cases h
  ·rename_i cs off
   obtain ⟨hv,hp⟩:=hx
   subst hv
   exact decAt_ok h hp
  ·cases h
 ·cases h
end
end Go.Abs
end
noncomputable section
namespace Go.Abs
section
variable {R : Type}
def fieldAddrS (P:Program) (s:TypeId) (x:S1) (f:Nat) (K:S1->Option R):Option R:=
 match P.underlying s with
 | some (.struct fs)=>match fs[f]? with
  | some fd=>match P.info? fd.type with
   | some i=>match Nat.beq i.size 0 with
    | true=>none
    | false=>match x with
     | .ptr r off=>K (.ptr r (off+fd.offset))
     | .eptr r ver off=>K (.eptr r ver (off+fd.offset))
     | .lptr cs off=>K (.lptr cs (off+fd.offset))
     | _=>none
   | none=>none
  | none=>none
 | _=>none
def indexAddrS (P:Program) (rows:Rows) (t:TypeId) (x ix:S1) (K:S1->Option R):Option R:=
 match ix with
 | .int _ n=>match P.underlying t with
  | some (.slice e)=>match P.info? e with
   | some i=>match x with
    | .own r ver esz=>match rows[r]? with
     | some (some (.vec nb v es len cs))=>match Nat.beq ver v with
      | true=>gO (S_ (decide (0<=n/\n<len))) (K (.eptr r ver (n.toNat*i.size)))
      | false=>none
     | _=>none
    | .list len cells=>gO (S_ (decide (0<=n/\n<len/\0<cells.length))) (K (.lptr cells (n.toNat*i.size)))
    | .sub r ver off len esz=>gO (S_ (decide (0<=n/\n<len))) (K (.eptr r ver (off*esz+n.toNat*i.size)))
    | .lsub r off len esz=>gO (S_ (decide (0<=n/\n<len))) (K (.ptr r (off+n.toNat*i.size)))
    | _=>none
   | none=>none
  | some (.array len e)=>match P.info? e with
   | some i=>match x with
    | .ptr r off=>gO (S_ (decide (0<=n/\n<len))) (K (.ptr r (off+n.toNat*i.size)))
    | .eptr r ver off=>gO (S_ (decide (0<=n/\n<len))) (K (.eptr r ver (off+n.toNat*i.size)))
    | .lptr cells off=>gO (S_ (decide (0<=n/\n<len))) (K (.lptr cells (off+n.toNat*i.size)))
    | _=>none
   | none=>none
  | _=>none
 | _=>none
def storeS (P:Program) (rows:Rows) (t:TypeId) (x:S1) (y:SV) (K:Rows->Option R):Option R:=
 match P.info? t with
 | some inf=>match cellsS rows y with
  | some ys=>match Nat.beq ys.length inf.size with
   | true=>match x with
    | .ptr r off=>match rows[r]? with
     | some (some (.lit cs))=>gO (decide (off+ys.length<=cs.length)) (K (rows.set r (some (.lit (putS cs off ys)))))
     | _=>none
    | .eptr r ver off=>match rows[r]? with
     | some (some (.vec nb v esz n cs))=>match Nat.beq ver v with
      | true=>match toCells ys with
       | some vs=>gO (S_ (!(nb&&Nat.beq n 0))) (gO (S_ (decide (off+ys.length<=cs.length))) (K (rows.set r (some (.vec nb v esz n (putCells cs off vs))))))
       | none=>none
      | false=>none
     | _=>none
    | _=>none
   | false=>none
  | none=>none
 | none=>none
end
def eszOf (P:Program) (t:TypeId):Option Nat:=
 match P.underlying t with
 | some (.slice e)=>match P.info? e with
  | some i=>some i.size
  | none=>none
 | _=>none
def ghostsOf (P:Program) (t:TypeId):List (Option Nat):=
 match P.underlying t with
 | some (.slice _)=>[eszOf P t]
 | some (.struct fs)=>fs.toList.flatMap fun f=>match P.info? f.type with
  | some i=>match Nat.beq i.size 1 with
   | true=>[eszOf P f.type]
   | false=>List.replicate i.size none
  | none=>[]
 | _=>[]
def ofAVr:AV->S1
 | .bool b=>.bool b
 | .int k n=>.int k n
 | .flo k o=>.flo k o
 | .string s=>.string s
 | .nl 0 []=>.nl 0 []
 | x=>.raw x
def ghostAt:List (Option Nat)->Option Nat
 | some e::_=>some e
 | _=>none
def mkCells:List AV->List (Option Nat)->Rows->List S2 × Rows
 | [],_,rows=>([],rows)
 | z::zs,gs,rows=>match z,ghostAt gs with
  | .nilslice,some e=>match mkCells zs gs.tail (rows++[some (.vec true 0 e 0 [])]) with
   | (cs,rows')=>(.b (.own rows.length 0 e)::cs,rows')
  | z,_=>match mkCells zs gs.tail rows with
   | (cs,rows')=>(.b (ofAVr z)::cs,rows')
def sfill (rows:Rows) (place:Nat->Option (Nat × Nat)):List S2->List (Nat × SV)->Option (List S2)
 | cs,[]=>some cs
 | cs,(k,x)::rest=>
  match place k with
  | none=>none
  | some (off,size)=>match cellsS rows x with
   | some xs=>match Nat.beq xs.length size&&decide (off+size<=cs.length) with
    | true=>sfill rows place (putS cs off xs) rest
    | false=>none
   | none=>none
def buildS (P:Program) (rows:Rows) (t:TypeId) (parts:List (Nat × SV)):Option SV:=
 match P.underlying t,zeroOf P t with
 | some (.struct fs),some z=>match sizes P fs.toList with
  | some l=>match sfill rows (fun k=>l[k]?) (z.cells.map fun v=>.b (ofAVr v)) parts with
   | some cs=>some (.s (.agg cs))
   | none=>none
  | none=>none
 | some (.array _ e),some z=>match P.info? e with
  | some inf=>match sfill rows (fun k=>some (k*inf.size,inf.size)) (z.cells.map fun v=>.b (ofAVr v)) parts with
   | some cs=>some (.s (.agg cs))
   | none=>none
  | none=>none
 | _,_=>none
section
variable {C : Codes} {ι : Nat → Nat} {rows : Rows} {H : Heap} {P : Program} {R : Type} {r : R}
theorem fieldAddrS_ok {s:TypeId} {x:S1} {v:AV} {f:Nat} {K:S1->Option R} (hx:R1 ι rows x v) (h:fieldAddrS P s x f K=some r) (hc:cur1 rows x=true):
  ∃ y ys,afieldAddr P s v f=some y/\R1 ι rows ys y/\K ys=some r:=by
 unfold fieldAddrS at h
 unfold afieldAddr
 split at h
 ·rename_i fs hu
  rw [hu]
  split at h
  ·rename_i fd hf
   simp only [hf]
   split at h
   ·rename_i i hi
    simp only [hi]
    split at h
    ·cases h
    ·rename_i h0
     rw [if_neg (by intro e;rw [e] at h0;cases h0)]
     split at h
     ·rename_i q off
      have hs:sg rows q=none:=by simpa [cur1] using hc
      rw [hx.2 hs]
      exact ⟨_,.ptr _ _,rfl,⟨hx.1,fun _=>rfl⟩,h⟩
     ·rename_i q ver off
      obtain ⟨nb,e,n,hs⟩:=curV_spec (rows:=rows) hc
      rw [(hx.2 _ _ _ _ hs).2 rfl]
      refine ⟨_,.eptr _ _ _,rfl,⟨hx.1,fun nb' v' e' n' hs'=>?_⟩,h⟩
      rw [hs] at hs';cases hs'
      exact ⟨Nat.le_refl _,fun _=>rfl⟩
     ·rename_i cs off
      rw [hx.1]
      exact ⟨_,.lptr _ _,rfl,⟨rfl,hx.2⟩,h⟩
     ·cases h
   ·cases h
  ·cases h
 ·cases h
theorem indexAddrS_ok (hE:RowsE C ι rows H) {t:TypeId} {x ix:S1} {v iv:AV} {K:S1->Option R} (hx:R1 ι rows x v) (hi:R1 ι rows ix iv) (h:indexAddrS P rows t x ix K=some r) (hc:cur1 rows x=true):
  ∃ y ys,aindexAddr P t v iv=some y/\R1 ι rows ys y/\K ys=some r:=by
 unfold indexAddrS at h
 unfold aindexAddr
 split at h
 ·rename_i k n
  have hi:iv=.int k n:=hi
  subst hi
  simp only
  split at h
  ·rename_i e hu
   split at h
   ·rename_i i hinf
    split at h
    ·rename_i q ver esz
     split at h
     ·rename_i nb v' es len cs hrow
      split at h
      ·rename_i hver
       have:=Nat.eq_of_beq_eq_true hver
       subst this
       obtain ⟨hb,h⟩:=guardS_some h
       have hs:=sg_vec hrow
       obtain ⟨_,he,hv⟩:=(hx.2 _ _ _ _ hs).imp id fun k=>k rfl
       have hlen:len≠0:=by rintro rfl;omega
       have hv2:v=.slice (ι q) 0 len esz:=by
        rw [hv];unfold ownAV;rw [if_neg (by rintro ⟨_,e⟩;exact hlen e)]
       subst hv2
       simp only [hu,hinf]
       rw [if_pos hb]
       refine ⟨_,.eptr _ _ _,rfl,⟨hx.1,fun nb' v' e' n' hs'=>?_⟩,h⟩
       rw [hs] at hs';cases hs'
       exact ⟨Nat.le_refl _,fun _=>by simp⟩
      ·cases h
     ·cases h
    ·rename_i len cells
     obtain ⟨hb,h⟩:=guardS_some h
     have hv:=hx.1
     subst hv
     simp only [hu,hinf]
     rw [if_pos hb]
     exact ⟨_,.lptr _ _,rfl,⟨rfl,hx.2⟩,h⟩
    ·rename_i q ver off len esz
     obtain ⟨hb,h⟩:=guardS_some h
     obtain ⟨nb,e2,m,hs⟩:=curV_spec (rows:=rows) hc
     obtain ⟨e3,hle,hv⟩:=(hx.2 _ _ _ _ hs).2 rfl
     unfold SubV at hv
     have hm:¬ (nb=true/\m=0):=fun hm=>by omega
     rw [if_neg hm] at hv
     rcases hv with hv | ⟨hn0,_⟩
     ·subst hv
      simp only [hu,hinf]
      rw [if_pos hb]
      refine ⟨_,.eptr _ _ _,rfl,⟨hx.1,fun nb' v' e' n' hs'=>?_⟩,h⟩
      rw [hs] at hs';cases hs'
      exact ⟨Nat.le_refl _,fun _=>rfl⟩
     ·omega
    ·rename_i q off len esz
     obtain ⟨hb,h⟩:=guardS_some h
     have hs:sg rows q=none:=by simpa [cur1] using hc
     rw [hx.2 hs]
     simp only [hu,hinf]
     rw [if_pos hb]
     exact ⟨_,.ptr _ _,rfl,⟨hx.1,fun _=>rfl⟩,h⟩
    ·cases h
   ·cases h
  ·rename_i len e hu
   split at h
   ·rename_i i hinf
    split at h
    ·rename_i q off
     obtain ⟨hb,h⟩:=guardS_some h
     have hs:sg rows q=none:=by simpa [cur1] using hc
     rw [hx.2 hs]
     simp only [hu,hinf]
     rw [if_pos hb]
     exact ⟨_,.ptr _ _,rfl,⟨hx.1,fun _=>rfl⟩,h⟩
    ·rename_i q ver off
     obtain ⟨hb,h⟩:=guardS_some h
     obtain ⟨nb,e,n,hs⟩:=curV_spec (rows:=rows) hc
     rw [(hx.2 _ _ _ _ hs).2 rfl]
     simp only [hu,hinf]
     rw [if_pos hb]
     refine ⟨_,.eptr _ _ _,rfl,⟨hx.1,fun nb' v' e' n' hs'=>?_⟩,h⟩
     rw [hs] at hs';cases hs'
     exact ⟨Nat.le_refl _,fun _=>rfl⟩
    ·rename_i cells off
     obtain ⟨hb,h⟩:=guardS_some h
     rw [hx.1]
     simp only [hu,hinf]
     rw [if_pos hb]
     exact ⟨_,.lptr _ _,rfl,⟨rfl,hx.2⟩,h⟩
    ·cases h
   ·cases h
  ·cases h
 ·cases h
theorem wrowOf_of (hE:RowsE C ι rows H) {q:Nat} {cs:List AV} (h:H.get q=some (.cells cs)):wrowOf H q=some cs:=by
 unfold wrowOf;rw [if_pos (by rw [hE.lim];exact Nat.zero_le _)];exact rowOf_of h
theorem putCells_mem:∀ (xs cs:List AV) (off:Nat) (x:AV),x∈putCells cs off xs->x∈cs\/x∈xs
 | [],cs,off,x,h=>.inl h
 | y::ys,cs,off,x,h=>by
  rcases putCells_mem ys _ _ x h with h | h
  ·rcases List.mem_or_eq_of_mem_set h with h | h
   ·exact .inl h
   ·exact .inr (by rw [h];exact List.mem_cons_self)
  ·exact .inr (List.mem_cons_of_mem _ h)
theorem storeS_ok (hE:RowsE C ι rows H) {t:TypeId} {x:S1} {y:SV} {v u:AV} {K:Rows->Option R} (hx:R1 ι rows x v) (hy:RV ι rows y u) (h:storeS P rows t x y K=some r):
  ∃ H' rows',astore P H t v u=some H'/\RowsE C ι rows' H'/\Le ι rows ι rows'/\K rows'=some r:=by
 unfold storeS at h
 unfold astore
 split at h
 ·rename_i inf hinf
  split at h
  ·rename_i ys hys
   obtain ⟨k1,k2,k3⟩:=cellsS_ok hy hys
   split at h
   ·rename_i hl
    have hl:=Nat.eq_of_beq_eq_true hl
    have hul:u.cells.length=inf.size:=by rw [←k2.length,hl]
    split at h
    ·rename_i q off
     split at h
     ·rename_i cs hrow
      obtain ⟨hb,h⟩:=guardD_some h
      have hv:=hx.2 (sg_lit hrow)
      subst hv
      obtain ⟨cs',g1,g2⟩:=hE.row _ _ hrow
      simp only [wrowOf_of hE g1,hinf]
      rw [if_pos (by simp [k1,hul,k3];rw [←g2.length,←hl];exact hb)]
      have:=hE.turn hrow trivial (.lit (putS cs off ys)) (.cells (putCells cs' off u.cells)) (by
       unfold sg;rw [List.getElem?_set_self (lt_of_get hrow),hrow]) fun le=>by
        refine ⟨_,?_,putS_rel _ _ _ _ _ (k2.mono fun _ _=>le.r2) (g2.mono fun _ _=>le.r2)⟩
        rw [Heap.get_upd hE.ok _ (Heap.get_lt g1),if_pos rfl]
      exact ⟨_,_,rfl,this.1,this.2,h⟩
     ·cases h
    ·rename_i q ver off
     split at h
     ·rename_i nb v' esz n cs hrow
      split at h
      ·rename_i hver
       have:=Nat.eq_of_beq_eq_true hver
       subst this
       split at h
       ·rename_i vs hvs
        obtain ⟨hn,h⟩:=guardO_some h
        rw [shut_eq] at hn
        obtain ⟨hb,h⟩:=guardS_some h
        obtain ⟨g1,g2,g3,g4⟩:=vec_cells hE hrow hn
        have hv:=(hx.2 _ _ _ _ (sg_vec hrow)).2 rfl
        subst hv
        obtain ⟨e1,e2⟩:=toCells_rel k2 hvs
        simp only [wrowOf_of hE g1,hinf]
        rw [if_pos (by simp [k1,hul,k3];rw [←hl];exact hb)]
        rw [e1]
        have:=hE.turn hrow g4 (.vec nb ver esz n (putCells cs off vs)) (.cells (putCells cs off vs)) (by
         unfold sg;rw [List.getElem?_set_self (lt_of_get hrow),hrow]) fun le=>by
          refine ⟨by rw [putCells_length];exact g3,fun z hz=>?_,fun _=>?_⟩
          ·rcases putCells_mem _ _ _ _ hz with hz | hz
           ·exact g2 z hz
           ·exact e2 z hz
          ·rw [Heap.get_upd hE.ok _ (Heap.get_lt g1),if_pos rfl]
        exact ⟨_,_,rfl,this.1,this.2,h⟩
       ·cases h
      ·cases h
     ·cases h
    ·cases h
   ·cases h
  ·cases h
 ·cases h
theorem ofAVr_rel (x:AV):R1 ι rows (ofAVr x) x:=by
 unfold ofAVr
 split<;>first | rfl | exact ⟨rfl,fun x h=>by cases h⟩
theorem mkCells_ok:∀ (zs:List AV) (gs:List (Option Nat)) (rows:Rows),RowsE C ι rows H->
  RowsE C ι (mkCells zs gs rows).2 H/\Le ι rows ι (mkCells zs gs rows).2/\All2 (R2 ι (mkCells zs gs rows).2) (mkCells zs gs rows).1 zs
 | [],gs,rows,hE=>⟨hE,Le.refl _ _,.nil⟩
 | z::zs,gs,rows,hE=>by
  unfold mkCells
  split
  ·rename_i e he
   have h1:=hE.ghost e
   have le1:=le_app' ι rows (some (.vec true 0 e 0 []))
   obtain ⟨h2,h3,h4⟩:=mkCells_ok zs gs.tail _ h1
   refine ⟨h2,le1.trans h3,.cons (h3.r2 (x:=.b (.own rows.length 0 e)) ⟨by simp,fun nb v e' n hs=>?_⟩) h4⟩
   unfold sg at hs
   rw [List.getElem?_append_right (Nat.le_refl _)] at hs
   simp only [Nat.sub_self,List.getElem?_cons_zero,Option.some.injEq,Prod.mk.injEq] at hs
   obtain ⟨rfl,rfl,rfl,rfl⟩:=hs
   exact ⟨Nat.le_refl _,fun _=>⟨rfl,by simp [ownAV]⟩⟩
  ·obtain ⟨h2,h3,h4⟩:=mkCells_ok zs gs.tail rows hE
   exact ⟨h2,h3,.cons (ofAVr_rel _) h4⟩
theorem sfill_ok {place:Nat->Option (Nat × Nat)}:∀ (ps:List (Nat × SV)) (ps':List (Nat × AV)) (cs out:List S2) (cs':List AV),sfill rows place cs ps=some out->
  All2 (fun p q=>p.1=q.1/\RV ι rows p.2 q.2) ps ps'->All2 (R2 ι rows) cs cs'->∃ out',afill place cs' ps'=some out'/\All2 (R2 ι rows) out out'
 | [],[],cs,out,cs',h,_,hc=>by simp only [sfill,Option.some.injEq] at h;subst h;exact ⟨cs',rfl,hc⟩
 | (k,x)::ps,(k',v)::ps',cs,out,cs',h,.cons hp ht,hc=>by
  obtain ⟨e,hv⟩:=hp
  simp only at e hv
  subst e
  simp only [sfill] at h
  simp only [afill]
  split at h
  ·cases h
  ·rename_i off size hpl
   simp only [hpl]
   split at h
   ·rename_i xs hxs
    split at h
    ·rename_i hb
     simp only [Bool.and_eq_true,decide_eq_true_eq] at hb
     obtain ⟨k1,k2,k3⟩:=cellsS_ok hv hxs
     have hl:v.cells.length=size:=by rw [←k2.length];exact Nat.eq_of_beq_eq_true hb.1
     rw [if_pos (by simp [k1,hl];rw [←hc.length];exact hb.2)]
     exact sfill_ok ps ps' _ out _ h ht (putS_rel _ _ _ _ _ k2 hc)
    ·cases h
   ·cases h
theorem buildS_ok {t:TypeId} {parts:List (Nat × SV)} {parts':List (Nat × AV)} {y:SV} (hp:All2 (fun p q=>p.1=q.1/\RV ι rows p.2 q.2) parts parts') (h:buildS P rows t parts=some y):
  ∃ z,abuild P t parts'=some z/\RV ι rows y z:=by
 unfold buildS at h
 unfold abuild
 have zc:∀ (z:AV),All2 (R2 ι rows) (z.cells.map fun v=>.b (ofAVr v)) z.cells:=by
  intro z
  have:=All2.of_map (R:=R2 ι rows) (fun v=>.b (ofAVr v)) id z.cells fun v _=>ofAVr_rel v
  simpa using this
 split at h
 ·rename_i fs z hu hz
  split at h
  ·rename_i l hl
   split at h
   ·rename_i cs hcs
    simp only [Option.some.injEq] at h;subst h
    obtain ⟨out,h1,h2⟩:=sfill_ok parts parts' _ _ _ hcs hp (zc z)
    exact ⟨.agg out,by simp only [hu,hz,hl,h1];rfl,_,rfl,h2⟩
   ·cases h
  ·cases h
 ·rename_i n e z hu hz
  split at h
  ·rename_i inf hinf
   split at h
   ·rename_i cs hcs
    simp only [Option.some.injEq] at h;subst h
    obtain ⟨out,h1,h2⟩:=sfill_ok parts parts' _ _ _ hcs hp (zc z)
    exact ⟨.agg out,by simp only [hu,hz,hinf,h1];rfl,_,rfl,h2⟩
   ·cases h
  ·cases h
 ·cases h
end
end Go.Abs
end
noncomputable section
namespace Go.Abs
def okc : AV → Bool
  | .bool _ | .int _ _ | .flo _ _ | .string _ | .list _ _ | .nl 0 [] => true
  | _ => false
def partCells (rows : Rows) : List (Nat × SV) → Option (List (Nat × List AV))
  | [] => some []
  | (k, x) :: ps => match cellsS rows x with
    | some ys => match toCells ys, partCells rows ps with
      | some vs, some l => some ((k, vs) :: l)
      | _, _ => none
    | none => none
def fillC (place : Nat → Option (Nat × Nat)) : List AV → List (Nat × List AV) → Option (List AV)
  | cs, [] => some cs
  | cs, (k, x) :: rest =>
    match place k with
    | none => none
    | some (off, size) => match Nat.beq x.length size && decide (off + size ≤ cs.length) with
      | true => fillC place (putCells cs off x) rest
      | false => none
section
variable {R : Type}
def buildSliceS (P : Program) (rows : Rows) (t : TypeId) (len : Nat) (parts : List (Nat × SV)) (K : S1 → Rows → Option R) : Option R :=
  match P.underlying t with
  | some (.slice e) => match P.info? e, zeroOf P e with
    | some inf, some z => match decide (len * inf.size ≤ 16777216) && z.cells.length == inf.size with
      | true => match partCells rows parts with
        | some ps => match fillC (fun k => some (k * inf.size, inf.size)) (zrow z.cells (len * inf.size)) ps with
          | some cs => match cs.all okc && Nat.beq cs.length (len * inf.size) with
            | true => K (.own rows.length 0 inf.size) (rows ++ [some (.vec false 0 inf.size len cs)])
            | false => none
          | none => none
        | none => none
      | false => none
    | _, _ => none
  | _ => none
def makeSliceS (P : Program) (rows : Rows) (t : TypeId) (l c : S1) (K : S1 → Rows → Option R) : Option R :=
  match l, c with
  | .int _ l, .int _ c => match P.underlying t with
    | some (.slice e) => match P.info? e, zeroOf P e with
      | some inf, some z => match (z.cells.all okc && Nat.beq z.cells.length inf.size) && !z.cells.isEmpty with
        | true => gO (S_ (decide (0 ≤ l ∧ l ≤ c ∧ c ≤ 281474976710656 ∧ inf.bytes * c ≤ 281474976710656)))
            (K (.own rows.length 0 inf.size) (rows ++ [some (.vec false 0 inf.size l.toNat (zrow z.cells (l.toNat * inf.size)))]))
        | false => none
      | _, _ => none
    | _ => none
  | _, _ => none
def loS : Option S1 → Option Int
  | none => some 0
  | some (.int _ n) => some n
  | _ => none
def hiS (len : Nat) : Option S1 → Option Int
  | none => some len
  | some (.int _ n) => some n
  | _ => none
def cutS (P : Program) (rows : Rows) (e : TypeId) (n : Nat) (x : S1) (lo hi : Option S1) (K : S1 → Option R) : Option R :=
  match P.info? e with
  | some inf => match x with
    | .ptr r off => match lo, hi with
      | none, none => match rows[r]? with
        | some (some (.lit cs)) => gO (decide (off + n * inf.size ≤ cs.length)) (K (.lsub r off n inf.size))
        | _ => none
      | _, _ => none
    | .lptr cs off => match loS lo, hiS n hi with
      | some l, some h => gO (S_ (decide (0 ≤ l ∧ l ≤ h ∧ h ≤ (n : Int)))) (gO (S_ (decide (off + n * inf.size ≤ cs.length))) (K (.list (h.toNat - l.toNat) ((cs.drop (off + l.toNat * inf.size)).take ((h.toNat - l.toNat) * inf.size)))))
      | _, _ => none
    | _ => none
  | none => none
def sliceS (P : Program) (rows : Rows) (t : TypeId) (x : S1) (lo hi : Option S1) (K : S1 → Option R) : Option R :=
  match P.underlying t with
  | some .string => match x with
    | .string s => match loS lo, hiS s.data.toList.length hi with
      | some l, some h => gO (S_ (decide (0 ≤ l ∧ l ≤ h ∧ h ≤ (s.data.toList.length : Int)))) (K (.string ⟨((s.data.toList.drop l.toNat).take (h.toNat - l.toNat)).toArray⟩))
      | _, _ => none
    | _ => none
  | some (.slice e) => match P.info? e with
    | some inf => match x with
      | .list len cs => match loS lo, hiS len hi with
        | some l, some h => gO (S_ (decide (0 ≤ l ∧ l ≤ h ∧ h ≤ (len : Int)))) (gO (S_ (decide (len * inf.size = cs.length))) (match Nat.beq inf.size 0 with | true => none | false => K (.list (h.toNat - l.toNat) ((cs.drop (l.toNat * inf.size)).take ((h.toNat - l.toNat) * inf.size)))))
        | _, _ => none
      | .own r ver _ => match sg rows r with
        | some (_, v, es, m) => match Nat.beq ver v && Nat.beq es inf.size with
          | true => match loS lo, hiS m hi with
            | some l, some h => gO (S_ (decide (0 ≤ l ∧ l ≤ h ∧ h ≤ (m : Int)))) (K (.sub r ver l.toNat (h.toNat - l.toNat) es))
            | _, _ => none
          | false => none
        | none => none
      | .sub r ver off n es => match curV rows r ver && Nat.beq es inf.size with
        | true => match loS lo, hiS n hi with
          | some l, some h => gO (S_ (decide (0 ≤ l ∧ l ≤ h ∧ h ≤ (n : Int)))) (K (.sub r ver (off + l.toNat) (h.toNat - l.toNat) es))
          | _, _ => none
        | false => none
      | _ => none
    | none => none
  | some (.pointer a) => match P.underlying a with
    | some (.array n e) => cutS P rows e n x lo hi K
    | _ => none
  | some (.array n e) => cutS P rows e n x lo hi K
  | _ => none
def slice3S (P : Program) (t : TypeId) (x : S1) (lo : Option S1) (hi mx : S1) (K : S1 → Option R) : Option R :=
  match P.underlying t with
  | some (.slice e) => match P.info? e with
    | some inf => match x with
      | .list len cs => match loS lo, hi, mx with
        | some l, .int _ h, .int _ m => gO (S_ (decide (0 ≤ l ∧ l ≤ h ∧ h ≤ m ∧ m ≤ (len : Int)))) (gO (S_ (decide (len * inf.size = cs.length))) (match Nat.beq inf.size 0 with | true => none | false => K (.list (h.toNat - l.toNat) ((cs.drop (l.toNat * inf.size)).take ((h.toNat - l.toNat) * inf.size)))))
        | _, _, _ => none
      | _ => none
    | none => none
  | _ => none
def lenS (P : Program) (rows : Rows) (t : TypeId) (x : S1) (K : S1 → Option R) : Option R :=
  match P.underlying t with
  | some .string => match x with
    | .string s => K (.int .i64 s.data.toList.length)
    | _ => none
  | some (.array n _) => K (.int .i64 n)
  | some (.slice _) => match x with
    | .raw .nilslice => K (.int .i64 0)
    | .own r ver _ => match sg rows r with
      | some (_, v, _, n) => match Nat.beq ver v with
        | true => K (.int .i64 n)
        | false => none
      | none => none
    | .list n _ => K (.int .i64 n)
    | .nl n _ => K (.int .i64 n)
    | .sub r ver _ n _ => match curV rows r ver with
      | true => K (.int .i64 n)
      | false => none
    | .lsub r _ n _ => match (sg rows r).isNone with
      | true => K (.int .i64 n)
      | false => none
    | _ => none
  | some (.pointer a) => match P.underlying a with
    | some (.array n _) => K (.int .i64 n)
    | _ => none
  | _ => none
def srcS (rows : Rows) (size : Nat) (x : S1) (K : Nat → List AV → Option R) : Option R :=
  match x with
  | .raw .nilslice => K 0 []
  | .own r ver esz => match rows[r]? with
    | some (some (.vec _ v es n cs)) => match Nat.beq ver v && Nat.beq es size with
      | true => K n cs
      | false => none
    | _ => none
  | .sub r ver off n esz => match rows[r]? with
    | some (some (.vec _ v es m cs)) => match Nat.beq ver v && Nat.beq es size with
      | true => K n ((cs.drop (off * size)).take (n * size))
      | false => none
    | _ => none
  | .lsub r off n esz => match rows[r]? with
    | some (some (.lit cs)) => match Nat.beq esz size with
      | true => match toCells cs with
        | some us => gO (decide (off + n * size ≤ us.length)) (K n ((us.drop off).take (n * size)))
        | none => none
      | false => none
    | _ => none
  | .list n cs => gO (S_ (decide (cs.length = n * size))) (K n cs)
  | .string s => match Nat.beq size 1 with
    | true => K s.data.toList.length (byteCells s)
    | false => none
  | _ => none
def addedS (P : Program) (rows : Rows) (xT : TypeId) (inf : TypeInfo) (z : AV) (x : S1) (K : Nat → List AV → Option R) : Option R :=
  match P.underlying xT with
  | some (.int _) => match x with
    | .int _ n => match z.cells.all okc && Nat.beq z.cells.length inf.size && !z.cells.isEmpty && Nat.ble inf.bytes 1048576 with
      | true => gO (S_ (decide (0 ≤ n ∧ n ≤ 1048576))) (K n.toNat (zrow z.cells (n.toNat * inf.size)))
      | false => none
    | _ => none
  | some _ => srcS rows inf.size x K
  | none => none
def copyS (P : Program) (rows : Rows) (dT : TypeId) (d s : S1) (K : S1 → Rows → Option R) : Option R :=
  match P.underlying dT with
  | some (.slice e) => match P.info? e with
    | some inf => srcS rows inf.size s fun n2 ys => match d with
      | .own r ver _ => match rows[r]? with
        | some (some (.vec nb v es m cs)) => match Nat.beq ver v && Nat.beq es inf.size with
          | true => K (.int .i64 (S_ ((Nat.min n2 m : Nat) : Int))) (rows.set r (some (.vec nb v es m (putCells cs 0 (ys.take (Nat.min n2 m * inf.size))))))
          | false => none
        | _ => none
      | .sub r ver off k _ => match rows[r]? with
        | some (some (.vec nb v es m cs)) => match Nat.beq ver v && Nat.beq es inf.size with
          | true => K (.int .i64 (S_ ((Nat.min n2 k : Nat) : Int))) (rows.set r (some (.vec nb v es m (putCells cs (off * inf.size) (ys.take (Nat.min n2 k * inf.size))))))
          | false => none
        | _ => none
      | _ => none
    | none => none
  | _ => none
def clearS (P : Program) (rows : Rows) (t : TypeId) (x : S1) (K : Rows → Option R) : Option R :=
  match x with
  | .own r ver _ => match P.underlying t with
    | some (.slice e) => match P.info? e, zeroOf P e with
      | some inf, some z => match rows[r]? with
        | some (some (.vec nb v es m cs)) => match Nat.beq ver v && Nat.beq es inf.size && (z.cells.all okc && Nat.beq z.cells.length inf.size && !z.cells.isEmpty) with
          | true => K (rows.set r (some (.vec nb v es m (zrow z.cells (m * inf.size)))))
          | false => none
        | _ => none
      | _, _ => none
    | _ => none
  | _ => none
def appendS (P : Program) (rows : Rows) (sT xT : TypeId) (s x : S1) (K : S1 → Rows → Option R) : Option R :=
  match P.underlying sT with
  | some (.slice e) => match P.info? e, zeroOf P e with
    | some inf, some z => match z.cells.length == inf.size with
      | true => addedS P rows xT inf z x fun n2 ys => match s with
        | .own r ver _ => match rows[r]? with
          | some (some (.vec nb v es n cs)) => match Nat.beq ver v && Nat.beq es inf.size with
            | true => gO (S_ (decide ((n + n2) * (inf.bytes + 1) ≤ 549755813888))) (K (.own r (ver + 1) es) (rows.set r (some (.vec nb (ver + 1) es (n + n2) (cs ++ ys)))))
            | false => none
          | _ => none
        | .raw .nilslice => gO (S_ (decide (n2 * (inf.bytes + 1) ≤ 549755813888))) (K (.own rows.length 0 inf.size) (rows ++ [some (.vec true 0 inf.size n2 ys)]))
        | _ => none
      | false => none
    | _, _ => none
  | _ => none
end
section
variable {C : Codes} {ι : Nat → Nat} {rows : Rows} {H : Heap} {P : Program} {R : Type} {r : R}
theorem partCells_ok : ∀ {ps : List (Nat × SV)} {ps' : List (Nat × AV)} {l : List (Nat × List AV)}, All2 (fun p q => p.1 = q.1 ∧ RV ι rows p.2 q.2) ps ps' → partCells rows ps = some l →
    All2 (fun (p : Nat × List AV) (q : Nat × AV) => p.1 = q.1 ∧ q.2.known = true ∧ q.2.cells = p.2 ∧ ∀ x ∈ p.2, Cell x) l ps'
  | [], [], l, _, h => by simp only [partCells, Option.some.injEq] at h; subst h; exact .nil
  | (k, x) :: ps, (k', v) :: ps', l, .cons hp ht, h => by
    simp only [partCells] at h
    split at h
    · rename_i ys hys
      split at h
      · rename_i vs l' h1 h2
        simp only [Option.some.injEq] at h; subst h
        obtain ⟨k1, k2, _⟩ := cellsS_ok hp.2 hys
        obtain ⟨e1, e2⟩ := toCells_rel k2 h1
        exact .cons ⟨hp.1, k1, e1, e2⟩ (partCells_ok ht h2)
      · cases h
    · cases h
theorem fillC_ok {place : Nat → Option (Nat × Nat)} : ∀ {ps : List (Nat × List AV)} {ps' : List (Nat × AV)} {cs out : List AV},
    All2 (fun (p : Nat × List AV) (q : Nat × AV) => p.1 = q.1 ∧ q.2.known = true ∧ q.2.cells = p.2 ∧ ∀ x ∈ p.2, Cell x) ps ps' → fillC place cs ps = some out →
    afill place cs ps' = some out ∧ ∀ x ∈ out, x ∈ cs ∨ Cell x
  | [], [], cs, out, _, h => by simp only [fillC, Option.some.injEq] at h; subst h; exact ⟨rfl, fun x hx => .inl hx⟩
  | (k, xs) :: ps, (k', v) :: ps', cs, out, .cons hp ht, h => by
    obtain ⟨e, hk, hc, hcell⟩ := hp
    simp only at e hk hc hcell
    subst e
    simp only [fillC] at h
    simp only [afill]
    split at h
    · cases h
    · rename_i off size hpl
      simp only [hpl]
      split at h
      · rename_i hb
        simp only [Bool.and_eq_true, decide_eq_true_eq] at hb
        have hl : xs.length = size := Nat.eq_of_beq_eq_true hb.1
        rw [if_pos (by simp [hk, hc, hl]; exact hb.2), hc]
        obtain ⟨h1, h2⟩ := fillC_ok ht h
        refine ⟨h1, fun x hx => ?_⟩
        rcases h2 x hx with hx | hx
        · rcases putCells_mem _ _ _ _ hx with hx | hx
          · exact .inl hx
          · exact .inr (hcell x hx)
        · exact .inr hx
      · cases h
theorem ofV1_nolist (v : Value) (n : Nat) (cs : List AV) : ofV1 v ≠ .list n cs := by
  unfold ofV1
  repeat' split
  all_goals simp
theorem ofV1_cells (v : Value) : (ofV1 v).cells = [ofV1 v] := by
  unfold ofV1
  repeat' split
  all_goals rfl
theorem ofV_nolist (v : Value) (n : Nat) (cs : List AV) : ∀ x ∈ (ofV v).cells, x ≠ .list n cs := by
  intro x hx
  have h1 : ∀ v : Value, x ∈ (ofV1 v).cells → x ≠ .list n cs := by
    intro v hx
    rw [ofV1_cells] at hx
    simp only [List.mem_singleton] at hx
    subst hx
    exact ofV1_nolist v n cs
  cases v with
  | agg vs =>
    simp only [ofV, AV.cells, List.mem_map] at hx
    obtain ⟨a, _, rfl⟩ := hx
    exact ofV1_nolist a n cs
  | tuple vs => rw [show (ofV (.tuple vs)).cells = [ofV (.tuple vs)] from rfl] at hx; simp at hx; subst hx; simp [ofV]
  | iface t v => rw [show (ofV (.iface t v)).cells = [ofV (.iface t v)] from rfl] at hx; simp at hx; subst hx; simp [ofV]
  | _ => simp only [ofV] at hx; exact h1 _ hx
theorem nlFix_mem {x : AV} : ∀ (fs : List Bool) (cs : List AV), x ∈ nlFix fs cs → x ∈ cs ∨ x = .nl 0 []
  | [], cs, h => by cases cs <;> exact .inl h
  | f :: fs, [], h => by rw [nlFix_nil] at h; cases h
  | f :: fs, c :: cs, h => by
    unfold nlFix at h
    split at h
    · rename_i e1 e2
      simp only [List.cons.injEq] at e1 e2
      obtain ⟨rfl, rfl⟩ := e1
      obtain ⟨rfl, rfl⟩ := e2
      rcases List.mem_cons.1 h with h | h
      · exact .inr h
      · rcases nlFix_mem fs cs h with h | h
        · exact .inl (List.mem_cons_of_mem _ h)
        · exact .inr h
    · rename_i e1 e2
      simp only [List.cons.injEq] at e1 e2
      obtain ⟨rfl, rfl⟩ := e1
      obtain ⟨rfl, rfl⟩ := e2
      rcases List.mem_cons.1 h with h | h
      · exact .inl (by rw [h]; exact List.mem_cons_self)
      · rcases nlFix_mem fs cs h with h | h
        · exact .inl (List.mem_cons_of_mem _ h)
        · exact .inr h
    · exact .inl h
theorem nlZero_mem {P : Program} {t : TypeId} {x z : AV} (h : x ∈ (nlZero P t z).cells) : x ∈ z.cells ∨ x = .nl 0 [] := by
  unfold nlZero at h
  split at h
  · exact nlFix_mem _ _ h
  · split at h
    · exact .inr (by simpa [AV.cells] using h)
    · exact .inl h
  · exact .inl h
theorem zero_nolist {t : TypeId} {z : AV} (h : zeroOf P t = some z) (n : Nat) (cs : List AV) : ∀ x ∈ z.cells, x ≠ .list n cs := by
  unfold zeroOf at h
  split at h
  · split at h
    · split at h
      · simp only [Option.some.injEq] at h; subst h
        intro x hx
        rcases nlZero_mem hx with hx | rfl
        · exact ofV_nolist _ n cs x hx
        · simp
      · cases h
    · cases h
  · cases h
theorem okc_cell {x : AV} (h : okc x = true) (hl : ∀ n cs, x ≠ .list n cs) : Cell x := by
  cases x <;> first
    | (simp [okc] at h; done)
    | exact .bool _
    | exact .int _ _
    | exact .flo _ _
    | exact .string _
    | exact absurd rfl (hl _ _)
    | (rename_i n cs
       simp only [okc] at h
       split at h <;> first
         | (cases h; done)
         | (rename_i e; first | (cases e; exact .nl 0 [] fun x h => by cases h) | cases e))
theorem zrow_mem {z : List AV} {n : Nat} (hz : z ≠ []) : ∀ x ∈ zrow z n, x ∈ z := by
  intro x hx
  simp only [zrow, List.mem_map, List.mem_range] at hx
  obtain ⟨j, _, rfl⟩ := hx
  have hp : 0 < z.length := List.length_pos_iff.2 hz
  have := Nat.mod_lt j hp
  rw [List.getElem?_eq_getElem this]
  exact List.getElem_mem this
theorem zrow_length (z : List AV) (n : Nat) : (zrow z n).length = n := by simp [zrow]
theorem own_new {b : Nat} {nb : Bool} {esz n : Nat} {cs : List AV} : R1 (put ι rows.length b) (rows ++ [some (.vec nb 0 esz n cs)]) (.own rows.length 0 esz) (ownAV b nb esz n) := by
  refine ⟨by simp, fun nb' v' e' n' hs => ?_⟩
  unfold sg at hs
  rw [List.getElem?_append_right (Nat.le_refl _)] at hs
  simp only [Nat.sub_self, List.getElem?_cons_zero, Option.some.injEq, Prod.mk.injEq] at hs
  obtain ⟨rfl, rfl, rfl, rfl⟩ := hs
  exact ⟨Nat.le_refl _, fun _ => ⟨rfl, by rw [put_self]⟩⟩
theorem push_vec (hE : RowsE C ι rows H) {nb : Bool} {esz n : Nat} {cs : List AV} (hl : cs.length = n * esz) (hc : ∀ x ∈ cs, Cell x) :
    RowsE C (put ι rows.length H.n) (rows ++ [some (.vec nb 0 esz n cs)]) (H.push (.cells cs)) :=
  hE.push _ _ ⟨hl, hc, fun _ => by rw [put_self]; exact Heap.get_push_self⟩
theorem buildSliceS_ok (hE : RowsE C ι rows H) {t : TypeId} {len : Nat} {parts : List (Nat × SV)} {parts' : List (Nat × AV)} {K : S1 → Rows → Option R} (hp : All2 (fun p q => p.1 = q.1 ∧ RV ι rows p.2 q.2) parts parts')
    (h : buildSliceS P rows t len parts K = some r) :
    ∃ y H' ys rows' ι', abuildSlice P H t len parts' = some (y, H') ∧ RowsE C ι' rows' H' ∧ R1 ι' rows' ys y ∧ Le ι rows ι' rows' ∧ K ys rows' = some r := by
  unfold buildSliceS at h
  unfold abuildSlice
  split at h
  · rename_i e hu
    split at h
    · rename_i inf z hinf hz
      split at h
      · rename_i hc
        split at h
        · rename_i ps hps
          split at h
          · rename_i cs hcs
            split at h
            · rename_i hok
              simp only [Bool.and_eq_true, List.all_eq_true] at hok
              obtain ⟨f1, f2⟩ := fillC_ok (partCells_ok hp hps) hcs
              have hlen := Nat.eq_of_beq_eq_true hok.2
              have hcell : ∀ x ∈ cs, Cell x := by
                intro x hx
                rcases f2 x hx with h2 | h2
                · by_cases hz0 : z.cells = []
                  · rw [hz0] at h2
                    simp only [zrow, List.mem_map] at h2
                    obtain ⟨j, _, rfl⟩ := h2
                    exact absurd (hok.1 _ hx) (by simp [okc])
                  · exact okc_cell (hok.1 x hx) fun n c => zero_nolist hz n c x (zrow_mem hz0 x h2)
                · exact h2
              refine ⟨_, _, _, _, _, by simp only [hu, hinf, hz]; rw [if_pos hc, f1]; rfl, push_vec hE (nb := false) hlen hcell, ?_, le_app _ _ _ _, h⟩
              have := own_new (ι := ι) (rows := rows) (b := H.n) (nb := false) (esz := inf.size) (n := len) (cs := cs)
              simpa [ownAV] using this
            · cases h
          · cases h
        · cases h
      · cases h
    · cases h
  · cases h
theorem makeSliceS_ok (hE : RowsE C ι rows H) {t : TypeId} {l c : S1} {lv cv : AV} {K : S1 → Rows → Option R} (hl : R1 ι rows l lv) (hc : R1 ι rows c cv) (h : makeSliceS P rows t l c K = some r) :
    ∃ y H' ys rows' ι', amakeSlice P H t lv cv = some (y, H') ∧ RowsE C ι' rows' H' ∧ R1 ι' rows' ys y ∧ Le ι rows ι' rows' ∧ K ys rows' = some r := by
  unfold makeSliceS at h
  unfold amakeSlice
  split at h
  · rename_i k l k' c
    have hl : lv = .int k l := hl
    have hc : cv = .int k' c := hc
    subst hl; subst hc
    split at h
    · rename_i e hu
      split at h
      · rename_i inf z hinf hz
        split at h
        · rename_i hok
          simp only [Bool.and_eq_true, List.all_eq_true, Bool.not_eq_true', List.isEmpty_eq_false_iff] at hok
          obtain ⟨⟨h1, h2⟩, h3⟩ := hok
          obtain ⟨hb, h⟩ := guardS_some h
          have h2 := Nat.eq_of_beq_eq_true h2
          have hcell : ∀ x ∈ zrow z.cells (l.toNat * inf.size), Cell x := fun x hx => okc_cell (h1 x (zrow_mem h3 x hx)) fun n c => zero_nolist hz n c x (zrow_mem h3 x hx)
          refine ⟨_, _, _, _, _, by simp only [hu, hinf, hz]; rw [if_pos ⟨hb.1, hb.2.1, hb.2.2.1, hb.2.2.2, h2⟩], push_vec hE (nb := false) (zrow_length _ _) hcell, ?_, le_app _ _ _ _, h⟩
          have := own_new (ι := ι) (rows := rows) (b := H.n) (nb := false) (esz := inf.size) (n := l.toNat) (cs := zrow z.cells (l.toNat * inf.size))
          simpa [ownAV] using this
        · cases h
      · cases h
    · cases h
  · cases h
def OR1 (ι : Nat → Nat) (rows : Rows) : Option S1 → Option AV → Prop
  | none, none => True
  | some x, some v => R1 ι rows x v
  | _, _ => False
theorem bounds_of {len : Nat} {lo hi : Option S1} {lo' hi' : Option AV} {l h : Int} (hlo : OR1 ι rows lo lo')
    (hhi : OR1 ι rows hi hi') (el : loS lo = some l) (eh : hiS len hi = some h) (hb : 0 ≤ l ∧ l ≤ h ∧ h ≤ (len : Int)) :
    abounds len lo' hi' = some (l.toNat, h.toNat) := by
  have hL : (lo' = none ∧ l = 0) ∨ ∃ k, lo' = some (.int k l) := by
    cases lo with
    | none =>
      cases lo' with
      | none => simp only [loS, Option.some.injEq] at el; exact .inl ⟨rfl, el.symm⟩
      | some v => exact hlo.elim
    | some x =>
      cases lo' with
      | none => exact hlo.elim
      | some v =>
        cases x <;> simp only [loS, reduceCtorEq, Option.some.injEq] at el
        subst el
        have hlo : v = .int _ _ := hlo
        exact .inr ⟨_, by rw [hlo]⟩
  have hH : (hi' = none ∧ h = len) ∨ ∃ k, hi' = some (.int k h) := by
    cases hi with
    | none =>
      cases hi' with
      | none => simp only [hiS, Option.some.injEq] at eh; exact .inl ⟨rfl, eh.symm⟩
      | some v => exact hhi.elim
    | some x =>
      cases hi' with
      | none => exact hhi.elim
      | some v =>
        cases x <;> simp only [hiS, reduceCtorEq, Option.some.injEq] at eh
        subst eh
        have hhi : v = .int _ _ := hhi
        exact .inr ⟨_, by rw [hhi]⟩
  unfold abounds
  rcases hL with ⟨rfl, rfl⟩ | ⟨k, rfl⟩ <;> rcases hH with ⟨rfl, rfl⟩ | ⟨k', rfl⟩ <;> simp only
  · simp
  · rw [if_pos (by omega)]; simp only; rw [if_pos (by omega)]; rfl
  · rw [if_pos hb.1]; simp only [Int.toNat_natCast]; rw [if_pos (by omega)]
  · rw [if_pos hb.1, if_pos (by omega)]; simp only; rw [if_pos (by omega)]
theorem cutS_ok (hE : RowsE C ι rows H) {e : TypeId} {n : Nat} {x : S1} {v : AV} {lo hi : Option S1} {lo' hi' : Option AV} {K : S1 → Option R} (hx : R1 ι rows x v) (hlo : OR1 ι rows lo lo')
    (hhi : OR1 ι rows hi hi') (h : cutS P rows e n x lo hi K = some r) :
    ∃ y ys, acut P e v n lo' hi' H = some y ∧ R1 ι rows ys y ∧ K ys = some r := by
  unfold cutS at h
  split at h
  · rename_i inf hinf
    split at h
    · rename_i q off
      split at h
      · split at h
        · rename_i cs hrow
          obtain ⟨hg, h⟩ := guardD_some h
          have hv := hx.2 (sg_lit hrow)
          subst hv
          obtain ⟨cs', g1, g2⟩ := hE.row _ _ hrow
          have hlo' : lo' = none := by cases lo' with | none => rfl | some v => exact hlo.elim
          have hhi' : hi' = none := by cases hi' with | none => rfl | some v => exact hhi.elim
          subst hlo'; subst hhi'
          refine ⟨.slice (ι q) off n inf.size, .lsub q off n inf.size, ?_, ⟨hx.1, fun _ => rfl⟩, h⟩
          simp only [acut, hinf, abounds]
          rw [if_pos ⟨Nat.zero_le _, Nat.le_refl _⟩]
          simp only [rowOf_of g1]
          rw [if_pos (by rw [← g2.length]; exact hg), if_neg (by omega)]
          simp
        · cases h
      · cases h
    · rename_i cs off
      obtain ⟨hv, hcell⟩ := hx
      subst hv
      split at h
      · rename_i l h' el eh
        obtain ⟨hbd0, h⟩ := guardS_some h
        obtain ⟨hg, h⟩ := guardS_some h
        have hbd := bounds_of hlo hhi el eh hbd0
        refine ⟨.list _ _, .list _ _, ?_, ⟨rfl, fun x hx => hcell x (List.mem_of_mem_drop (List.mem_of_mem_take hx))⟩, h⟩
        simp only [acut, hinf, hbd]
        rw [if_pos hg]
        by_cases e : l.toNat = h'.toNat
        · rw [if_pos e, e]; simp
        · rw [if_neg e]
      · cases h
    · cases h
  · cases h
theorem sliceS_ok (hE : RowsE C ι rows H) {t : TypeId} {x : S1} {v : AV} {lo hi : Option S1} {lo' hi' : Option AV} {K : S1 → Option R} (hx : R1 ι rows x v) (hlo : OR1 ι rows lo lo')
    (hhi : OR1 ι rows hi hi') (h : sliceS P rows t x lo hi K = some r) :
    ∃ y ys, aslice P H t v lo' hi' = some y ∧ R1 ι rows ys y ∧ K ys = some r := by
  unfold sliceS at h
  unfold aslice
  split at h
  · rename_i hu
    split at h
    · rename_i s
      have hx : v = .string s := hx
      subst hx
      split at h
      · rename_i l h' el eh
        obtain ⟨hb, h⟩ := guardS_some h
        have := bounds_of hlo hhi el eh hb
        refine ⟨.string _, .string _, ?_, rfl, h⟩
        simp only [hu, this]
      · cases h
    · cases h
  · rename_i e hu
    split at h
    · rename_i inf hinf
      split at h
      · rename_i len cs
        obtain ⟨hv, hcell⟩ := hx
        subst hv
        split at h
        · rename_i l h' el eh
          obtain ⟨hb, h⟩ := guardS_some h
          obtain ⟨hlen, h⟩ := guardS_some h
          have hz0 : inf.size ≠ 0 := by
            intro e; rw [e] at h; cases h
          have h : K (.list (h'.toNat - l.toNat) ((cs.drop (l.toNat * inf.size)).take ((h'.toNat - l.toNat) * inf.size))) = some r := by
            split at h
            · cases h
            · exact h
          have hbd := bounds_of hlo hhi el eh hb
          refine ⟨.list _ _, .list _ _, ?_, ⟨rfl, fun x hx => hcell x (List.mem_of_mem_drop (List.mem_of_mem_take hx))⟩, h⟩
          simp only [hu, hinf, hbd]
          by_cases e : l.toNat = h'.toNat
          · rw [if_pos e, e]
            simp
          · rw [if_neg e]
            by_cases he : cs = []
            · subst he
              have hne : len ≠ 0 := by omega
              simp only [List.length_nil] at hlen
              rcases Nat.mul_eq_zero.1 hlen with h1 | h1
              · omega
              · exact absurd h1 hz0
            · rw [if_pos ⟨hlen, he⟩]
        · cases h
      · rename_i q ver esz
        split at h
        · rename_i nb v' es m hs
          split at h
          · rename_i hb
            simp only [Bool.and_eq_true] at hb
            have e1 := Nat.eq_of_beq_eq_true hb.1
            have e2 := Nat.eq_of_beq_eq_true hb.2
            subst e1
            obtain ⟨_, hv⟩ := hx.2 _ _ _ _ hs
            obtain ⟨e3, hv⟩ := hv rfl
            split at h
            · rename_i l h' el eh
              obtain ⟨hbd0, h⟩ := guardS_some h
              have hbd := bounds_of hlo hhi el eh hbd0
              have hsub : ∀ y, SubV (ι q) nb es m l.toNat (h'.toNat - l.toNat) y → R1 ι rows (.sub q ver l.toNat (h'.toNat - l.toNat) es) y := fun y hy =>
                ⟨hx.1, fun nb1 v1 e1 m1 h1 => by rw [hs] at h1; cases h1; exact ⟨Nat.le_refl _, fun _ => ⟨rfl, by omega, hy⟩⟩⟩
              subst hv
              unfold ownAV
              by_cases hn : nb = true ∧ m = 0
              · rw [if_pos hn, ← hn.2]
                refine ⟨.nilslice, _, by simp only [hu, hinf, hbd], hsub _ (by unfold SubV; rw [if_pos hn]), h⟩
              · rw [if_neg hn]
                simp only [hu, hinf, hbd, e3, e2, if_true]
                by_cases e : l.toNat = h'.toNat ∧ 0 < l.toNat
                · exact ⟨.list 0 [], _, by rw [if_pos e], hsub _ (by unfold SubV; rw [if_neg hn]; exact .inr ⟨by omega, rfl⟩), h⟩
                · exact ⟨.slice (ι q) (l.toNat * inf.size) (h'.toNat - l.toNat) inf.size, _, by rw [if_neg e, Nat.zero_add], hsub _ (by unfold SubV; rw [if_neg hn, e2]; exact .inl rfl), h⟩
            · cases h
          · cases h
        · cases h
      · rename_i q ver off n es
        split at h
        · rename_i hb
          simp only [Bool.and_eq_true] at hb
          have e2 := Nat.eq_of_beq_eq_true hb.2
          obtain ⟨nb, es', m, hs⟩ := curV_spec hb.1
          obtain ⟨e3, hle, hv⟩ := (hx.2 _ _ _ _ hs).2 rfl
          subst e3
          split at h
          · rename_i l h' el eh
            obtain ⟨hbd0, h⟩ := guardS_some h
            have hbd := bounds_of hlo hhi el eh hbd0
            have hsub : ∀ y, SubV (ι q) nb es m (off + l.toNat) (h'.toNat - l.toNat) y → R1 ι rows (.sub q ver (off + l.toNat) (h'.toNat - l.toNat) es) y := fun y hy =>
              ⟨hx.1, fun nb1 v1 e1 m1 h1 => by rw [hs] at h1; cases h1; exact ⟨Nat.le_refl _, fun _ => ⟨rfl, by omega, hy⟩⟩⟩
            unfold SubV at hv
            by_cases hn : nb = true ∧ m = 0
            · rw [if_pos hn] at hv
              subst hv
              have hn0 : n = 0 := by omega
              rw [hn0] at hbd
              exact ⟨.nilslice, _, by simp only [hu, hinf, hbd], hsub _ (by unfold SubV; rw [if_pos hn]), h⟩
            · rw [if_neg hn] at hv
              rcases hv with hv | ⟨hn0, hv⟩
              · subst hv
                simp only [hu, hinf, hbd, e2, if_true]
                by_cases e : l.toNat = h'.toNat ∧ 0 < l.toNat
                · exact ⟨.list 0 [], _, by rw [if_pos e], hsub _ (by unfold SubV; rw [if_neg hn]; exact .inr ⟨by omega, rfl⟩), h⟩
                · exact ⟨_, _, by rw [if_neg e], hsub _ (by unfold SubV; rw [if_neg hn, Nat.add_mul, e2]; exact .inl rfl), h⟩
              · subst hv
                rw [hn0] at hbd
                have : l.toNat = h'.toNat := by omega
                exact ⟨.list 0 [], _, by simp only [hu, hinf, hbd]; rw [if_pos this], hsub _ (by unfold SubV; rw [if_neg hn]; exact .inr ⟨by omega, rfl⟩), h⟩
          · cases h
        · cases h
      · cases h
    · cases h
  · rename_i a hu
    split at h
    · rename_i n e hu2
      simp only [hu, hu2]
      exact cutS_ok hE hx hlo hhi h
    · cases h
  · rename_i n e hu
    simp only [hu]
    exact cutS_ok hE hx hlo hhi h
  · cases h
theorem slice3S_ok (hE : RowsE C ι rows H) {t : TypeId} {x : S1} {v : AV} {lo : Option S1} {hi mx : S1} {lo' : Option AV} {hi' mx' : AV} {K : S1 → Option R} (hx : R1 ι rows x v) (hlo : OR1 ι rows lo lo')
    (hhi : R1 ι rows hi hi') (hmx : R1 ι rows mx mx') (h : slice3S P t x lo hi mx K = some r) :
    ∃ y ys, aslice3 P t v lo' hi' mx' = some y ∧ R1 ι rows ys y ∧ K ys = some r := by
  unfold slice3S at h
  unfold aslice3
  split at h
  · rename_i e hu
    split at h
    · rename_i inf hinf
      split at h
      · rename_i len cs
        obtain ⟨hv, hcell⟩ := hx
        subst hv
        split at h
        · rename_i l k1 h' k2 m el
          obtain ⟨hb, h⟩ := guardS_some h
          obtain ⟨hlen, h⟩ := guardS_some h
          have hz0 : inf.size ≠ 0 := by
            intro e; rw [e] at h; cases h
          have h : K (.list (h'.toNat - l.toNat) ((cs.drop (l.toNat * inf.size)).take ((h'.toNat - l.toNat) * inf.size))) = some r := by
            split at h
            · cases h
            · exact h
          have hhi : hi' = .int _ _ := hhi
          have hmx : mx' = .int _ _ := hmx
          subst hhi; subst hmx
          have hbd : abounds3 len lo' (.int k1 h') (.int k2 m) = some (l.toNat, h'.toNat, m.toNat) := by
            have hL : (lo' = none ∧ l = 0) ∨ ∃ k, lo' = some (.int k l) := by
              cases lo with
              | none =>
                cases lo' with
                | none => simp only [loS, Option.some.injEq] at el; exact .inl ⟨rfl, el.symm⟩
                | some v => exact hlo.elim
              | some x =>
                cases lo' with
                | none => exact hlo.elim
                | some v =>
                  cases x <;> simp only [loS, reduceCtorEq, Option.some.injEq] at el
                  subst el
                  have hlo : v = .int _ _ := hlo
                  exact .inr ⟨_, by rw [hlo]⟩
            unfold abounds3
            rcases hL with ⟨rfl, rfl⟩ | ⟨k, rfl⟩
            · simp only [anat]; rw [if_pos (by omega), if_pos (by omega)]; simp only; rw [if_pos (by omega)]; rfl
            · simp only [anat]; rw [if_pos hb.1, if_pos (by omega), if_pos (by omega)]; simp only; rw [if_pos (by omega)]
          refine ⟨.list _ _, .list _ _, ?_, ⟨rfl, fun x hx => hcell x (List.mem_of_mem_drop (List.mem_of_mem_take hx))⟩, h⟩
          simp only [hu, hinf, hbd]
          by_cases e : l.toNat = h'.toNat
          · rw [if_pos e, e]
            simp
          · rw [if_neg e]
            by_cases he : cs = []
            · subst he
              have hne : len ≠ 0 := by omega
              simp only [List.length_nil] at hlen
              rcases Nat.mul_eq_zero.1 hlen with h1 | h1
              · omega
              · exact absurd h1 hz0
            · rw [if_pos ⟨hlen, he⟩]
        · cases h
      · cases h
    · cases h
  · cases h
theorem lenS_ok {t : TypeId} {x : S1} {v : AV} {K : S1 → Option R} (hx : R1 ι rows x v) (h : lenS P rows t x K = some r) :
    ∃ y ys, alen P t v = some y ∧ R1 ι rows ys y ∧ K ys = some r := by
  unfold lenS at h
  unfold alen
  split at h
  · rename_i hu
    split at h
    · rename_i s
      have hx : v = .string s := hx
      subst hx
      exact ⟨.int _ _, .int _ _, by simp only [hu], rfl, h⟩
    · cases h
  · rename_i n e hu
    exact ⟨.int _ _, .int _ _, by simp only [hu], rfl, h⟩
  · rename_i e hu
    split at h
    · have hx : v = .nilslice := hx
      subst hx
      exact ⟨.int _ _, .int _ _, by simp only [hu], rfl, h⟩
    · rename_i q ver esz
      split at h
      · rename_i nb v' es n hs
        split at h
        · rename_i hver
          have := Nat.eq_of_beq_eq_true hver
          subst this
          obtain ⟨_, hv⟩ := (hx.2 _ _ _ _ hs).2 rfl
          refine ⟨.int .i64 n, .int .i64 n, ?_, rfl, h⟩
          subst hv
          by_cases hn : nb = true ∧ n = 0
          · unfold ownAV; rw [if_pos hn]; simp only [hu, hn.2]; rfl
          · unfold ownAV; rw [if_neg hn]; simp only [hu]
        · cases h
      · cases h
    · rename_i n cs
      rw [hx.1]
      exact ⟨.int _ _, .int _ _, by simp only [hu], rfl, h⟩
    · rename_i n cs
      rw [hx.1]
      exact ⟨.int _ _, .int _ _, by simp only [hu], rfl, h⟩
    · rename_i q ver off n es
      split at h
      · rename_i hc
        obtain ⟨nb, es', m, hs⟩ := curV_spec hc
        obtain ⟨_, hv⟩ := hx.2 _ _ _ _ hs
        obtain ⟨e3, hle, hv⟩ := hv rfl
        refine ⟨.int .i64 n, .int .i64 n, ?_, rfl, h⟩
        unfold SubV at hv
        split at hv
        · rename_i hn
          have : n = 0 := by omega
          subst hv; subst this; simp only [hu]; rfl
        · rcases hv with hv | ⟨hn0, hv⟩
          · subst hv; simp only [hu]
          · subst hv; subst hn0; simp only [hu]
      · cases h
    · rename_i q off n es
      split at h
      · rename_i hc
        have hv := hx.2 (by simpa using hc)
        subst hv
        exact ⟨.int .i64 n, .int .i64 n, by simp only [hu], rfl, h⟩
      · cases h
    · cases h
  · rename_i a hu
    split at h
    · rename_i n e hu2
      exact ⟨.int _ _, .int _ _, by simp only [hu, hu2], rfl, h⟩
    · cases h
  · cases h
theorem byteCells_cell (s : ByteArray) : ∀ x ∈ byteCells s, Cell x := by
  intro x hx
  simp only [byteCells, List.mem_map] at hx
  obtain ⟨b, _, rfl⟩ := hx
  exact .int _ _
theorem srcS_ok (hE : RowsE C ι rows H) {size : Nat} {x : S1} {v : AV} {K : Nat → List AV → Option R} (hx : R1 ι rows x v) (h : srcS rows size x K = some r) :
    ∃ n ys, acellsOf H size v = some (n, ys) ∧ ys.length = n * size ∧ (∀ y ∈ ys, Cell y) ∧ K n ys = some r := by
  unfold srcS at h
  split at h
  · have hx : v = .nilslice := hx
    subst hx
    exact ⟨0, [], rfl, by simp, fun y hy => (by cases hy), h⟩
  · rename_i q ver esz
    split at h
    · rename_i nb v' es n cs hrow
      split at h
      · rename_i hb
        simp only [Bool.and_eq_true] at hb
        have e1 := Nat.eq_of_beq_eq_true hb.1
        have e2 := Nat.eq_of_beq_eq_true hb.2
        subst e1
        obtain ⟨_, hv⟩ := hx.2 _ _ _ _ (sg_vec hrow)
        obtain ⟨e3, hv⟩ := hv rfl
        obtain ⟨g1, g2, g3⟩ := hE.row _ _ hrow
        rw [e2] at g1
        refine ⟨n, cs, ?_, g1, g2, h⟩
        subst hv
        unfold ownAV
        split
        · rename_i hn
          have : cs = [] := by rw [hn.2, Nat.zero_mul] at g1; exact List.eq_nil_of_length_eq_zero g1
          rw [hn.2, this]; rfl
        · rename_i hn
          simp only [acellsOf, rowOf_of (g3 hn)]
          rw [if_pos ⟨by rw [e3, e2], by omega⟩]
          simp only [List.drop_zero]
          rw [List.take_of_length_le (by omega)]
      · cases h
    · cases h
  · rename_i q ver off n esz
    split at h
    · rename_i nb v' es m cs hrow
      split at h
      · rename_i hb
        simp only [Bool.and_eq_true] at hb
        have e1 := Nat.eq_of_beq_eq_true hb.1
        have e2 := Nat.eq_of_beq_eq_true hb.2
        subst e1
        obtain ⟨_, hv⟩ := hx.2 _ _ _ _ (sg_vec hrow)
        obtain ⟨e3, hle, hv⟩ := hv rfl
        obtain ⟨g1, g2, g3⟩ := hE.row _ _ hrow
        have hl : off * size + n * size ≤ cs.length := by
          rw [g1, e2, ← Nat.add_mul]; exact Nat.mul_le_mul_right _ hle
        refine ⟨n, _, ?_, by rw [List.length_take, List.length_drop]; omega, fun y hy => g2 y (List.mem_of_mem_drop (List.mem_of_mem_take hy)), h⟩
        unfold SubV at hv
        split at hv
        · rename_i hn
          have : n = 0 := by omega
          subst hv; subst this; simp [acellsOf]
        · rename_i hn
          rcases hv with hv | ⟨hn0, hv⟩
          · subst hv
            simp only [acellsOf, rowOf_of (g3 hn)]
            rw [e3, e2, if_pos ⟨rfl, hl⟩]
          · subst hv; subst hn0; simp [acellsOf]
      · cases h
    · cases h
  · rename_i q off n esz
    split at h
    · rename_i cs hrow
      split at h
      · rename_i hb
        have e2 := Nat.eq_of_beq_eq_true hb
        split at h
        · rename_i us hus
          obtain ⟨hg, h⟩ := guardD_some h
          have hv := hx.2 (sg_lit hrow)
          subst hv
          obtain ⟨cs', g1, g2⟩ := hE.row _ _ hrow
          obtain ⟨e, hc⟩ := toCells_rel g2 hus
          subst e
          refine ⟨n, _, ?_, by rw [List.length_take, List.length_drop]; omega, fun y hy => hc y (List.mem_of_mem_drop (List.mem_of_mem_take hy)), h⟩
          simp only [acellsOf, rowOf_of g1]
          rw [e2, if_pos ⟨rfl, hg⟩]
        · cases h
      · cases h
    · cases h
  · rename_i n cs
    obtain ⟨hb, h⟩ := guardS_some h
    obtain ⟨hv, hc⟩ := hx
    subst hv
    exact ⟨n, cs, by simp only [acellsOf]; rw [if_pos hb], hb, hc, h⟩
  · rename_i s
    split at h
    · rename_i hb
      have hb := Nat.eq_of_beq_eq_true hb
      have hx : v = .string s := hx
      subst hx
      exact ⟨_, _, by simp only [acellsOf]; rw [if_pos hb], by simp [byteCells, hb], byteCells_cell s, h⟩
    · cases h
  · cases h
theorem addedS_ok (hE : RowsE C ι rows H) {xT e : TypeId} {inf : TypeInfo} {z : AV} (hz : zeroOf P e = some z) {x : S1} {v : AV} {K : Nat → List AV → Option R} (hx : R1 ι rows x v) (h : addedS P rows xT inf z x K = some r) :
    ∃ n ys, aadded P H xT inf z v = some (n, ys) ∧ ys.length = n * inf.size ∧ (∀ y ∈ ys, Cell y) ∧ K n ys = some r := by
  unfold addedS at h
  unfold aadded
  split at h
  · rename_i q hu
    split at h
    · rename_i k n
      split at h
      · rename_i hb
        simp only [Bool.and_eq_true, List.all_eq_true, Bool.not_eq_true', List.isEmpty_eq_false_iff, Nat.ble_eq] at hb
        obtain ⟨⟨⟨h1, h2⟩, h3⟩, h4⟩ := hb
        have h2 := Nat.eq_of_beq_eq_true h2
        obtain ⟨hg, h⟩ := guardS_some h
        have hx : v = .int k n := hx
        subst hx
        refine ⟨n.toNat, zrow z.cells (n.toNat * inf.size), ?_, zrow_length _ _, fun y hy => okc_cell (h1 y (zrow_mem h3 y hy)) fun n c => zero_nolist hz n c y (zrow_mem h3 y hy), h⟩
        simp only [hu]
        rw [if_pos ⟨hg.1, hg.2, h4, h2⟩]
      · cases h
    · cases h
  · rename_i d hne hu
    obtain ⟨n, ys, h1, h2, h3, h4⟩ := srcS_ok hE hx h
    refine ⟨n, ys, ?_, h2, h3, h4⟩
    rw [hu]
    cases d <;> first | exact h1 | exact (hne _ rfl).elim
  · cases h
theorem cell_all {ys : List AV} (h : ∀ y ∈ ys, Cell y) : ys.all AV.one = true := List.all_eq_true.2 fun y hy => (h y hy).one
theorem own_moved {q : Nat} {nb0 : Bool} {ver es n0 : Nat} {cs0 : List AV} (h0 : rows[q]? = some (some (.vec nb0 ver es n0 cs0))) {b : Nat} {nb : Bool} {n : Nat} {cs : List AV} (ι' : Nat → Nat) (hb : ι' q = b) :
    R1 ι' (rows.set q (some (.vec nb (ver + 1) es n cs))) (.own q (ver + 1) es) (ownAV b nb es n) := by
  refine ⟨by simpa using lt_of_get h0, fun nb' v' e' n' hs => ?_⟩
  unfold sg at hs
  rw [List.getElem?_set_self (lt_of_get h0)] at hs
  simp only [Option.some.injEq, Prod.mk.injEq] at hs
  obtain ⟨rfl, rfl, rfl, rfl⟩ := hs
  exact ⟨Nat.le_refl _, fun _ => ⟨rfl, by rw [hb]⟩⟩
theorem RowsE.stay (hE : RowsE C ι rows H) {q : Nat} {ver esz : Nat} {cs : List AV} (h0 : rows[q]? = some (some (.vec true ver esz 0 cs))) :
    RowsE C ι (rows.set q (some (.vec true (ver + 1) esz 0 []))) H ∧ Le ι rows ι (rows.set q (some (.vec true (ver + 1) esz 0 []))) := by
  have hlt := lt_of_get h0
  have sg1 : sg (rows.set q (some (.vec true (ver + 1) esz 0 []))) q = some (true, ver + 1, esz, 0) := by
    unfold sg; rw [List.getElem?_set_self hlt]
  have le : Le ι rows ι (rows.set q (some (.vec true (ver + 1) esz 0 []))) := Le.of (by simp) fun s hs => by
    by_cases e : q = s
    · subst e; exact .inr ⟨_, _, _, _, _, _, _, _, sg_vec h0, sg1, Nat.lt_succ_self _⟩
    · exact .inl ⟨rfl, sg_set_ne e⟩
  have split : ∀ s row, (rows.set q (some (.vec true (ver + 1) esz 0 [])))[s]? = some (some row) → (s = q ∧ row = .vec true (ver + 1) esz 0 []) ∨ (s ≠ q ∧ rows[s]? = some (some row)) := by
    intro s row h
    by_cases e : q = s
    · subst e
      rw [List.getElem?_set_self hlt] at h
      simp only [Option.some.injEq] at h; exact .inl ⟨rfl, h.symm⟩
    · rw [List.getElem?_set_ne e] at h; exact .inr ⟨fun h => e h.symm, h⟩
  refine ⟨⟨fun s row h => ?_, fun s s' row row' h h' hr hr' e => ?_, hE.ok, hE.lim⟩, le⟩
  · rcases split s row h with ⟨rfl, rfl⟩ | ⟨hne, h⟩
    · exact ⟨by simp, fun x hx => absurd hx (by simp), fun hn => absurd ⟨rfl, rfl⟩ hn⟩
    · refine (hE.row s row h).mono le (fun hr => ⟨rfl, fun ar ha => ha⟩) fun p hp hp0 => ⟨rfl, ?_⟩
      have e : p ≠ q := by intro h; rw [h, sg_vec h0] at hp0; cases hp0
      rw [sg_set_ne (fun h => e h.symm)]; exact hp0
  · rcases split s row h with ⟨_, e1⟩ | ⟨hne, k⟩ <;> rcases split s' row' h' with ⟨_, e2⟩ | ⟨hne', k'⟩
    · subst e1; exact absurd ⟨rfl, rfl⟩ hr
    · subst e1; exact absurd ⟨rfl, rfl⟩ hr
    · subst e2; exact absurd ⟨rfl, rfl⟩ hr'
    · exact hE.inj _ _ _ _ k k' hr hr' e
theorem appendS_ok (hE : RowsE C ι rows H) {sT xT : TypeId} {s x : S1} {sv xv : AV} {K : S1 → Rows → Option R} (hs : R1 ι rows s sv) (hx : R1 ι rows x xv) (h : appendS P rows sT xT s x K = some r) :
    ∃ y H' ys rows' ι', aappend P H sT xT sv xv = some (y, H') ∧ RowsE C ι' rows' H' ∧ R1 ι' rows' ys y ∧ Le ι rows ι' rows' ∧ K ys rows' = some r := by
  unfold appendS at h
  unfold aappend
  split at h
  · rename_i e hu
    split at h
    · rename_i inf z hinf hz
      split at h
      · rename_i hzl
        obtain ⟨n2, ys, h1, h2, h3, h⟩ := addedS_ok hE hz hx h
        simp only [hu, hinf, hz, h1]
        rw [if_pos (by simp [cell_all h3, hzl])]
        cases s with
        | own q ver esz =>
          simp only at h
          split at h
          · rename_i nb v' es n cs hrow
            split at h
            · rename_i hb
              simp only [Bool.and_eq_true] at hb
              have e1 := Nat.eq_of_beq_eq_true hb.1
              have e2 := Nat.eq_of_beq_eq_true hb.2
              subst e1
              obtain ⟨hg, h⟩ := guardS_some h
              obtain ⟨_, hv0⟩ := hs.2 _ _ _ _ (sg_vec hrow)
              obtain ⟨e3, hv⟩ := hv0 rfl
              clear hv0
              obtain ⟨g1, g2, g3⟩ := hE.row _ _ hrow
              subst e3
              subst hv
              have hcells : ∀ y ∈ cs ++ ys, Cell y := fun y hy => (List.mem_append.1 hy).elim (g2 y) (h3 y)
              have hlen : (cs ++ ys).length = (n + n2) * esz := by rw [List.length_append, g1, h2, e2, Nat.add_mul]
              by_cases hn : nb = true ∧ n = 0
              · obtain ⟨rfl, rfl⟩ := hn
                have hcs : cs = [] := by rw [Nat.zero_mul] at g1; exact List.eq_nil_of_length_eq_zero g1
                subst hcs
                simp only [ownAV, and_self, if_true]
                by_cases h0 : n2 = 0
                · subst h0
                  have hys : ys = [] := by rw [Nat.zero_mul] at h2; exact List.eq_nil_of_length_eq_zero h2
                  subst hys
                  obtain ⟨k1, k2⟩ := hE.stay hrow
                  refine ⟨_, _, _, _, _, by rw [if_pos rfl], k1, ?_, k2, h⟩
                  have := own_moved hrow (b := ι q) (nb := true) (n := 0) (cs := []) ι rfl
                  simpa [ownAV] using this
                · rw [if_neg h0, if_pos (by simpa using hg)]
                  obtain ⟨k1, k2⟩ := hE.move hrow (nb' := true) (n' := 0 + n2) (cs' := [] ++ ys) (by simp [h0]) hlen hcells H (by simp)
                  refine ⟨_, _, _, _, _, rfl, k1, ?_, k2, h⟩
                  have := own_moved hrow (b := H.n) (nb := true) (n := 0 + n2) (cs := [] ++ ys) (Abs.put ι q H.n) put_self
                  simpa [ownAV, h0, e2] using this
              · have hg3 := g3 hn
                have hov : ownAV (ι q) nb esz n = .slice (ι q) 0 n esz := by unfold ownAV; rw [if_neg hn]
                simp only [hov, wrowOf_of hE hg3]
                rw [if_pos ⟨trivial, e2, by rw [g1, e2]; exact Nat.le_refl _, hg⟩]
                have ht : cs.take (n * inf.size) = cs := by rw [List.take_of_length_le]; rw [g1, e2]; exact Nat.le_refl _
                rw [ht]
                obtain ⟨k1, k2⟩ := hE.move hrow (nb' := nb) (n' := n + n2) (cs' := cs ++ ys) (by rintro ⟨h1, h2⟩; exact hn ⟨h1, by omega⟩) hlen hcells (H.kill (ι q)) (by rw [if_neg hn])
                refine ⟨_, _, _, _, _, rfl, k1, ?_, k2, h⟩
                have := own_moved hrow (b := H.n) (nb := nb) (n := n + n2) (cs := cs ++ ys) (Abs.put ι q H.n) put_self
                unfold ownAV at this
                rw [if_neg (by rintro ⟨h1, h2⟩; exact hn ⟨h1, by omega⟩)] at this
                rw [← e2]
                exact this
            · cases h
          · cases h
        | raw y =>
          have hs : sv = y := hs
          subst hs
          have hnil : sv = .nilslice := by
            cases sv <;> first | rfl | cases h
          subst hnil
          obtain ⟨hg, h⟩ := guardS_some h
          by_cases h0 : n2 = 0
          · subst h0
            have hys : ys = [] := by rw [Nat.zero_mul] at h2; exact List.eq_nil_of_length_eq_zero h2
            subst hys
            refine ⟨_, _, _, _, _, by rw [if_pos rfl], hE.ghost inf.size, ?_, le_app' _ _ _, h⟩
            refine ⟨by simp, fun nb' v' e' n' hs => ?_⟩
            unfold sg at hs
            rw [List.getElem?_append_right (Nat.le_refl _)] at hs
            simp only [Nat.sub_self, List.getElem?_cons_zero, Option.some.injEq, Prod.mk.injEq] at hs
            obtain ⟨rfl, rfl, rfl, rfl⟩ := hs
            exact ⟨Nat.le_refl _, fun _ => ⟨rfl, by simp [ownAV]⟩⟩
          · rw [if_neg h0, if_pos hg]
            refine ⟨_, _, _, _, _, rfl, push_vec hE (nb := true) h2 h3, ?_, le_app _ _ _ _, h⟩
            have := own_new (ι := ι) (rows := rows) (b := H.n) (nb := true) (esz := inf.size) (n := n2) (cs := ys)
            simpa [ownAV, h0] using this
        | _ => cases h
      · cases h
    · cases h
  · cases h
theorem RowsE.turnVec (hE : RowsE C ι rows H) {q : Nat} {nb : Bool} {ver es m : Nat} {cs cs' : List AV} (h0 : rows[q]? = some (some (.vec nb ver es m cs))) (hn : ¬ (nb = true ∧ m = 0)) (hl : cs'.length = m * es) (hc : ∀ x ∈ cs', Cell x) :
    RowsE C ι (rows.set q (some (.vec nb ver es m cs'))) (H.upd (ι q) (.cells cs')) ∧ Le ι rows ι (rows.set q (some (.vec nb ver es m cs'))) := by
  refine hE.turn h0 hn (.vec nb ver es m cs') (.cells cs') ?_ fun le => ⟨hl, hc, fun _ => ?_⟩
  · rw [sg_vec h0]; exact sg_vec (List.getElem?_set_self (lt_of_get h0))
  · have := hE.lt h0 hn
    rw [Heap.get_upd hE.ok _ this, if_pos rfl]
theorem rows_same {q : Nat} {x : Option SRow} (h : rows[q]? = some x) : rows.set q x = rows := by
  obtain ⟨hl, he⟩ := List.getElem?_eq_some_iff.1 h
  rw [← he]; exact List.set_getElem_self hl
theorem putCells_none (cs : List AV) (off : Nat) : putCells cs off [] = cs := rfl
theorem wrow_of (hE : RowsE C ι rows H) {q : Nat} {cs : List AV} (h : H.get q = some (.cells cs)) : wrowOf H q = some cs := by
  unfold wrowOf
  rw [rowOf_of h, hE.lim]
  simp
theorem put_cells {cs ys : List AV} {off : Nat} (h1 : ∀ x ∈ cs, Cell x) (h2 : ∀ x ∈ ys, Cell x) : ∀ x ∈ putCells cs off ys, Cell x := by
  induction ys generalizing cs off with
  | nil => exact h1
  | cons y ys ih =>
    simp only [putCells]
    refine ih (fun x hx => ?_) fun x hx => h2 x (List.mem_cons_of_mem _ hx)
    rcases List.mem_or_eq_of_mem_set hx with hx | hx
    · exact h1 x hx
    · rw [hx]; exact h2 y List.mem_cons_self
theorem copyS_ok (hE : RowsE C ι rows H) {dT : TypeId} {d s : S1} {dv sv : AV} {K : S1 → Rows → Option R} (hd : R1 ι rows d dv) (hs : R1 ι rows s sv) (h : copyS P rows dT d s K = some r) :
    ∃ y H' ys rows' ι', acopy P H dT dv sv = some (y, H') ∧ RowsE C ι' rows' H' ∧ R1 ι' rows' ys y ∧ Le ι rows ι' rows' ∧ K ys rows' = some r := by
  unfold copyS at h
  unfold acopy
  split at h
  · rename_i e hu
    split at h
    · rename_i inf hinf
      obtain ⟨n2, ys, h1, h2, h3, h⟩ := srcS_ok hE hs h
      simp only [hu, hinf, h1]
      have hty : ∀ k : Nat, ∀ y ∈ ys.take (k * inf.size), Cell y := fun k y hy => h3 y (List.mem_of_mem_take hy)
      split at h
      · rename_i q ver esz
        split at h
        · rename_i nb v' es m cs hrow
          split at h
          · rename_i hb
            simp only [Bool.and_eq_true] at hb
            have e1 := Nat.eq_of_beq_eq_true hb.1
            have e2 := Nat.eq_of_beq_eq_true hb.2
            subst e1
            obtain ⟨_, hv⟩ := hd.2 _ _ _ _ (sg_vec hrow)
            obtain ⟨e3, hv⟩ := hv rfl
            obtain ⟨g1, g2, g3⟩ := hE.row _ _ hrow
            subst hv
            unfold ownAV
            by_cases hn : nb = true ∧ m = 0
            · rw [if_pos hn]
              have hm : Nat.min n2 m = 0 := by rw [hn.2]; exact Nat.min_zero _
              rw [hm] at h
              simp only [Nat.zero_mul, List.take_zero, putCells_none] at h
              rw [rows_same hrow] at h
              exact ⟨_, H, _, rows, ι, rfl, hE, (by rw [shut_eq]; exact (rfl : R1 ι rows (.int .i64 0) _)), Le.refl _ _, h⟩
            · rw [if_neg hn]
              simp only [wrow_of hE (g3 hn)]
              have hmin : min n2 m = Nat.min n2 m := rfl
              have hlen : (putCells cs 0 (ys.take (Nat.min n2 m * inf.size))).length = m * es := by rw [putCells_length]; exact g1
              rw [if_pos ⟨by rw [e3, e2], by rw [g1, e2]; omega, cell_all (hty _)⟩]
              obtain ⟨t1, t2⟩ := hE.turnVec hrow hn hlen (put_cells g2 (hty _))
              exact ⟨_, _, _, _, ι, rfl, t1, (by rw [shut_eq]; exact rfl), t2, h⟩
          · cases h
        · cases h
      · rename_i q ver off k esz _
        split at h
        · rename_i nb v' es m cs hrow
          split at h
          · rename_i hb
            simp only [Bool.and_eq_true] at hb
            have e1 := Nat.eq_of_beq_eq_true hb.1
            have e2 := Nat.eq_of_beq_eq_true hb.2
            subst e1
            obtain ⟨_, hv⟩ := hd.2 _ _ _ _ (sg_vec hrow)
            obtain ⟨e3, hle, hv⟩ := hv rfl
            obtain ⟨g1, g2, g3⟩ := hE.row _ _ hrow
            unfold SubV at hv
            split at hv
            · rename_i hn
              have hk : k = 0 := by omega
              subst hv; subst hk
              have hm : Nat.min n2 0 = 0 := Nat.min_zero _
              rw [hm] at h
              simp only [Nat.zero_mul, List.take_zero, putCells_none] at h
              rw [rows_same hrow] at h
              exact ⟨_, H, _, rows, ι, rfl, hE, (by rw [shut_eq]; exact (rfl : R1 ι rows (.int .i64 0) _)), Le.refl _ _, h⟩
            · rename_i hn
              rcases hv with hv | ⟨hk, hv⟩
              · subst hv
                simp only [wrow_of hE (g3 hn)]
                have hl : off * inf.size + k * inf.size ≤ cs.length := by
                  rw [g1, e2, ← Nat.add_mul]; exact Nat.mul_le_mul_right _ hle
                have hlen : (putCells cs (off * inf.size) (ys.take (Nat.min n2 k * inf.size))).length = m * es := by rw [putCells_length]; exact g1
                rw [e3, e2, if_pos ⟨rfl, hl, cell_all (hty _)⟩]
                obtain ⟨t1, t2⟩ := hE.turnVec hrow hn hlen (put_cells g2 (hty _))
                rw [e2] at t1 t2 h
                exact ⟨_, _, _, _, ι, rfl, t1, (by rw [shut_eq]; exact rfl), t2, h⟩
              · subst hv; subst hk
                have hm : Nat.min n2 0 = 0 := Nat.min_zero _
                rw [hm] at h
                simp only [Nat.zero_mul, List.take_zero, putCells_none] at h
                rw [rows_same hrow] at h
                exact ⟨_, H, _, rows, ι, rfl, hE, (by rw [shut_eq]; exact (rfl : R1 ι rows (.int .i64 0) _)), Le.refl _ _, h⟩
          · cases h
        · cases h
      · cases h
    · cases h
  · cases h
theorem clearS_ok (hE : RowsE C ι rows H) {t : TypeId} {x : S1} {v : AV} {K : Rows → Option R} (hx : R1 ι rows x v) (h : clearS P rows t x K = some r) :
    (P.underlying t).isSome = true ∧ ∃ H' rows' ι', aclear P H t v = some H' ∧ RowsE C ι' rows' H' ∧ Le ι rows ι' rows' ∧ K rows' = some r := by
  unfold clearS at h
  split at h
  · rename_i q ver esz
    split at h
    · rename_i e hu
      refine ⟨by rw [hu]; rfl, ?_⟩
      split at h
      · rename_i inf z hinf hz
        split at h
        · rename_i nb v' es m cs hrow
          split at h
          · rename_i hb
            simp only [Bool.and_eq_true, List.all_eq_true, Bool.not_eq_true', List.isEmpty_eq_false_iff] at hb
            obtain ⟨⟨e1, e2⟩, ⟨h1, h2⟩, h3⟩ := hb
            have e1 := Nat.eq_of_beq_eq_true e1
            have e2 := Nat.eq_of_beq_eq_true e2
            have h2 := Nat.eq_of_beq_eq_true h2
            subst e1
            obtain ⟨_, hv⟩ := hx.2 _ _ _ _ (sg_vec hrow)
            obtain ⟨e3, hv⟩ := hv rfl
            obtain ⟨g1, g2, g3⟩ := hE.row _ _ hrow
            subst hv
            have hzc : ∀ y ∈ zrow z.cells (m * inf.size), Cell y := fun y hy => okc_cell (h1 y (zrow_mem h3 y hy)) fun n c => zero_nolist hz n c y (zrow_mem h3 y hy)
            by_cases hm : m = 0
            · subst hm
              have hcs : cs = [] := by rw [Nat.zero_mul] at g1; exact List.eq_nil_of_length_eq_zero g1
              have hzr : zrow z.cells (0 * inf.size) = [] := by rw [Nat.zero_mul]; rfl
              rw [hzr, ← hcs, rows_same hrow] at h
              refine ⟨H, rows, ι, ?_, hE, Le.refl _ _, h⟩
              unfold ownAV
              split <;> rfl
            · have hn : ¬ (nb = true ∧ m = 0) := fun hn => hm hn.2
              unfold ownAV
              rw [if_neg hn]
              obtain ⟨m', rfl⟩ : ∃ m', m = m' + 1 := ⟨m - 1, by omega⟩
              have hput : putCells cs 0 (zrow z.cells ((m' + 1) * inf.size)) = zrow z.cells ((m' + 1) * inf.size) := by
                have := putCells_at (zrow z.cells ((m' + 1) * inf.size)) [] cs (by rw [zrow_length, g1, e2])
                simpa using this
              obtain ⟨t1, t2⟩ := hE.turnVec hrow hn (cs' := zrow z.cells ((m' + 1) * inf.size)) (by rw [zrow_length, e2]) hzc
              refine ⟨_, _, ι, ?_, t1, t2, h⟩
              simp only [aclear, hu, hinf, hz, wrow_of hE (g3 hn)]
              rw [if_pos ⟨by rw [e3, e2], h2, by rw [g1, e2]; omega, cell_all (fun y hy => okc_cell (h1 y hy) fun n c => zero_nolist hz n c y hy), by omega, h3⟩, hput]
          · cases h
        · cases h
      · cases h
    · cases h
  · cases h
end
end Go.Abs
end
noncomputable section
namespace Go.Abs
section
variable {R : Type}
def fz1S (rows:Rows) (x:S1) (K:S1->Rows->Option R):Option R:=
 match x with
 | .own r ver _=>match rows[r]? with
  | some (some (.vec nb v esz n cs))=>match Nat.beq ver v with
   | true=>K (.list n cs) (rows.set r (some (.ice nb v esz n)))
   | false=>none
  | _=>none
 | .raw .nilslice=>K (.list 0 []) rows
 | .bool b=>K (.bool b) rows
 | .int k n=>K (.int k n) rows
 | .flo k o=>K (.flo k o) rows
 | .string s=>K (.string s) rows
 | .list n cs=>K (.list n cs) rows
 | .nl n cs=>K (.nl n cs) rows
 | _=>none
def fzLS:Rows->List S2->(List S2->Rows->Option R)->Option R
 | rows,[],K=>K [] rows
 | rows,.b x::xs,K=>fz1S rows x fun y rows'=>fzLS rows' xs fun ys rows''=>K (.b y::ys) rows''
 | _,.fn _ _ _::_,_=>none
def fzAS (rows:Rows) (x:SV) (K:SV->Rows->Option R):Option R:=
 match x with
 | .s (.agg cs)=>fzLS rows cs fun ys rows'=>K (.s (.agg ys)) rows'
 | .s (.o (.b x))=>fz1S rows x fun y rows'=>K (.ofB y) rows'
 | _=>none
def fzPsS:Rows->List (Nat × SV)->(List (Nat × SV)->Rows->Option R)->Option R
 | rows,[],K=>K [] rows
 | rows,(k,x)::ps,K=>fzAS rows x fun y rows'=>fzPsS rows' ps fun qs rows''=>K ((k,y)::qs) rows''
end
def buildFnsS {R:Type} (P:Program) (rows:Rows) (t:TypeId) (len:Nat) (parts:List (Nat × SV)) (K:S1->Rows->Option R):Option R:=
 match P.underlying t with
 | some (.slice e)=>match P.info? e,zeroOf P e with
  | some inf,some z=>match decide (len*inf.size<=16777216)&&z.cells.length==inf.size with
   | true=>match sfill rows (fun k=>some (k*inf.size,inf.size)) ((zrow z.cells (len*inf.size)).map fun c=>.b (ofAVr c)) parts with
    | some cs=>K (.lsub rows.length 0 len inf.size) (rows++[some (.lit cs)])
    | none=>none
   | false=>none
  | _,_=>none
 | _=>none
def fnSl (P:Program) (t:TypeId):Bool:=
 match P.underlying t with
 | some (.slice e)=>match P.underlying e with
  | some (.func _ _ _)=>true
  | _=>false
 | _=>false
section
variable {C : Codes} {ι : Nat → Nat} {rows : Rows} {H : Heap} {P : Program} {R : Type} {r : R}
theorem buildFnsS_ok (hE:RowsE C ι rows H) {t:TypeId} {len:Nat} {parts:List (Nat × SV)} {parts':List (Nat × AV)} {K:S1->Rows->Option R} (hp:All2 (fun p q=>p.1=q.1/\RV ι rows p.2 q.2) parts parts')
  (h:buildFnsS P rows t len parts K=some r):
  ∃ y H' ys rows' ι',abuildSlice P H t len parts'=some (y,H')/\RowsE C ι' rows' H'/\R1 ι' rows' ys y/\Le ι rows ι' rows'/\K ys rows'=some r:=by
 unfold buildFnsS at h
 unfold abuildSlice
 split at h
 ·rename_i e hu
  split at h
  ·rename_i inf z hinf hz
   split at h
   ·rename_i hc
    split at h
    ·rename_i cs hcs
     have h0:All2 (R2 ι rows) ((zrow z.cells (len*inf.size)).map fun c=>.b (ofAVr c)) (zrow z.cells (len*inf.size)):=by
      have:=All2.of_map (R:=R2 ι rows) (fun c=>.b (ofAVr c)) id (zrow z.cells (len*inf.size)) fun v _=>ofAVr_rel v
      simpa using this
     obtain ⟨out,h1,h2⟩:=sfill_ok parts parts' _ _ _ hcs hp h0
     have le:=le_app ι rows (some (.lit cs)) H.n
     refine ⟨_,_,_,_,put ι rows.length H.n,by simp only [hu,hinf,hz];rw [if_pos hc,h1];rfl,hE.push (.lit cs) (.cells out) ⟨out,by rw [put_self];exact Heap.get_push_self,h2.mono fun _ _=>le.r2⟩,?_,le,h⟩
     exact ⟨by simp,fun _=>by rw [put_self]⟩
    ·cases h
   ·cases h
  ·cases h
 ·cases h
theorem le_ice {q:Nat} {nb:Bool} {ver esz n:Nat} {cs:List AV} (h0:rows[q]?=some (some (.vec nb ver esz n cs))):Le ι rows ι (rows.set q (some (.ice nb ver esz n))):=by
 have hq:=lt_of_get h0
 refine Le.of (by simp) fun s hs=>.inl ⟨rfl,?_⟩
 by_cases e:q=s
 ·subst e
  unfold sg
  rw [h0,List.getElem?_set_self hq]
 ·exact sg_set_ne e
theorem RowsE.ice (hE:RowsE C ι rows H) {q:Nat} {nb:Bool} {ver esz n:Nat} {cs:List AV} (h0:rows[q]?=some (some (.vec nb ver esz n cs))) {H':Heap} (hok:H'.rev.length=H'.n) (hlim:H'.lim=0)
  (hk:∀ s row,s≠q->rows[s]?=some (some row)->row.real->∀ ar,H.get (ι s)=some ar->H'.get (ι s)=some ar):RowsE C ι (rows.set q (some (.ice nb ver esz n))) H':=by
 have hq:=lt_of_get h0
 have le:=le_ice (ι:=ι) h0
 have old:∀ s row,(rows.set q (some (.ice nb ver esz n)))[s]?=some (some row)->(s=q/\row=.ice nb ver esz n)\/(s≠q/\rows[s]?=some (some row)):=by
  intro s row hs
  by_cases e:q=s
  ·subst e
   rw [List.getElem?_set_self hq] at hs
   exact .inl ⟨rfl,by simpa using hs.symm⟩
  ·rw [List.getElem?_set_ne e] at hs
   exact .inr ⟨fun h=>e h.symm,hs⟩
 refine ⟨fun s row hs=>?_,fun s s' a b ha hb ra rb e=>?_,hok,hlim⟩
 ·rcases old s row hs with ⟨rfl,rfl⟩ | ⟨hne,hs'⟩
  ·trivial
  ·exact (hE.row s row hs').mono le (fun hr=>⟨rfl,hk s row hne hs' hr⟩) fun t ht h=>⟨rfl,(le.st t ht h).1⟩
 ·rcases old s a ha with ⟨rfl,rfl⟩ | ⟨_,ha'⟩
  ·exact ra.elim
  ·rcases old s' b hb with ⟨rfl,rfl⟩ | ⟨_,hb'⟩
   ·exact rb.elim
   ·exact hE.inj s s' a b ha' hb' ra rb e
theorem fz1S_ok (hE:RowsE C ι rows H) {x:S1} {v:AV} {K:S1->Rows->Option R} (hx:R1 ι rows x v) (h:fz1S rows x K=some r):
  ∃ y rows',RowsE C ι rows' (fz1 H v).2/\R1 ι rows' y (fz1 H v).1/\Le ι rows ι rows'/\K y rows'=some r/\(∀ cs,v≠.agg cs):=by
 unfold fz1S at h
 split at h
 ·rename_i q ver es
  split at h
  ·rename_i nb v' esz n cs hrow
   split at h
   ·rename_i hver
    have hver:=Nat.eq_of_beq_eq_true hver
    subst hver
    have hx:R1 ι rows (.own q ver es) v:=hx
    obtain ⟨e,hv⟩:=(hx.2 _ _ _ _ (sg_vec hrow)).2 rfl
    obtain ⟨g1,g2,g3⟩:=hE.row _ _ hrow
    subst e
    subst hv
    unfold ownAV
    by_cases hn:nb=true/\n=0
    ·rw [if_pos hn]
     have hc:cs=[]:=by rw [hn.2,Nat.zero_mul] at g1;exact List.eq_nil_of_length_eq_zero g1
     refine ⟨.list n cs,_,hE.ice hrow hE.ok hE.lim fun _ _ _ _ _ _ h=>h,?_,le_ice hrow,h,fun _ h=>by cases h⟩
     rw [hc,hn.2]
     exact ⟨rfl,fun x hx=>by cases hx⟩
    ·rw [if_neg hn]
     have hg:=g3 hn
     have hf:fz1 H (.slice (ι q) 0 n es)=(.list n cs,H.kill (ι q)):=by simp only [fz1,hg]
     rw [hf]
     refine ⟨.list n cs,_,hE.ice hrow (by simp [Heap.kill,hE.ok]) hE.lim ?_,⟨rfl,g2⟩,le_ice hrow,h,fun _ h=>by cases h⟩
     intro s row hne hs hr ar har
     rw [Heap.get_kill hE.ok (Heap.get_lt hg)]
     rw [if_neg fun e=>hne (hE.inj s q row _ hs hrow hr hn e)]
     exact har
   ·cases h
  ·cases h
 ·have hx:v=.nilslice:=hx
  subst hx
  exact ⟨.list 0 [],_,hE,⟨rfl,fun x hx=>by cases hx⟩,Le.refl _ _,h,fun _ h=>by cases h⟩
 ·have hx:v=_:=hx
  subst hx
  exact ⟨.bool _,_,hE,rfl,Le.refl _ _,h,fun _ h=>by cases h⟩
 ·have hx:v=_:=hx
  subst hx
  exact ⟨.int _ _,_,hE,rfl,Le.refl _ _,h,fun _ h=>by cases h⟩
 ·have hx:v=_:=hx
  subst hx
  exact ⟨.flo _ _,_,hE,rfl,Le.refl _ _,h,fun _ h=>by cases h⟩
 ·have hx:v=_:=hx
  subst hx
  exact ⟨.string _,_,hE,rfl,Le.refl _ _,h,fun _ h=>by cases h⟩
 ·obtain ⟨e,hc⟩:=(show _/\_ from hx)
  subst e
  exact ⟨.list _ _,_,hE,⟨rfl,hc⟩,Le.refl _ _,h,fun _ h=>by cases h⟩
 ·obtain ⟨e,hc⟩:=(show _/\_ from hx)
  subst e
  exact ⟨.nl _ _,_,hE,⟨rfl,hc⟩,Le.refl _ _,h,fun _ h=>by cases h⟩
 ·cases h
theorem fzLS_ok:∀ {xs:List S2} {vs:List AV} {rows:Rows} {H:Heap} {K:List S2->Rows->Option R},RowsE C ι rows H->All2 (R2 ι rows) xs vs->fzLS rows xs K=some r->
  ∃ ys rows',RowsE C ι rows' (fzL H vs).2/\All2 (R2 ι rows') ys (fzL H vs).1/\Le ι rows ι rows'/\K ys rows'=some r
 | [],_,rows,H,K,hE,.nil,h=>⟨[],rows,hE,.nil,Le.refl _ _,h⟩
 | .b x::xs,_,rows,H,K,hE,.cons hx hs,h=>by
  obtain ⟨y,rows1,k1,k2,k3,k4,_⟩:=fz1S_ok hE (show R1 ι rows x _ from hx) h
  obtain ⟨ys,rows2,k5,k6,k7,k8⟩:=fzLS_ok k1 (hs.mono fun _ _=>k3.r2) k4
  exact ⟨_,rows2,k5,.cons (k7.r2 (x:=.b y) k2) k6,k3.trans k7,k8⟩
 | .fn _ _ _::_,_,rows,H,K,hE,_,h=>by cases h
theorem fzAS_ok (hE:RowsE C ι rows H) {x:SV} {v:AV} {K:SV->Rows->Option R} (hx:RV ι rows x v) (h:fzAS rows x K=some r):
  ∃ y rows',RowsE C ι rows' (fzA H v).2/\RV ι rows' y (fzA H v).1/\Le ι rows ι rows'/\K y rows'=some r:=by
 unfold fzAS at h
 split at h
 ·obtain ⟨vs,e,hs⟩:=hx
  subst e
  obtain ⟨ys,rows1,k1,k2,k3,k4⟩:=fzLS_ok hE hs h
  exact ⟨.s (.agg ys),rows1,k1,⟨_,rfl,k2⟩,k3,k4⟩
 ·rename_i x
  obtain ⟨y,rows1,k1,k2,k3,k4,k5⟩:=fz1S_ok hE (show R1 ι rows x v from hx) h
  have e:fzA H v=fz1 H v:=by
   unfold fzA
   split
   ·exact absurd rfl (k5 _)
   ·rfl
  rw [e]
  exact ⟨.ofB y,rows1,k1,k2,k3,k4⟩
 ·cases h
theorem fzPsS_ok:∀ {ps:List (Nat × SV)} {qs:List (Nat × AV)} {rows:Rows} {H:Heap} {K:List (Nat × SV)->Rows->Option R},RowsE C ι rows H->
  All2 (fun (p:Nat × SV) (q:Nat × AV)=>p.1=q.1/\RV ι rows p.2 q.2) ps qs->fzPsS rows ps K=some r->
  ∃ ps' rows',RowsE C ι rows' (fzPs H qs).2/\All2 (fun (p:Nat × SV) (q:Nat × AV)=>p.1=q.1/\RV ι rows' p.2 q.2) ps' (fzPs H qs).1/\Le ι rows ι rows'/\K ps' rows'=some r
 | [],_,rows,H,K,hE,.nil,h=>⟨[],rows,hE,.nil,Le.refl _ _,h⟩
 | (k,x)::ps,(k',v)::qs,rows,H,K,hE,.cons hx hs,h=>by
  obtain ⟨e,hx⟩:=hx
  have e:k=k':=e
  subst e
  obtain ⟨y,rows1,k1,k2,k3,k4⟩:=fzAS_ok hE hx h
  obtain ⟨ys,rows2,k5,k6,k7,k8⟩:=fzPsS_ok k1 (hs.mono fun _ _ hp=>⟨hp.1,k3.rv hp.2⟩) k4
  exact ⟨_,rows2,k5,.cons ⟨rfl,k7.rv k2⟩ k6,k3.trans k7,k8⟩
end
end Go.Abs
end
noncomputable section
namespace Go.Abs
section
variable (P : Program)
def seqFields (eq:TypeId->AV->AV->Option Bool) (xs ys:List AV):List Field->Option Bool
 | []=>some true
 | f :: fs => match decide (f.name = "_") with
  | true=>none
  | false=>match apart P f.type xs f.offset,apart P f.type ys f.offset with
   | some a,some b=>match eq f.type a b with
    | some p=>match seqFields eq xs ys fs with
     | some q=>some (p&&q)
     | none=>none
    | none=>none
   | _,_=>none
def seqItems (eq:TypeId->AV->AV->Option Bool) (e:TypeId) (c:Nat) (xs ys:List AV):List Nat->Option Bool
 | []=>some true
 | i::is=>match apart P e xs (i*c),apart P e ys (i*c) with
  | some a,some b=>match eq e a b with
   | some p=>match seqItems eq e c xs ys is with
    | some q=>some (p&&q)
    | none=>none
   | none=>none
  | _,_=>none
def seq:Nat->TypeId->AV->AV->Option Bool
 | 0,_,_,_=>none
 | d+1,t,x,y=>
  match P.underlying t with
  | some .bool=>match x,y with
   | .bool a,.bool b=>some (S_ (a==b))
   | _,_=>none
  | some (.int _)=>match x,y with
   | .int k a,.int k' b=>match decide (k=k') with
    | true=>some (S_ (a==b))
    | false=>none
   | _,_=>none
  | some (.float _)=>match x,y with
   | .flo k a,.flo k' b=>match decide (k=k') with
    | true=>some (S_ (ordO k a b==some .eq))
    | false=>none
   | _,_=>none
  | some .string=>match x,y with
   | .string a,.string b=>some (S_ (a.data.toList==b.data.toList))
   | _,_=>none
  | some (.struct fs)=>match x,y with
   | .agg xs,.agg ys=>match P.stoodInHeld t with
    | true=>none
    | false=>seqFields P (seq d) xs ys fs.toList
   | _,_=>none
  | some (.array n e)=>match x,y,P.info? e with
   | .agg xs,.agg ys,some i=>seqItems P (seq d) e i.size xs ys (List.range n)
   | _,_,_=>none
  | _=>none
def cellsAV:List S2->Option (List AV)
 | []=>some []
 | .b x::xs=>match toAV x,cellsAV xs with
  | some a,some as=>some (a::as)
  | _,_=>none
 | _::_=>none
def binAggS {R:Type} (op:BinOp) (t:TypeId) (xs ys:List S2) (K:S1->Option R):Option R:=
 match cellsAV xs,cellsAV ys with
 | some as,some bs=>match P.eqGuardType P.depth t with
  | true=>none
  | false=>match seq P 64 t (.agg as) (.agg bs) with
   | some r=>match op with
    | .eql=>K (.bool (S_ r))
    | .neq=>K (.bool (S_ (!r)))
    | _=>none
   | none=>none
 | _,_=>none
end
section
variable {P : Program} {ι : Nat → Nat} {rows : Rows}
theorem seqFields_ok {f g:TypeId->AV->AV->Option Bool} (hf:∀ t x y b,f t x y=some b->g t x y=some b) {xs ys:List AV}:∀ {fs:List Field} {b:Bool},seqFields P f xs ys fs=some b->aeqFields g P xs ys fs=some b
 | [],b,h=>h
 | fd::fs,b,h=>by
  simp only [seqFields] at h
  split at h
  ·cases h
  ·rename_i hn
   simp only [aeqFields]
   rw [if_neg (of_decide_eq_false hn)]
   split at h
   ·rename_i a c h1 h2
    rw [h1,h2]
    split at h
    ·rename_i p hp
     split at h
     ·rename_i q hq
      simp only [Option.some.injEq] at h
      subst h
      have hp':=hf _ _ _ _ hp
      simp only [hp']
      cases p with
      | true=>simpa using seqFields_ok hf hq
      | false=>rfl
     ·cases h
    ·cases h
   ·cases h
theorem seqItems_ok {f g:TypeId->AV->AV->Option Bool} (hf:∀ t x y b,f t x y=some b->g t x y=some b) {e:TypeId} {c:Nat} {xs ys:List AV}:∀ {is:List Nat} {b:Bool},seqItems P f e c xs ys is=some b->aeqItems g P e c xs ys is=some b
 | [],b,h=>h
 | i::is,b,h=>by
  simp only [seqItems] at h
  simp only [aeqItems]
  split at h
  ·rename_i a d h1 h2
   rw [h1,h2]
   split at h
   ·rename_i p hp
    split at h
    ·rename_i q hq
     simp only [Option.some.injEq] at h
     subst h
     have hp':=hf _ _ _ _ hp
     simp only [hp']
     cases p with
     | true=>simpa using seqItems_ok hf hq
     | false=>rfl
    ·cases h
   ·cases h
  ·cases h
theorem seq_ok:∀ (d:Nat) (t:TypeId) (x y:AV) (b:Bool),seq P d t x y=some b->aeq P d t x y=some b
 | 0,t,x,y,b,h=>by cases h
 | d+1,t,x,y,b,h=>by
  have ih:=seq_ok d
  unfold seq at h
  unfold aeq
  split at h
  ·rename_i ht
   rw [ht]
   split at h
   ·rw [shut_eq] at h;exact h
   ·cases h
  ·rename_i k0 ht
   rw [ht]
   split at h
   ·split at h
    ·rename_i hk
     rw [shut_eq] at h
     simp only [of_decide_eq_true hk,if_true]
     exact h
    ·cases h
   ·cases h
  ·rename_i k0 ht
   rw [ht]
   split at h
   ·rename_i k a k' c
    split at h
    ·rename_i hk
     have hk:=of_decide_eq_true hk
     subst hk
     rw [shut_eq] at h
     cases a with
     | none=>cases c with
      | none=>simpa [ordO] using h
      | some c=>simpa [ordO] using h
     | some a=>cases c with
      | none=>simpa [ordO] using h
      | some c=>simpa [ordO] using h
    ·cases h
   ·cases h
  ·rename_i ht
   rw [ht]
   split at h
   ·rw [shut_eq] at h;exact h
   ·cases h
  ·rename_i fs ht
   rw [ht]
   split at h
   ·split at h
    ·cases h
    ·rename_i hs
     simp only [hs,Bool.false_eq_true,if_false]
     exact seqFields_ok ih h
   ·cases h
  ·rename_i n e ht
   rw [ht]
   split at h
   ·rename_i i hi
    simp only [hi]
    exact seqItems_ok ih h
   ·cases h
  ·cases h
theorem cellsAV_rel:∀ {xs:List S2} {vs us:List AV},All2 (R2 ι rows) xs vs->cellsAV xs=some us->vs=us
 | [],[],us,_,h=>by simp only [cellsAV,Option.some.injEq] at h;exact h
 | x::xs,v::vs,us,.cons hx ht,h=>by
  cases x with
  | b x=>
   simp only [cellsAV] at h
   split at h
   ·rename_i a as h1 h2
    simp only [Option.some.injEq] at h
    subst h
    rw [(toAV_rel (show R1 ι rows x v from hx) h1).1,cellsAV_rel ht h2]
   ·cases h
  | fn f a b=>cases h
theorem binAggS_ok {R:Type} {r:R} {op:BinOp} {t:TypeId} {cx cy:Bool} {xs ys:List S2} {v u:AV} {K:S1->Option R} (h:binAggS P op t xs ys K=some r)
  (hx:RV ι rows (.s (.agg xs)) v) (hy:RV ι rows (.s (.agg ys)) u):∃ z ys,abinOp P op t cx cy v u=some z/\R1 ι rows ys z/\K ys=some r:=by
 obtain ⟨vs,rfl,hx⟩:=hx
 obtain ⟨us,rfl,hy⟩:=hy
 unfold binAggS at h
 split at h
 ·rename_i as bs h1 h2
  have e1:=cellsAV_rel hx h1
  have e2:=cellsAV_rel hy h2
  subst e1;subst e2
  split at h
  ·cases h
  ·rename_i hg
   split at h
   ·rename_i q hq
    have hq':=seq_ok _ _ _ _ _ hq
    have key:∀ o:BinOp,abinOp P o t cx cy (.agg vs) (.agg us)=match o,some q with
      | .eql,some r=>some (.bool r)
      | .neq,some r=>some (.bool !r)
      | _,_=>none:=by
     intro o
     cases o<;>simp only [abinOp,plainEq,bothNil,bothAgg,hg,hq']<;>simp
    split at h
    ·rw [shut_eq] at h
     exact ⟨_,_,key .eql,(show R1 ι rows (.bool q) (.bool q) from rfl),h⟩
    ·rw [shut_eq] at h
     exact ⟨_,_,key .neq,(show R1 ι rows (.bool (!q)) (.bool (!q)) from rfl),h⟩
    ·cases h
   ·cases h
 ·cases h
end
end Go.Abs
end
noncomputable section
namespace Go.Abs
def flatAV:SV->Option AV
 | .s (.o (.b x))=>toAV x
 | .s (.agg cs)=>match toCells cs with
  | some l=>some (.agg l)
  | none=>none
 | _=>none
def mlook (P:Program) (kt e:TypeId) (k:AV) (es:List (AV × AV × Nat)):Option (Bool × AV):=
 match afindKey P kt k es 0 with
 | some (some p)=>some (true,p.2)
 | some none=>match zeroOf P e with
  | some z=>some (false,z)
  | none=>none
 | none=>none
def mput (P:Program) (kt:TypeId) (k v:AV) (es:List (AV × AV × Nat)) (clock:Nat):Option (List (AV × AV × Nat) × Nat):=
 match afindKey P kt k es 0 with
 | some (some p)=>match es[p.1]? with
  | some e=>match asameKey 64 e.1 k with
   | true=>some (es.set p.1 (k,v,e.2.2),clock)
   | false=>none
  | none=>none
 | some none=>some (es++[(k,v,clock)],clock+1)
 | none=>none
def mentry (P:Program) (kt el:TypeId) (k:AV) (es:List (AV × AV × Nat)) (clock:Nat):Option (AV × Nat × List (AV × AV × Nat) × Nat):=
 match afindKey P kt k es 0 with
 | some (some p)=>match es[p.1]? with
  | some e=>match asameKey 64 e.1 k with
   | true=>some (p.2,e.2.2,es.set p.1 (k,e.2.1,e.2.2),clock)
   | false=>none
  | none=>none
 | some none=>match zeroOf P el with
  | some z=>some (z,clock,es++[(k,z,clock)],clock+1)
  | none=>none
 | none=>none
def mstore (b:Int) (v:AV) (es:List (AV × AV × Nat)):Option (List (AV × AV × Nat)):=
 match abornAt b es 0 with
 | some i=>match es[i]? with
  | some e=>some (es.set i (e.1,v,e.2.2))
  | none=>none
 | none=>none
def flatCK:CK->Bool
 | .list | .nl=>false
 | _=>true
def asAgg:AV->Option (List AV)
 | .agg cs=>some cs
 | _=>none
section
variable {R : Type}
def decM:List CK->List AV->(List S2->Option R)->Option R
 | [],_,K=>K []
 | k::ks,cs,K=>dec1 k (cs.getD 0 .top) fun c=>decM ks cs.tail fun l=>K (c::l)
def decElem (P:Program) (t:TypeId) (v:AV) (K:S3->Option R):Option R:=
 match P.underlying t with
 | some d=>match isAggD d with
  | true=>match kindsOf P 8 t with
   | some ks=>match ks.all flatCK with
    | true=>bO (asAgg v) fun cs=>gO (S_ (decide (cs.length=ks.length))) (decM ks cs fun l=>K (.agg l))
    | false=>none
   | none=>none
  | false=>match kindOf P t with
   | some k=>match flatCK k with
    | true=>dec1 k v fun c=>K (.o c)
    | false=>none
   | none=>none
 | none=>none
def intHint:Option SV->Bool
 | none=>true
 | some x=>match x.b1 with
  | .int _ _=>true
  | _=>false
def makeMapS (P:Program) (rows:Rows) (t:TypeId) (hint:Option SV) (K:S1->Rows->Option R):Option R:=
 match P.underlying t with
 | some (.map _ _)=>match intHint hint with
  | true=>K (.mp rows.length) (rows++[some (.dict [] 0)])
  | false=>none
 | _=>none
def mlookS (P:Program) (rows:Rows) (t:TypeId) (x:S1) (k:SV) (ok:Bool) (K:SV->Option R):Option R:=
 match P.underlying t with
 | some (.map kt e)=>match x,flatAV k with
  | .mp r,some kv=>match rows[r]? with
   | some (some (.dict es _))=>match akey P 64 kt kv with
    | true=>bO (mlook P kt e kv es) fun p=>decElem P e p.2 fun y=>K (match ok with
     | true=>.tuple [y,.o (.b (.bool p.1))]
     | false=>.s y)
    | false=>none
   | _=>none
  | _,_=>none
 | _=>none
def mputS (P:Program) (rows:Rows) (t:TypeId) (m:S1) (k x:SV) (K:Rows->Option R):Option R:=
 match P.underlying t with
 | some (.map kt _)=>match m,flatAV k,flatAV x with
  | .mp r,some kv,some xv=>match rows[r]? with
   | some (some (.dict es clock))=>match akey P 64 kt kv with
    | true=>bO (mput P kt kv xv es clock) fun p=>K (rows.set r (some (.dict p.1 p.2)))
    | false=>none
   | _=>none
  | _,_,_=>none
 | _=>none
def entryS (P:Program) (rows:Rows) (t:TypeId) (m:S1) (k:SV) (K:SV->Rows->Option R):Option R:=
 match P.underlying t with
 | some (.map kt e)=>match m,flatAV k with
  | .mp r,some kv=>match rows[r]? with
   | some (some (.dict es clock))=>match akey P 64 kt kv with
    | true=>bO (mentry P kt e kv es clock) fun p=>decElem P e p.1 fun y=>K (.tuple [y,.o (.b (.int .i64 p.2.1))]) (rows.set r (some (.dict p.2.2.1 p.2.2.2)))
    | false=>none
   | _=>none
  | _,_=>none
 | _=>none
def entryPutS (rows:Rows) (m s:S1) (x:SV) (K:Rows->Option R):Option R:=
 match m,s,flatAV x with
 | .mp r,.int _ b,some xv=>match rows[r]? with
  | some (some (.dict es clock))=>bO (mstore b xv es) fun es'=>K (rows.set r (some (.dict es' clock)))
  | _=>none
 | _,_,_=>none
end
section
variable {C : Codes} {ι : Nat → Nat} {rows : Rows} {H : Heap} {P : Program} {R : Type} {r : R}
theorem flatAV_rel {x:SV} {v u:AV} (hx:RV ι rows x v) (h:flatAV x=some u):v=u:=by
 unfold flatAV at h
 split at h
 ·exact (toAV_rel hx h).1
 ·rename_i cs
  split at h
  ·rename_i l hl
   simp only [Option.some.injEq] at h;subst h
   obtain ⟨cs',e,h1⟩:=hx
   rw [e,(toCells_rel h1 hl).1]
  ·cases h
 ·cases h
theorem dec1_okF {k:CK} {v:AV} {K:S2->Option R} (hk:flatCK k=true) (h:dec1 k v K=some r):∃ c,R2 ι rows c v/\K c=some r:=by
 cases k with
 | list=>cases hk
 | nl=>cases hk
 | int k=>
  obtain ⟨n,h1,h2⟩:=bindO_some h
  unfold asInt at h1
  split at h1
  ·split at h1
   ·rename_i e;subst e
    simp only [Option.some.injEq] at h1;subst h1
    exact ⟨.b (.int _ _),(rfl:R1 ι rows (.int _ _) _),h2⟩
   ·cases h1
  ·cases h1
 | bool=>
  obtain ⟨n,h1,h2⟩:=bindO_some h
  unfold asBool at h1
  split at h1
  ·simp only [Option.some.injEq] at h1;subst h1
   exact ⟨.b (.bool _),(rfl:R1 ι rows (.bool _) _),h2⟩
  ·cases h1
 | float k=>
  obtain ⟨n,h1,h2⟩:=bindO_some h
  unfold asFloat at h1
  split at h1
  ·split at h1
   ·rename_i e;subst e
    simp only [Option.some.injEq] at h1;subst h1
    exact ⟨.b (.flo _ _),(rfl:R1 ι rows (.flo _ _) _),h2⟩
   ·cases h1
  ·cases h1
 | string=>
  obtain ⟨n,h1,h2⟩:=bindO_some h
  unfold asString at h1
  split at h1
  ·simp only [Option.some.injEq] at h1;subst h1
   exact ⟨.b (.string _),(rfl:R1 ι rows (.string _) _),h2⟩
  ·cases h1
theorem decM_ok:∀ (ks:List CK) (cs:List AV) (K:List S2->Option R),ks.all flatCK=true->cs.length=ks.length->decM ks cs K=some r->∃ l,All2 (R2 ι rows) l cs/\K l=some r
 | [],[],K,_,_,h=>⟨[],.nil,h⟩
 | [],_::_,K,_,hl,h=>by simp at hl
 | k::ks,[],K,_,hl,h=>by simp at hl
 | k::ks,c::cs,K,hk,hl,h=>by
  simp only [List.all_cons,Bool.and_eq_true] at hk
  simp only [decM] at h
  obtain ⟨x,h1,h2⟩:=dec1_okF (ι:=ι) (rows:=rows) hk.1 h
  obtain ⟨l,h3,h4⟩:=decM_ok ks cs _ hk.2 (by simpa using hl) h2
  exact ⟨x::l,.cons (by simpa using h1) h3,h4⟩
theorem decElem_ok {t:TypeId} {v:AV} {K:S3->Option R} (h:decElem P t v K=some r):∃ y,R3 ι rows y v/\K y=some r:=by
 unfold decElem at h
 split at h
 ·split at h
  ·split at h
   ·split at h
    ·rename_i hk
     obtain ⟨cs,h1,h2⟩:=bindO_some h
     obtain ⟨h3,h4⟩:=guardS_some h2
     obtain ⟨l,h5,h6⟩:=decM_ok (ι:=ι) (rows:=rows) _ _ _ hk h3 h4
     unfold asAgg at h1
     split at h1
     ·simp only [Option.some.injEq] at h1;subst h1
      exact ⟨.agg l,⟨_,rfl,h5⟩,h6⟩
     ·cases h1
    ·cases h
   ·cases h
  ·split at h
   ·split at h
    ·rename_i hk
     obtain ⟨c,h1,h2⟩:=dec1_okF (ι:=ι) (rows:=rows) hk h
     exact ⟨.o c,h1,h2⟩
    ·cases h
   ·cases h
 ·cases h
theorem sg_dict {q:Nat} {es:List (AV × AV × Nat)} {clock:Nat} (h:rows[q]?=some (some (.dict es clock))):sg rows q=none:=by
 unfold sg;rw [h]
theorem dict_turn (hE:RowsE C ι rows H) {q:Nat} {es es':List (AV × AV × Nat)} {clock clock':Nat} (h:rows[q]?=some (some (.dict es clock))):
  RowsE C ι (rows.set q (some (.dict es' clock'))) (H.upd (ι q) (.map es' clock'))/\Le ι rows ι (rows.set q (some (.dict es' clock'))):=by
 have hlt:=lt_of_get h
 refine hE.turn h trivial (.dict es' clock') (.map es' clock') ?_ fun _=>?_
 ·rw [sg_dict h,sg_dict (List.getElem?_set_self hlt)]
 ·obtain ⟨ar,ha⟩:=(hE.row _ _ h).real_lt trivial
  show (H.upd (ι q) _).get (ι q)=_
  rw [Heap.get_upd hE.ok _ (Heap.get_lt ha),if_pos rfl]
theorem makeMapS_ok (hE:RowsE C ι rows H) {t:TypeId} {hint:Option SV} {hint':Option AV} {K:S1->Rows->Option R} (hh:∀ x,hint=some x->∃ v,hint'=some v/\RV ι rows x v) (h0:hint=none->hint'=none)
  (h:makeMapS P rows t hint K=some r):∃ y H' ys rows' ι',amakeMap P H t hint'=some (y,H')/\RowsE C ι' rows' H'/\R1 ι' rows' ys y/\Le ι rows ι' rows'/\K ys rows'=some r:=by
 unfold makeMapS at h
 split at h
 ·rename_i kt e hu
  split at h
  ·rename_i hi
   have hi':isInt hint'=true:=by
    cases hint with
    | none=>rw [h0 rfl];rfl
    | some x=>
     obtain ⟨v,hv,hr⟩:=hh x rfl
     rw [hv]
     simp only [intHint] at hi
     have hb:=b1_rel hr
     split at hi
     ·rename_i k n hx
      rw [hx] at hb
      have hb:v=.int _ _:=hb
      rw [hb];rfl
     ·cases hi
   have le:=le_app ι rows (some (.dict [] 0)) H.n
   refine ⟨.map H.n,H.push (.map [] 0),.mp rows.length,rows++[some (.dict [] 0)],put ι rows.length H.n,by simp only [amakeMap,hu,hi'],
    hE.push (.dict [] 0) (.map [] 0) ?_,⟨by simp,fun _=>by rw [put_self]⟩,le,h⟩
   show (H.push (.map [] 0)).get (put ι rows.length H.n rows.length)=_
   rw [put_self];exact Heap.get_push_self
  ·cases h
 ·cases h
theorem dict_get (hE:RowsE C ι rows H) {q:Nat} {es:List (AV × AV × Nat)} {clock:Nat} (h:rows[q]?=some (some (.dict es clock))):H.get (ι q)=some (.map es clock):=hE.row _ _ h
theorem mlookS_ok (hE:RowsE C ι rows H) {t:TypeId} {x:S1} {k:SV} {v kv:AV} {ok:Bool} {K:SV->Option R} (hx:R1 ι rows x v) (hk:RV ι rows k kv) (h:mlookS P rows t x k ok K=some r):
  ∃ y ys,alookup P H t v kv ok=some y/\RV ι rows ys y/\K ys=some r:=by
 unfold mlookS at h
 split at h
 ·rename_i kt e hu
  split at h
  ·rename_i q u hf
   have:=flatAV_rel hk hf
   subst this
   split at h
   ·rename_i es clock hrow
    have hv:=hx.2 (sg_dict hrow)
    subst hv
    have hg:=dict_get hE hrow
    split at h
    ·rename_i hkey
     obtain ⟨p,h1,h2⟩:=bindO_some h
     obtain ⟨y,h3,h4⟩:=decElem_ok (ι:=ι) (rows:=rows) h2
     have hl:∀ z,(match afindKey P kt kv es 0 with
       | some (some (_,v))=>some (if ok=true then AV.tuple [v,.bool true] else v)
       | some none=>match zeroOf P e with
        | some z=>some (if ok=true then AV.tuple [z,.bool false] else z)
        | none=>none
       | none=>none)=some z->alookup P H t (.map (ι q)) kv ok=some z:=by
      intro z hz
      simp only [alookup,hu,amapRow,hg,hkey];exact hz
     have key:(match afindKey P kt kv es 0 with
       | some (some (_,v))=>some (if ok=true then AV.tuple [v,.bool true] else v)
       | some none=>match zeroOf P e with
        | some z=>some (if ok=true then AV.tuple [z,.bool false] else z)
        | none=>none
       | none=>none)=some (if ok=true then AV.tuple [p.2,.bool p.1] else p.2):=by
      unfold mlook at h1
      split at h1
      ·rename_i p0 hp0
       obtain ⟨i0,v0⟩:=p0
       simp only [Option.some.injEq] at h1;subst h1
       rw [hp0]
      ·rename_i hp0
       rw [hp0]
       split at h1
       ·rename_i z hz
        simp only [Option.some.injEq] at h1;subst h1
        simp only [hz]
       ·cases h1
      ·cases h1
     refine ⟨_,_,hl _ key,?_,h4⟩
     cases ok with
     | true=>
      simp only [if_true]
      exact ⟨_,rfl,.cons h3 (.cons (rfl:R1 ι rows (.bool p.1) _) .nil)⟩
     | false=>exact h3
    ·cases h
   ·cases h
  ·cases h
 ·cases h
theorem mputS_ok (hE:RowsE C ι rows H) {t:TypeId} {m:S1} {k x:SV} {mv kv xv:AV} {K:Rows->Option R} (hm:R1 ι rows m mv) (hk:RV ι rows k kv) (hx:RV ι rows x xv) (h:mputS P rows t m k x K=some r):
  ∃ H' rows',amapUpdate P H t mv kv xv=some H'/\RowsE C ι rows' H'/\Le ι rows ι rows'/\K rows'=some r:=by
 unfold mputS at h
 split at h
 ·rename_i kt e hu
  split at h
  ·rename_i q u w hf hw
   have:=flatAV_rel hk hf
   subst this
   have:=flatAV_rel hx hw
   subst this
   split at h
   ·rename_i es clock hrow
    have hv:=hm.2 (sg_dict hrow)
    subst hv
    have hg:=dict_get hE hrow
    split at h
    ·rename_i hkey
     obtain ⟨p,h1,h2⟩:=bindO_some h
     obtain ⟨a,b⟩:=dict_turn hE (es':=p.1) (clock':=p.2) hrow
     refine ⟨H.upd (ι q) (.map p.1 p.2),_,?_,a,b,h2⟩
     have hlim:decide (H.lim<=ι q)=true:=by rw [hE.lim];exact decide_eq_true (Nat.zero_le _)
     simp only [amapUpdate,hu,hg,hkey,hlim,Bool.and_self]
     unfold mput at h1
     split at h1
     ·rename_i p0 hp0
      obtain ⟨i0,v0⟩:=p0
      rw [hp0]
      simp only at h1 ⊢
      split at h1
      ·rename_i e0 he0
       split at h1
       ·rename_i hs
        simp only [Option.some.injEq] at h1;subst h1
        simp only [he0,hs]
       ·cases h1
      ·cases h1
     ·rename_i hp0
      rw [hp0]
      simp only [Option.some.injEq] at h1;subst h1
      rfl
     ·cases h1
    ·cases h
   ·cases h
  ·cases h
 ·cases h
theorem entryS_ok (hE:RowsE C ι rows H) {t:TypeId} {m:S1} {k:SV} {mv kv:AV} {K:SV->Rows->Option R} (hm:R1 ι rows m mv) (hk:RV ι rows k kv) (h:entryS P rows t m k K=some r):
  ∃ y H' ys rows',amapEntry P H t mv kv=some (y,H')/\RowsE C ι rows' H'/\RV ι rows' ys y/\Le ι rows ι rows'/\K ys rows'=some r:=by
 unfold entryS at h
 split at h
 ·rename_i kt e hu
  split at h
  ·rename_i q u hf
   have:=flatAV_rel hk hf
   subst this
   split at h
   ·rename_i es clock hrow
    have hv:=hm.2 (sg_dict hrow)
    subst hv
    have hg:=dict_get hE hrow
    split at h
    ·rename_i hkey
     obtain ⟨p,h1,h2⟩:=bindO_some h
     obtain ⟨a,b⟩:=dict_turn hE (es':=p.2.2.1) (clock':=p.2.2.2) hrow
     obtain ⟨y,h3,h4⟩:=decElem_ok (ι:=ι) (rows:=rows.set q (some (.dict p.2.2.1 p.2.2.2))) h2
     refine ⟨.tuple [p.1,.int .i64 p.2.1],H.upd (ι q) (.map p.2.2.1 p.2.2.2),_,_,?_,a,(show RV ι _ (.tuple [y,.o (.b (.int .i64 p.2.1))]) _ from ⟨_,rfl,.cons h3 (.cons (rfl:R1 ι _ (.int .i64 p.2.1) _) .nil)⟩),b,h4⟩
     have hlim:decide (H.lim<=ι q)=true:=by rw [hE.lim];exact decide_eq_true (Nat.zero_le _)
     simp only [amapEntry,hu,hg,hkey,hlim,Bool.and_self]
     unfold mentry at h1
     split at h1
     ·rename_i p0 hp0
      obtain ⟨i0,v0⟩:=p0
      rw [hp0]
      simp only at h1 ⊢
      split at h1
      ·rename_i e0 he0
       split at h1
       ·rename_i hs
        simp only [Option.some.injEq] at h1;subst h1
        simp only [he0,hs]
       ·cases h1
      ·cases h1
     ·rename_i hp0
      rw [hp0]
      split at h1
      ·rename_i z hz
       simp only [Option.some.injEq] at h1;subst h1
       simp only [hz]
      ·cases h1
     ·cases h1
    ·cases h
   ·cases h
  ·cases h
 ·cases h
theorem entryPutS_ok (hE:RowsE C ι rows H) {m s:S1} {x:SV} {mv sv xv:AV} {K:Rows->Option R} (hm:R1 ι rows m mv) (hs:R1 ι rows s sv) (hx:RV ι rows x xv) (h:entryPutS rows m s x K=some r):
  ∃ H' rows',aentryStore H mv sv xv=some H'/\RowsE C ι rows' H'/\Le ι rows ι rows'/\K rows'=some r:=by
 unfold entryPutS at h
 split at h
 ·rename_i q kk b w hw
  have:=flatAV_rel hx hw
  subst this
  split at h
  ·rename_i es clock hrow
   have hv:=hm.2 (sg_dict hrow)
   subst hv
   have hs:sv=.int _ _:=hs
   subst hs
   have hg:=dict_get hE hrow
   obtain ⟨es',h1,h2⟩:=bindO_some h
   obtain ⟨a,c⟩:=dict_turn hE (es':=es') (clock':=clock) hrow
   refine ⟨H.upd (ι q) (.map es' clock),_,?_,a,c,h2⟩
   have hlim:decide (H.lim<=ι q)=true:=by rw [hE.lim];exact decide_eq_true (Nat.zero_le _)
   simp only [aentryStore,hg,hlim]
   unfold mstore at h1
   split at h1
   ·rename_i i0 hi0
    rw [hi0]
    split at h1
    ·rename_i e0 he0
     simp only [Option.some.injEq] at h1;subst h1
     simp only [he0]
    ·cases h1
   ·cases h1
  ·cases h
 ·cases h
end
end Go.Abs
end
noncomputable section
namespace Go.Abs
def ofAVS:AV->SV
 | .agg cs=>.s (.agg (cs.map fun c=>.b (ofAVr c)))
 | .tuple []=>.tuple []
 | .func f [] []=>.s (.o (.fn f [] []))
 | x=>.ofB (ofAVr x)
def evS (tmps:List SV):Operand->SV
 | .tmp t=>(tmps[t]?).getD (.ofB .top)
 | .const v=>ofAVS (ofV v)
 | .global _=>.ofB .top
 | .func f=>.s (.o (.fn f [] []))
def isNilS:SV->Bool
 | .s (.o (.b (.raw .nilslice)))=>true
 | _=>false
def ptrB (rows:Rows):S1->Option Bool
 | .raw .nilptr=>some true
 | .ptr r _=>match (sg rows r).isNone with
  | true=>some false
  | false=>none
 | .lptr _ _=>some false
 | _=>none
def okPtr (rows:Rows):SV->Bool
 | .s (.o (.b (.ptr r _)))=>(sg rows r).isNone
 | .s (.o (.b (.eptr r ver _)))=>curV rows r ver
 | .s (.o (.b (.lptr _ _)))=>true
 | .s (.o (.fn _ _ _))=>true
 | _=>false
def cvtI (f:FloatKind) (o:Option Nat) (k:IntKind):Option Int:=
 match o with
 | some b=>floatToIntVal f b k
 | none=>none
def cvtF (f:FloatKind) (o:Option Nat) (k:FloatKind):Option Nat:=
 match o with
 | some b=>if f=k then some b else match f.decode b with
  | .number g m e=>if (k.decode (k.encode (.number g m e))).isInfinity then none else some (k.encode (.number g m e))
  | _=>none
 | none=>none
section
variable {R : Type}
def ptrEqS (P:Program) (op:BinOp) (t:TypeId) (a b:Bool) (K:S1->Option R):Option R:=
 match P.underlying t with
 | some (.pointer _)=>match a||b with
  | true=>match op with
   | .eql=>K (.bool (a&&b))
   | .neq=>K (.bool (!(a&&b)))
   | _=>none
  | false=>none
 | _=>none
def strAt (s:ByteArray) (n:Int):Option Int:=
 if 0<=n then match s.data.toList[n.toNat]? with
  | some b=>some (b.toNat:Int)
  | none=>none
 else none
def strAtS (P:Program) (t:TypeId) (x ix:S1) (K:S1->Option R):Option R:=
 match P.underlying t with
 | some .string=>match x,ix with
  | .string s,.int _ n=>bO (strAt s n) fun v=>K (.int .u8 v)
  | _,_=>none
 | _=>none
def nlB:S1->S1->Option Nat
 | .nl n _,.raw .nilslice=>some n
 | .raw .nilslice,.nl n _=>some n
 | _,_=>none
def nlEqS (P:Program) (op:BinOp) (t:TypeId) (n:Nat) (K:S1->Option R):Option R:=
 match P.underlying t with
 | some (.slice _)=>match op with
  | .eql=>K (.bool (S_ (n==0)))
  | .neq=>K (.bool (S_ (!(n==0))))
  | _=>none
 | _=>none
def arrayAtS (P:Program) (rows:Rows) (t:TypeId) (x:S1) (K:S1->Option R):Option R:=
 match P.underlying t with
 | some (.array n _)=>match Nat.blt 0 n with
  | true=>match x with
   | .own r ver _=>match sg rows r with
    | some (_,v,_,m)=>match Nat.beq ver v with
     | true=>gO (S_ (decide (n<=m))) (K (.eptr r ver 0))
     | false=>none
    | none=>none
   | .sub r ver off m esz=>match curV rows r ver with
    | true=>gO (S_ (decide (n<=m))) (K (.eptr r ver (off*esz)))
    | false=>none
   | .list m cs=>gO (S_ (decide (n<=m/\0<cs.length))) (K (.lptr cs 0))
   | _=>none
  | false=>none
 | _=>none
def convertS (P:Program) (s d:TypeId) (x:S1) (K:S1->Option R):Option R:=
 match P.underlying s,P.underlying d with
 | some sd,some dd=>match dd with
  | .int k=>match x with
   | .int _ n=>K (.int k (S_ (k.wrap n)))
   | .flo f o=>bO (S_ (cvtI f o k)) fun n=>K (.int k n)
   | _=>none
  | .float k=>match x with
   | .int _ n=>K (.flo k (some (S_ (k.nearest n))))
   | .flo f o=>bO (S_ (cvtF f o k)) fun b=>K (.flo k (some b))
   | _=>none
  | .string=>match sd with
   | .string=>match x with
    | .string b=>K (.string b)
    | _=>none
   | _=>none
  | _=>none
 | _,_=>none
def fieldS (P:Program) (t:TypeId) (x:SV) (f:Nat) (K:SV->Option R):Option R:=
 match P.underlying t with
 | some (.struct fs)=>match x with
  | .s (.agg cs)=>match fs[f]? with
   | some fd=>match P.underlying fd.type,P.info? fd.type with
    | some d,some i=>match isAggD d with
     | true=>gO (decide (fd.offset+i.size<=cs.length)) (K (.s (.agg ((cs.drop fd.offset).take i.size))))
     | false=>match cs[fd.offset]? with
      | some c=>K (.s (.o c))
      | none=>none
    | _,_=>none
   | none=>none
  | _=>none
 | _=>none
def minFO (k k':FloatKind) (a b:Option Nat):Option (Option Nat):=
 match amin2 (.flo k a) (.flo k' b) with
 | some (.flo j o)=>match decide (j=k) with
  | true=>some o
  | false=>none
 | _=>none
def maxFO (k k':FloatKind) (a b:Option Nat):Option (Option Nat):=
 match amax2 (.flo k a) (.flo k' b) with
 | some (.flo j o)=>match decide (j=k) with
  | true=>some o
  | false=>none
 | _=>none
def negFO (k:FloatKind) (a:Option Nat):Option (Option Nat):=
 match a with
 | some b=>some (some (Op.negFloat k b))
 | none=>none
theorem minFO_of {k k':FloatKind} {a b o:Option Nat} (h:minFO k k' a b=some o):amin2 (.flo k a) (.flo k' b)=some (.flo k o):=by
 unfold minFO at h
 split at h
 ·rename_i j o' e
  split at h
  ·rename_i hj
   have hj:=of_decide_eq_true hj
   subst hj
   simp only [Option.some.injEq] at h;subst h
   exact e
  ·cases h
 ·cases h
theorem maxFO_of {k k':FloatKind} {a b o:Option Nat} (h:maxFO k k' a b=some o):amax2 (.flo k a) (.flo k' b)=some (.flo k o):=by
 unfold maxFO at h
 split at h
 ·rename_i j o' e
  split at h
  ·rename_i hj
   have hj:=of_decide_eq_true hj
   subst hj
   simp only [Option.some.injEq] at h;subst h
   exact e
  ·cases h
 ·cases h
def builtinS (P:Program) (rows:Rows) (b:Builtin) (ts:List TypeId) (args:List SV) (K:SV->Rows->Option R):Option R:=
 match b with
 | .append=>match ts,args with
  | s::x::_,[sv,xv]=>appendS P rows s x sv.b1 xv.b1 fun y rows'=>K (.ofB y) rows'
  | _,_=>none
 | .len=>match ts,args with
  | t::_,[x]=>lenS P rows t x.b1 fun y=>K (.ofB y) rows
  | _,_=>none
 | .max=>match args with
  | [x,y]=>match x.b1,y.b1 with
   | .int k a,.int _ b=>K (.ofB (.int k (S_ (if b>a then b else a)))) rows
   | .flo k a,.flo k' b=>bO (maxFO k k' a b) fun o=>K (.ofB (.flo k o)) rows
   | _,_=>none
  | _=>none
 | .min=>match args with
  | [x,y]=>match x.b1,y.b1 with
   | .int k a,.int _ b=>K (.ofB (.int k (S_ (if b<a then b else a)))) rows
   | .flo k a,.flo k' b=>bO (minFO k k' a b) fun o=>K (.ofB (.flo k o)) rows
   | _,_=>none
  | _=>none
 | .copy=>match ts,args with
  | t::_,[d,s]=>copyS P rows t d.b1 s.b1 fun y rows'=>K (.ofB y) rows'
  | _,_=>none
 | .clear=>match ts,args with
  | t::_,[x]=>clearS P rows t x.b1 fun rows'=>K (.ofB .top) rows'
  | _,_=>none
 | _=>none
def unaryS (op:UnOp) (x:S1) (K:S1->Option R):Option R:=
 match op with
 | .not=>match x with
  | .bool b=>K (.bool (!b))
  | _=>none
 | .neg=>match x with
  | .flo k o=>bO (negFO k o) fun o=>K (.flo k o)
  | x=>match toAV x with
   | some v=>genS (aunary .neg v) K
   | none=>none
 | op=>match toAV x with
  | some v=>genS (aunary op v) K
  | none=>none
def opS (P:Program) (ρ:Operand->SV) (rows:Rows) (o:Oper) (K:SV->Rows->Option R):Option R:=
 match o.op with
 | .move x=>K (ρ x) rows
 | .assign x=>match isNilS (ρ x) with
  | true=>match eszOf P o.type with
   | some e=>K (.ofB (.own rows.length 0 e)) (rows++[some (.vec true 0 e 0 [])])
   | none=>K (ρ x) rows
  | false=>K (ρ x) rows
 | .alloc t=>match zeroOf P t with
  | some z=>match mkCells z.cells (ghostsOf P t) rows with
   | (cs,rows')=>K (.ofB (.ptr rows'.length 0)) (rows'++[some (.lit cs)])
  | none=>none
 | .box _ x=>match cellsS rows (ρ x) with
  | some cs=>K (.ofB (.ptr rows.length 0)) (rows++[some (.lit cs)])
  | none=>none
 | .build t parts=>match buildS P rows t (parts.toList.map fun p=>(p.1,ρ p.2)) with
  | some y=>K y rows
  | none=>none
 | .buildSlice t n parts=>match fzT P t with
  | true=>fzPsS rows (parts.toList.map fun p=>(p.1,ρ p.2)) fun ps rows1=>buildSliceS P rows1 t n ps fun y rows'=>K (.ofB y) rows'
  | false=>match fnSl P t with
   | true=>buildFnsS P rows t n (parts.toList.map fun p=>(p.1,ρ p.2)) fun y rows'=>K (.ofB y) rows'
   | false=>buildSliceS P rows t n (parts.toList.map fun p=>(p.1,ρ p.2)) fun y rows'=>K (.ofB y) rows'
 | .load t a=>loadS P rows t (ρ a).b1 fun y=>K y rows
 | .store t a x=>storeS P rows t (ρ a).b1 (ρ x) fun rows'=>K (.ofB .top) rows'
 | .nilCheck x=>match okPtr rows (ρ x) with
  | true=>K (ρ x) rows
  | false=>none
 | .binOp op t x y _=>match ρ x,ρ y with
  | .s (.agg xs),.s (.agg ys)=>binAggS P op t xs ys fun z=>K (.ofB z) rows
  | u,v=>match ptrB rows u.b1,ptrB rows v.b1 with
   | some a,some b=>ptrEqS P op t a b fun z=>K (.ofB z) rows
   | _,_=>match nlB u.b1 v.b1 with
    | some n=>nlEqS P op t n fun z=>K (.ofB z) rows
    | none=>binS P op t (isConst x) (isConst y) u.b1 v.b1 fun z=>K (.ofB z) rows
 | .unOp op _ x=>unaryS op (ρ x).b1 fun z=>K (.ofB z) rows
 | .convert s d x=>match astrBytes P s d with
  | true=>none
  | false=>convertS P s d (ρ x).b1 fun y=>K (.ofB y) rows
 | .makeFunc fn first cap=>match fn with
  | .func f=>K (.s (.o (.fn f (first.toList.map fun x=>(ρ x).b1) (cap.toList.map fun x=>(ρ x).b1)))) rows
  | _=>none
 | .makeSlice t l c=>makeSliceS P rows t (ρ l).b1 (ρ c).b1 fun y rows'=>K (.ofB y) rows'
 | .sliceToArrayPointer t x=>arrayAtS P rows t (ρ x).b1 fun y=>K (.ofB y) rows
 | .slice t x lo hi none=>sliceS P rows t (ρ x).b1 (lo.map fun x=>(ρ x).b1) (hi.map fun x=>(ρ x).b1) fun y=>K (.ofB y) rows
 | .slice t x lo (some hi) (some mx)=>slice3S P t (ρ x).b1 (lo.map fun x=>(ρ x).b1) (ρ hi).b1 (ρ mx).b1 fun y=>K (.ofB y) rows
 | .fieldAddr s x f=>match cur1 rows (ρ x).b1 with
  | true=>fieldAddrS P s (ρ x).b1 f fun y=>K (.ofB y) rows
  | false=>none
 | .field t x f=>fieldS P t (ρ x) f fun y=>K y rows
 | .indexAddr t x ix=>match cur1 rows (ρ x).b1 with
  | true=>indexAddrS P rows t (ρ x).b1 (ρ ix).b1 fun y=>K (.ofB y) rows
  | false=>none
 | .index t x ix=>strAtS P t (ρ x).b1 (ρ ix).b1 fun y=>K (.ofB y) rows
 | .makeMap t hint=>makeMapS P rows t (hint.map ρ) fun y rows'=>K (.ofB y) rows'
 | .lookup t x k ok=>mlookS P rows t (ρ x).b1 (ρ k) ok fun y=>K y rows
 | .mapUpdate t m k x=>mputS P rows t (ρ m).b1 (ρ k) (ρ x) fun rows'=>K (.ofB .top) rows'
 | .insert t m k x=>mputS P rows t (ρ m).b1 (ρ k) (ρ x) fun rows'=>K (.ofB .top) rows'
 | .mapEntry t m k=>entryS P rows t (ρ m).b1 (ρ k) fun y rows'=>K y rows'
 | .entryStore t m s x=>entryPutS rows (ρ m).b1 (ρ s).b1 (ρ x) fun rows'=>K (.ofB .top) rows'
 | .extract x k=>match ρ x with
  | .tuple xs=>match xs[k]? with
   | some y=>K (.s y) rows
   | none=>none
  | _=>none
 | .call { callee:=.builtin b,args,argTypes }=>builtinS P rows b argTypes.toList (args.toList.map ρ) K
 | _=>none
end
def StepOk {R:Type} (C:Codes) (ι:Nat->Nat) (rows:Rows) (a:Option (AV × Heap)) (K:SV->Rows->Option R) (r:R):Prop:=
 ∃ y H' ys rows' ι',a=some (y,H')/\RowsE C ι' rows' H'/\RV ι' rows' ys y/\Le ι rows ι' rows'/\K ys rows'=some r
section
variable {C : Codes} {ι : Nat → Nat} {rows : Rows} {H : Heap} {P : Program} {R : Type} {r : R} {fs : Fns}
theorem ofAVS_rel (x:AV):RV ι rows (ofAVS x) x:=by
 unfold ofAVS
 split
 ·rename_i cs
  refine ⟨cs,rfl,?_⟩
  have:=All2.of_map (R:=R2 ι rows) (fun c=>.b (ofAVr c)) id cs fun v _=>ofAVr_rel v
  simpa using this
 ·exact ⟨[],rfl,.nil⟩
 ·exact ⟨[],[],rfl,.nil,.nil⟩
 ·exact ofAVr_rel _
theorem evS_rel {tmps:List SV} {tmps':List AV} (h:All2 (RV ι rows) tmps tmps') (x:Operand):RV ι rows (evS tmps x) (ev (fun _=>none) tmps' x):=by
 cases x with
 | tmp t=>
  simp only [evS,ev]
  cases hx:tmps[t]? with
  | none=>trivial
  | some y=>
   obtain ⟨v,hv,hr⟩:=h.get hx
   rw [hv]
   exact hr
 | const v=>exact ofAVS_rel _
 | global g=>trivial
 | func f=>exact ⟨[],[],rfl,.nil,.nil⟩
theorem StepOk.same {y:AV} {ys:SV} {K:SV->Rows->Option R} {a:Option (AV × Heap)} (hE:RowsE C ι rows H) (ha:a=some (y,H)) (hy:RV ι rows ys y) (h:K ys rows=some r):StepOk C ι rows a K r:=
 ⟨y,H,ys,rows,ι,ha,hE,hy,Le.refl _ _,h⟩
theorem convertS_ok {s d:TypeId} {x:S1} {v:AV} {K:S1->Option R} (hx:R1 ι rows x v) (h:convertS P s d x K=some r):∃ y ys,aconvert P H s d v=some y/\R1 ι rows ys y/\K ys=some r:=by
 unfold convertS at h
 unfold aconvert
 split at h
 ·rename_i sd dd hs hd
  simp only [hs,hd]
  split at h
  ·rename_i k
   split at h
   ·have hx:v=.int _ _:=hx
    subst hx
    exact ⟨.int _ _,.int _ _,rfl,(show R1 ι rows (.int _ (S_ _)) (.int _ _) by rw [shut_eq];rfl),h⟩
   ·rename_i f o
    have hx:v=.flo f o:=hx
    subst hx
    rw [shut_eq] at h
    obtain ⟨n,h1,h2⟩:=bindO_some h
    cases o with
    | none=>cases h1
    | some b=>exact ⟨.int _ _,.int _ _,by simp only [cvtI] at h1;simp only [h1],rfl,h2⟩
   ·cases h
  ·rename_i k
   split at h
   ·have hx:v=.int _ _:=hx
    subst hx
    exact ⟨.float _ _,.flo _ _,rfl,(show R1 ι rows (.flo _ (some (S_ _))) (.float _ _) by rw [shut_eq];rfl),h⟩
   ·rename_i f o
    have hx:v=.flo f o:=hx
    subst hx
    rw [shut_eq] at h
    obtain ⟨n,h1,h2⟩:=bindO_some h
    cases o with
    | none=>cases h1
    | some b=>
     refine ⟨.float _ _,.flo _ _,?_,rfl,h2⟩
     simp only [cvtF] at h1
     show (if f=k then some (AV.float k b) else match f.decode b with
      | .number g m e=>if (k.decode (k.encode (.number g m e))).isInfinity=true then none else some (AV.float k (k.encode (.number g m e)))
      | _=>none)=some (AV.float k n)
     by_cases e:f=k
     ·rw [if_pos e] at h1;rw [if_pos e];simp only [Option.some.injEq] at h1;rw [h1]
     ·rw [if_neg e] at h1;rw [if_neg e]
      split at h1
      ·split at h1
       ·cases h1
       ·rename_i h3
        simp only [Option.some.injEq] at h1
        rw [if_neg h3,h1]
      ·cases h1
   ·cases h
  ·split at h
   ·split at h
    ·have hx:v=.string _:=hx
     subst hx
     exact ⟨.string _,.string _,rfl,rfl,h⟩
    ·cases h
   ·cases h
  ·cases h
 ·cases h
theorem fieldS_ok {t:TypeId} {x:SV} {v:AV} {f:Nat} {K:SV->Option R} (hx:RV ι rows x v) (h:fieldS P t x f K=some r):∃ y ys,afield P t v f=some y/\RV ι rows ys y/\K ys=some r:=by
 unfold fieldS at h
 unfold afield
 split at h
 ·rename_i fs hu
  split at h
  ·rename_i cs
   obtain ⟨cs',e,hc⟩:=hx
   subst e
   split at h
   ·rename_i fd hf
    simp only [hu,hf,apart]
    split at h
    ·rename_i d i hd hi
     simp only [hd,hi]
     split at h
     ·rename_i ha
      obtain ⟨hb,h⟩:=guardD_some h
      refine ⟨.agg ((cs'.drop fd.offset).take i.size),.s (.agg _),?_,⟨_,rfl,(hc.drop fd.offset).take i.size⟩,h⟩
      rw [hc.length] at hb
      cases d<;>first | (simp [isAggD] at ha;done) | (simp only [if_pos hb])
     ·rename_i ha
      split at h
      ·rename_i c hcc
       obtain ⟨y,hy,hr⟩:=hc.get hcc
       refine ⟨y,.s (.o c),?_,hr,h⟩
       cases d<;>first | (simp [isAggD] at ha;done) | exact hy
      ·cases h
    ·cases h
   ·cases h
  ·cases h
 ·cases h
theorem okPtr_ok {x:SV} {v:AV} (hx:RV ι rows x v) (h:okPtr rows x=true):anilCheck v=some v:=by
 unfold okPtr at h
 split at h
 ·have hx:_/\(sg rows _=none->v=.ptr _ _):=hx
  rw [hx.2 (by simpa using h)];rfl
 ·obtain ⟨nb,e,n,hs⟩:=curV_spec h
  have hx:R1 ι rows (.eptr _ _ _) v:=hx
  rw [(hx.2 _ _ _ _ hs).2 rfl];rfl
 ·have hx:R1 ι rows (.lptr _ _) v:=hx
  rw [hx.1];rfl
 ·obtain ⟨a,b,e,_⟩:=hx
  rw [e];rfl
 ·cases h
theorem map_all2 {α:Type} {A:Type} {B:Type} {Q:A->B->Prop} {f:α->A} {g:α->B} (l:List α) (h:∀ x,Q (f x) (g x)):All2 Q (l.map f) (l.map g):=All2.of_map f g l fun x _=>h x
theorem builtinS_ok (hE:RowsE C ι rows H) {b:Builtin} {ts:List TypeId} {args:List SV} {args':List AV} {K:SV->Rows->Option R} (ha:All2 (RV ι rows) args args') (h:builtinS P rows b ts args K=some r):
  StepOk C ι rows (abuiltin P H b ts args') K r:=by
 unfold builtinS at h
 split at h
 ·split at h
  ·rename_i s x _ sv xv
   cases ha with
   | cons h1 ha=>cases ha with
    | cons h2 ha=>cases ha with
     | nil=>
      obtain ⟨y,H',ys,rows',ι',k1,k2,k3,k4,k5⟩:=appendS_ok hE (b1_rel h1) (b1_rel h2) h
      exact ⟨y,H',.ofB ys,rows',ι',k1,k2,k3,k4,k5⟩
  ·cases h
 ·split at h
  ·rename_i t _ x
   cases ha with
   | cons h1 ha=>cases ha with
    | nil=>
     obtain ⟨y,ys,k1,k2,k3⟩:=lenS_ok (b1_rel h1) h
     exact StepOk.same hE (by simp only [abuiltin,k1]) (ys:=.ofB ys) k2 k3
  ·cases h
 ·split at h
  ·rename_i x y
   cases ha with
   | cons h1 ha=>cases ha with
    | cons h2 ha=>cases ha with
     | nil=>
      have h1:=b1_rel h1
      have h2:=b1_rel h2
      split at h
      ·rename_i k a k' b e1 e2
       rw [e1] at h1;rw [e2] at h2
       have h1:_=AV.int k a:=h1
       have h2:_=AV.int k' b:=h2
       subst h1;subst h2
       exact StepOk.same hE (y:=.int k (if b>a then b else a)) rfl (ys:=.ofB (.int k (S_ (if b>a then b else a)))) (show R1 ι rows (.int _ (S_ _)) (.int _ _) by rw [shut_eq];rfl) h
      ·rename_i k a k' b e1 e2
       rw [e1] at h1;rw [e2] at h2
       have h1:_=AV.flo k a:=h1
       have h2:_=AV.flo k' b:=h2
       subst h1;subst h2
       obtain ⟨o,h3,h4⟩:=bindO_some h
       exact StepOk.same hE (y:=.flo k o) (by simp only [abuiltin,afold,maxFO_of h3]) (ys:=.ofB (.flo k o)) rfl h4
      ·cases h
  ·cases h
 ·split at h
  ·rename_i x y
   cases ha with
   | cons h1 ha=>cases ha with
    | cons h2 ha=>cases ha with
     | nil=>
      have h1:=b1_rel h1
      have h2:=b1_rel h2
      split at h
      ·rename_i k a k' b e1 e2
       rw [e1] at h1;rw [e2] at h2
       have h1:_=AV.int k a:=h1
       have h2:_=AV.int k' b:=h2
       subst h1;subst h2
       exact StepOk.same hE (y:=.int k (if b<a then b else a)) rfl (ys:=.ofB (.int k (S_ (if b<a then b else a)))) (show R1 ι rows (.int _ (S_ _)) (.int _ _) by rw [shut_eq];rfl) h
      ·rename_i k a k' b e1 e2
       rw [e1] at h1;rw [e2] at h2
       have h1:_=AV.flo k a:=h1
       have h2:_=AV.flo k' b:=h2
       subst h1;subst h2
       obtain ⟨o,h3,h4⟩:=bindO_some h
       exact StepOk.same hE (y:=.flo k o) (by simp only [abuiltin,afold,minFO_of h3]) (ys:=.ofB (.flo k o)) rfl h4
      ·cases h
  ·cases h
 ·split at h
  ·rename_i t _ d x
   cases ha with
   | cons h1 ha=>cases ha with
    | cons h2 ha=>cases ha with
     | nil=>
      obtain ⟨y,H',ys,rows',ι',k1,k2,k3,k4,k5⟩:=copyS_ok hE (b1_rel h1) (b1_rel h2) h
      exact ⟨y,H',.ofB ys,rows',ι',k1,k2,k3,k4,k5⟩
  ·cases h
 ·split at h
  ·rename_i t _ x
   cases ha with
   | cons h1 ha=>cases ha with
    | nil=>
     obtain ⟨hu,H',rows',ι',k1,k2,k3,k4⟩:=clearS_ok hE (b1_rel h1) h
     exact ⟨.top,H',.ofB .top,rows',ι',by simp only [abuiltin,hu,if_true,k1],k2,trivial,k3,k4⟩
  ·cases h
 ·cases h
theorem isNilS_rel {x:SV} {v:AV} (hx:RV ι rows x v) (h:isNilS x=true):v=.nilslice:=by
 unfold isNilS at h
 split at h
 ·exact hx
 ·cases h
theorem unaryS_ok {op:UnOp} {x:S1} {v:AV} {K:S1->Option R} (hx:R1 ι rows x v) (h:unaryS op x K=some r):∃ z ys,aunary op v=some z/\R1 ι rows ys z/\K ys=some r:=by
 unfold unaryS at h
 split at h
 ·split at h
  ·rename_i b
   have hx:v=.bool b:=hx
   subst hx
   exact ⟨.bool (!b),.bool (!b),rfl,rfl,h⟩
  ·cases h
 ·split at h
  ·rename_i k o
   have hx:v=.flo k o:=hx
   subst hx
   obtain ⟨o',h1,h2⟩:=bindO_some h
   cases o with
   | none=>cases h1
   | some b=>
    simp only [negFO,Option.some.injEq] at h1
    subst h1
    exact ⟨.flo k (some (Op.negFloat k b)),.flo k (some (Op.negFloat k b)),rfl,rfl,h2⟩
  ·split at h
   ·rename_i u hu
    obtain ⟨e,_⟩:=toAV_rel hx hu
    obtain ⟨z,ys,k1,k2,k3⟩:=genS_ok (ι:=ι) (rows:=rows) h
    exact ⟨z,ys,by rw [e];exact k1,k2,k3⟩
   ·cases h
 ·split at h
  ·rename_i u hu
   obtain ⟨e,_⟩:=toAV_rel hx hu
   obtain ⟨z,ys,k1,k2,k3⟩:=genS_ok (ι:=ι) (rows:=rows) h
   exact ⟨z,ys,by rw [e];exact k1,k2,k3⟩
  ·cases h
theorem ptrB_rel {x:S1} {v:AV} {b:Bool} (hx:R1 ι rows x v) (h:ptrB rows x=some b):(b=true/\v=.nilptr)\/(b=false/\((∃ r o,v=.ptr r o)\/∃ cs o,v=.cptr cs o)):=by
 unfold ptrB at h
 split at h
 ·cases h;exact .inl ⟨rfl,hx⟩
 ·split at h
  ·rename_i hs
   cases h
   exact .inr ⟨rfl,.inl ⟨_,_,hx.2 (by simpa using hs)⟩⟩
  ·cases h
 ·cases h;exact .inr ⟨rfl,.inr ⟨_,_,hx.1⟩⟩
 ·cases h
theorem ptrEqS_ok {op:BinOp} {t:TypeId} {cx cy:Bool} {x y:S1} {v u:AV} {a b:Bool} {K:S1->Option R} (hx:R1 ι rows x v) (hy:R1 ι rows y u) (ha:ptrB rows x=some a) (hb:ptrB rows y=some b)
  (h:ptrEqS P op t a b K=some r):∃ z zs,abinOp P op t cx cy v u=some z/\R1 ι rows zs z/\K zs=some r:=by
 unfold ptrEqS at h
 split at h
 ·rename_i p hp
  split at h
  ·rename_i hab
   have e:aeq P 64 t v u=some (a&&b)/\plainEq v=true/\plainEq u=true/\bothNil v u=false/\bothAgg v u=false/\∀ op,abinOp P op t cx cy v u=if plainEq v&&plainEq u&&!(bothNil v u&&!(cx||cy))&&!(bothAgg v u&&P.eqGuardType P.depth t) then
     match op,aeq P 64 t v u with
     | .eql,some r=>some (.bool r)
     | .neq,some r=>some (.bool !r)
     | _,_=>none
    else none:=by
    rcases ptrB_rel hx ha with ⟨rfl,rfl⟩ | ⟨rfl,⟨r1,o1,rfl⟩ | ⟨c1,o1,rfl⟩⟩<;>rcases ptrB_rel hy hb with ⟨rfl,rfl⟩ | ⟨rfl,⟨r2,o2,rfl⟩ | ⟨c2,o2,rfl⟩⟩<;>first
     | (cases hab;done)
     | exact ⟨by simp only [aeq,hp];rfl,rfl,rfl,rfl,rfl,fun op=>by cases op<;>rfl⟩
   obtain ⟨e1,e2,e3,e4,e5,e6⟩:=e
   rw [e6,e1,e2,e3,e4,e5]
   split at h
   ·exact ⟨_,.bool (a&&b),rfl,rfl,h⟩
   ·exact ⟨_,.bool (!(a&&b)),rfl,rfl,h⟩
   ·cases h
  ·cases h
 ·cases h
theorem strAtS_ok {t:TypeId} {x ix:S1} {v u:AV} {K:S1->Option R} (hx:R1 ι rows x v) (hi:R1 ι rows ix u) (h:strAtS P t x ix K=some r):∃ y ys,aindex P t v u=some y/\R1 ι rows ys y/\K ys=some r:=by
 unfold strAtS at h
 split at h
 ·rename_i hu
  split at h
  ·rename_i s k n
   have hx:v=.string s:=hx
   have hi:u=.int k n:=hi
   subst hx hi
   obtain ⟨b,h1,h2⟩:=bindO_some h
   refine ⟨.int .u8 b,.int .u8 b,?_,rfl,h2⟩
   unfold strAt at h1
   unfold aindex
   simp only [hu]
   split at h1
   ·rename_i h0
    rw [if_pos h0]
    split at h1
    ·rename_i c hc
     simp only [Option.some.injEq] at h1;subst h1
     simp only [hc]
    ·cases h1
   ·cases h1
  ·cases h
 ·cases h
theorem nlEqS_ok {op:BinOp} {t:TypeId} {cx cy:Bool} {x y:S1} {v u:AV} {n:Nat} {K:S1->Option R} (hx:R1 ι rows x v) (hy:R1 ι rows y u) (hn:nlB x y=some n)
  (h:nlEqS P op t n K=some r):∃ z zs,abinOp P op t cx cy v u=some z/\R1 ι rows zs z/\K zs=some r:=by
 unfold nlEqS at h
 split at h
 ·rename_i p hp
  have e:aeq P 64 t v u=some (n==0)/\plainEq v=true/\plainEq u=true/\bothNil v u=false/\bothAgg v u=false/\∀ op,abinOp P op t cx cy v u=if plainEq v&&plainEq u&&!(bothNil v u&&!(cx||cy))&&!(bothAgg v u&&P.eqGuardType P.depth t) then
    match op,aeq P 64 t v u with
    | .eql,some r=>some (.bool r)
    | .neq,some r=>some (.bool !r)
    | _,_=>none
   else none:=by
   unfold nlB at hn
   split at hn
   ·simp only [Option.some.injEq] at hn;subst hn
    obtain ⟨rfl,_⟩:=(show _/\_ from hx)
    have hy:u=.nilslice:=hy
    subst hy
    exact ⟨by simp only [aeq,hp],rfl,rfl,rfl,rfl,fun op=>by cases op<;>rfl⟩
   ·simp only [Option.some.injEq] at hn;subst hn
    obtain ⟨rfl,_⟩:=(show _/\_ from hy)
    have hx:v=.nilslice:=hx
    subst hx
    exact ⟨by simp only [aeq,hp],rfl,rfl,rfl,rfl,fun op=>by cases op<;>rfl⟩
   ·cases hn
  obtain ⟨e1,e2,e3,e4,e5,e6⟩:=e
  rw [e6,e1,e2,e3,e4,e5]
  split at h
  ·rw [shut_eq] at h;exact ⟨_,.bool (n==0),rfl,rfl,h⟩
  ·rw [shut_eq] at h;exact ⟨_,.bool (!(n==0)),rfl,rfl,h⟩
  ·cases h
 ·cases h
theorem arrayAtS_ok {t:TypeId} {x:S1} {v:AV} {K:S1->Option R} (hx:R1 ι rows x v) (h:arrayAtS P rows t x K=some r):∃ y ys,aarrayAt P H t v=some y/\R1 ι rows ys y/\K ys=some r:=by
 unfold arrayAtS at h
 unfold aarrayAt
 split at h
 ·rename_i n e hu
  split at h
  ·rename_i hn0
   rw [Nat.blt_eq] at hn0
   split at h
   ·rename_i q ver es
    split at h
    ·rename_i nb v' es' m hs
     split at h
     ·rename_i hver
      have hver:=Nat.eq_of_beq_eq_true hver
      subst hver
      obtain ⟨hle,h⟩:=guardS_some h
      have hx:R1 ι rows (.own q ver es) v:=hx
      obtain ⟨e1,hv⟩:=(hx.2 _ _ _ _ hs).2 rfl
      have hv:v=.slice (ι q) 0 m es':=by
       rw [hv];unfold ownAV;rw [if_neg fun hc=>by omega];rw [←e1]
      subst hv
      refine ⟨.ptr (ι q) 0,.eptr q ver 0,by simp only [hu];rw [if_pos hle],⟨hx.1,fun nb' v2 e2 n2 hs2=>?_⟩,h⟩
      rw [hs] at hs2;cases hs2
      exact ⟨Nat.le_refl _,fun _=>rfl⟩
     ·cases h
    ·cases h
   ·rename_i q ver off m esz
    split at h
    ·rename_i hcur
     obtain ⟨hle,h⟩:=guardS_some h
     obtain ⟨nb,es',m0,hs⟩:=curV_spec hcur
     have hx:R1 ι rows (.sub q ver off m esz) v:=hx
     obtain ⟨e1,e2,hv⟩:=(hx.2 _ _ _ _ hs).2 rfl
     subst e1
     unfold SubV at hv
     rw [if_neg fun hc=>by omega] at hv
     rcases hv with hv | ⟨hv,_⟩
     ·subst hv
      refine ⟨.ptr (ι q) (off*esz),.eptr q ver (off*esz),by simp only [hu];rw [if_pos hle],⟨hx.1,fun nb' v2 e3 n2 hs2=>?_⟩,h⟩
      rw [hs] at hs2;cases hs2
      exact ⟨Nat.le_refl _,fun _=>rfl⟩
     ·omega
    ·cases h
   ·rename_i m cs
    obtain ⟨hle,h⟩:=guardS_some h
    obtain ⟨e1,hc⟩:=(show _/\_ from hx)
    subst e1
    exact ⟨.cptr cs 0,.lptr cs 0,by simp only [hu];rw [if_pos hle],⟨rfl,hc⟩,h⟩
   ·cases h
  ·cases h
 ·cases h
theorem opS_ok (hfz:fs.fz=fzT P) (hE:RowsE C ι rows H) {ρs:Operand->SV} {ρ:Operand->AV} (hρ:∀ x,RV ι rows (ρs x) (ρ x)) {o:Oper} {K:SV->Rows->Option R} (h:opS P ρs rows o K=some r):StepOk C ι rows (aoper P fs ρ H o) K r:=by
 unfold opS at h
 have parts:∀ ps:Array (Nat × Operand),All2 (fun (p:Nat × SV) (q:Nat × AV)=>p.1=q.1/\RV ι rows p.2 q.2) (ps.toList.map fun p=>(p.1,ρs p.2)) (ps.toList.map fun p=>(p.1,ρ p.2)):=
  fun ps=>map_all2 _ fun p=>⟨rfl,hρ p.2⟩
 split at h
 ·rename_i x ho
  exact StepOk.same hE (by simp only [aoper,ho,aop]) (hρ x) h
 ·rename_i x ho
  split at h
  ·rename_i hn
   split at h
   ·rename_i e _
    have hv:=isNilS_rel (hρ x) hn
    refine ⟨.nilslice,H,_,_,ι,by simp only [aoper,ho,aop,hv],hE.ghost e,?_,le_app' _ _ _,h⟩
    refine ⟨by simp,fun nb' v' e' n' hs=>?_⟩
    unfold sg at hs
    rw [List.getElem?_append_right (Nat.le_refl _)] at hs
    simp only [Nat.sub_self,List.getElem?_cons_zero,Option.some.injEq,Prod.mk.injEq] at hs
    obtain ⟨rfl,rfl,rfl,rfl⟩:=hs
    exact ⟨Nat.le_refl _,fun _=>⟨rfl,by simp [ownAV]⟩⟩
   ·exact StepOk.same hE (by simp only [aoper,ho,aop]) (hρ x) h
  ·exact StepOk.same hE (by simp only [aoper,ho,aop]) (hρ x) h
 ·rename_i t ho
  split at h
  ·rename_i z hz
   obtain ⟨k1,k2,k3⟩:=mkCells_ok (ι:=ι) (H:=H) z.cells (ghostsOf P t) rows hE
   generalize mkCells z.cells (ghostsOf P t) rows=p at h k1 k2 k3
   obtain ⟨cs,rows'⟩:=p
   simp only at h k1 k2 k3
   have le:=le_app ι rows' (some (.lit cs)) H.n
   have:=k1.push (.lit cs) (.cells z.cells) ⟨z.cells,by rw [put_self];exact Heap.get_push_self,k3.mono fun _ _=>le.r2⟩
   refine ⟨.ptr H.n 0,_,_,_,_,by simp only [aoper,ho,aop,hz],this,?_,k2.trans le,h⟩
   exact ⟨by simp,fun _=>by rw [put_self]⟩
  ·cases h
 ·rename_i t x ho
  split at h
  ·rename_i cs hcs
   obtain ⟨k1,k2,k3⟩:=cellsS_ok (hρ x) hcs
   have le:=le_app ι rows (some (.lit cs)) H.n
   have:=hE.push (.lit cs) (.cells (ρ x).cells) ⟨_,by rw [put_self];exact Heap.get_push_self,k2.mono fun _ _=>le.r2⟩
   refine ⟨.ptr H.n 0,_,_,_,_,by simp only [aoper,ho,aop];rw [if_pos k1],this,?_,le,h⟩
   exact ⟨by simp,fun _=>by rw [put_self]⟩
  ·cases h
 ·rename_i t ps ho
  split at h
  ·rename_i y hy
   obtain ⟨z,k1,k2⟩:=buildS_ok (parts ps) hy
   exact StepOk.same hE (by simp only [aoper,ho,aop,k1]) k2 h
  ·cases h
 ·rename_i t n ps ho
  split at h
  ·rename_i hb
   obtain ⟨qs,rows1,k1,k2,k3,k4⟩:=fzPsS_ok hE (parts ps) h
   obtain ⟨y,H',ys,rows',ι',k5,k6,k7,k8,k9⟩:=buildSliceS_ok k1 k2 k4
   exact ⟨y,H',.ofB ys,rows',ι',by simp only [aoper,ho,hfz,hb,if_true];exact k5,k6,k7,k3.trans k8,k9⟩
  ·rename_i hb
   split at h
   ·obtain ⟨y,H',ys,rows',ι',k1,k2,k3,k4,k5⟩:=buildFnsS_ok hE (parts ps) h
    exact ⟨y,H',.ofB ys,rows',ι',by simp only [aoper,ho,hfz,hb,Bool.false_eq_true,if_false,aop];exact k1,k2,k3,k4,k5⟩
   ·obtain ⟨y,H',ys,rows',ι',k1,k2,k3,k4,k5⟩:=buildSliceS_ok hE (parts ps) h
    exact ⟨y,H',.ofB ys,rows',ι',by simp only [aoper,ho,hfz,hb,Bool.false_eq_true,if_false,aop];exact k1,k2,k3,k4,k5⟩
 ·rename_i t a ho
  obtain ⟨y,ys,k1,k2,k3⟩:=loadS_ok hE (b1_rel (hρ a)) h
  exact StepOk.same hE (by simp only [aoper,ho,aop,k1]) k2 k3
 ·rename_i t a x ho
  obtain ⟨H',rows',k1,k2,k3,k4⟩:=storeS_ok hE (b1_rel (hρ a)) (hρ x) h
  exact ⟨.top,H',.ofB .top,rows',ι,by simp only [aoper,ho,aop,k1],k2,trivial,k3,k4⟩
 ·rename_i x ho
  split at h
  ·rename_i hp
   exact StepOk.same hE (by simp only [aoper,ho,aop,okPtr_ok (hρ x) hp]) (hρ x) h
  ·cases h
 ·rename_i op t x y yt ho
  split at h
  ·rename_i xs ys e1 e2
   obtain ⟨z,zs,k1,k2,k3⟩:=binAggS_ok (cx:=isConst x) (cy:=isConst y) h (e1 ▸ hρ x) (e2 ▸ hρ y)
   exact StepOk.same hE (by simp only [aoper,ho,aop,k1]) (ys:=.ofB zs) k2 k3
  ·split at h
   ·rename_i e1 e2
    obtain ⟨z,zs,k1,k2,k3⟩:=ptrEqS_ok (cx:=isConst x) (cy:=isConst y) (b1_rel (hρ x)) (b1_rel (hρ y)) e1 e2 h
    exact StepOk.same hE (by simp only [aoper,ho,aop,k1]) (ys:=.ofB zs) k2 k3
   ·split at h
    ·rename_i n e1
     obtain ⟨z,zs,k1,k2,k3⟩:=nlEqS_ok (cx:=isConst x) (cy:=isConst y) (b1_rel (hρ x)) (b1_rel (hρ y)) e1 h
     exact StepOk.same hE (by simp only [aoper,ho,aop,k1]) (ys:=.ofB zs) k2 k3
    ·obtain ⟨z,ys,k1,k2,k3⟩:=binS_ok h (b1_rel (hρ x)) (b1_rel (hρ y))
     exact StepOk.same hE (by simp only [aoper,ho,aop,k1]) (ys:=.ofB ys) k2 k3
 ·rename_i op t x ho
  obtain ⟨z,ys,k1,k2,k3⟩:=unaryS_ok (b1_rel (hρ x)) h
  exact StepOk.same hE (by simp only [aoper,ho,aop,k1]) (ys:=.ofB ys) k2 k3
 ·rename_i s d x ho
  split at h
  ·cases h
  ·rename_i hsd
   obtain ⟨y,ys,k1,k2,k3⟩:=convertS_ok (H:=H) (b1_rel (hρ x)) h
   refine StepOk.same hE ?_ (ys:=.ofB ys) k2 k3
   simp only [aoper,ho]
   split
   ·rename_i b hb
    rw [if_neg (by rw [hsd];simp)]
    simp only [aop,ho,k1]
   ·simp only [aop,ho,k1]
 ·rename_i fn first cap ho
  split at h
  ·rename_i f
   refine StepOk.same hE (y:=.func f (first.toList.map ρ) (cap.toList.map ρ)) (by simp only [aoper,ho,aop]) ?_ h
   exact ⟨_,_,rfl,map_all2 _ fun x=>b1_rel (hρ x),map_all2 _ fun x=>b1_rel (hρ x)⟩
  ·cases h
 ·rename_i t l c ho
  obtain ⟨y,H',ys,rows',ι',k1,k2,k3,k4,k5⟩:=makeSliceS_ok hE (b1_rel (hρ l)) (b1_rel (hρ c)) h
  exact ⟨y,H',.ofB ys,rows',ι',by simp only [aoper,ho,aop];exact k1,k2,k3,k4,k5⟩
 ·rename_i t x ho
  obtain ⟨y,ys,k1,k2,k3⟩:=arrayAtS_ok (H:=H) (b1_rel (hρ x)) h
  exact StepOk.same hE (by simp only [aoper,ho,aop,k1]) (ys:=.ofB ys) k2 k3
 ·rename_i t x lo hi ho
  have orel:∀ q:Option Operand,OR1 ι rows (q.map fun x=>(ρs x).b1) (oev ρ q):=by
   intro q;cases q with
   | none=>trivial
   | some x=>exact b1_rel (hρ x)
  obtain ⟨y,ys,k1,k2,k3⟩:=sliceS_ok hE (b1_rel (hρ x)) (orel lo) (orel hi) h
  exact StepOk.same hE (by simp only [aoper,ho,aop,k1]) (ys:=.ofB ys) k2 k3
 ·rename_i t x lo hi mx ho
  have orel:∀ q:Option Operand,OR1 ι rows (q.map fun x=>(ρs x).b1) (oev ρ q):=by
   intro q;cases q with
   | none=>trivial
   | some x=>exact b1_rel (hρ x)
  obtain ⟨y,ys,k1,k2,k3⟩:=slice3S_ok hE (b1_rel (hρ x)) (orel lo) (b1_rel (hρ hi)) (b1_rel (hρ mx)) h
  exact StepOk.same hE (by simp only [aoper,ho,aop,k1]) (ys:=.ofB ys) k2 k3
 ·rename_i s x f ho
  split at h
  ·rename_i hc
   obtain ⟨y,ys,k1,k2,k3⟩:=fieldAddrS_ok (b1_rel (hρ x)) h hc
   exact StepOk.same hE (by simp only [aoper,ho,aop,k1]) (ys:=.ofB ys) k2 k3
  ·cases h
 ·rename_i t x f ho
  obtain ⟨y,ys,k1,k2,k3⟩:=fieldS_ok (hρ x) h
  exact StepOk.same hE (by simp only [aoper,ho,aop,k1]) k2 k3
 ·rename_i t x ix ho
  split at h
  ·rename_i hc
   obtain ⟨y,ys,k1,k2,k3⟩:=indexAddrS_ok hE (b1_rel (hρ x)) (b1_rel (hρ ix)) h hc
   exact StepOk.same hE (by simp only [aoper,ho,aop,k1]) (ys:=.ofB ys) k2 k3
  ·cases h
 ·rename_i t x ix ho
  obtain ⟨y,ys,k1,k2,k3⟩:=strAtS_ok (b1_rel (hρ x)) (b1_rel (hρ ix)) h
  exact StepOk.same hE (by simp only [aoper,ho,aop,k1]) (ys:=.ofB ys) k2 k3
 ·rename_i t hint ho
  obtain ⟨y,H',ys,rows',ι',k1,k2,k3,k4,k5⟩:=makeMapS_ok hE (hint':=oev ρ hint) (fun x hx=>by
   cases hint with
   | none=>cases hx
   | some a=>
    simp only [Option.map_some,Option.some.injEq] at hx;subst hx
    exact ⟨_,rfl,hρ a⟩) (fun hx=>by
   cases hint with
   | none=>rfl
   | some a=>cases hx) h
  exact ⟨y,H',.ofB ys,rows',ι',by simp only [aoper,ho,aop];exact k1,k2,k3,k4,k5⟩
 ·rename_i t x k ok ho
  obtain ⟨y,ys,k1,k2,k3⟩:=mlookS_ok hE (b1_rel (hρ x)) (hρ k) h
  exact StepOk.same hE (by simp only [aoper,ho,aop,k1]) k2 k3
 ·rename_i t m k x ho
  obtain ⟨H',rows',k1,k2,k3,k4⟩:=mputS_ok hE (b1_rel (hρ m)) (hρ k) (hρ x) h
  exact ⟨.top,H',.ofB .top,rows',ι,by simp only [aoper,ho,aop,k1],k2,trivial,k3,k4⟩
 ·rename_i t m k x ho
  obtain ⟨H',rows',k1,k2,k3,k4⟩:=mputS_ok hE (b1_rel (hρ m)) (hρ k) (hρ x) h
  exact ⟨.top,H',.ofB .top,rows',ι,by simp only [aoper,ho,aop,k1],k2,trivial,k3,k4⟩
 ·rename_i t m k ho
  obtain ⟨y,H',ys,rows',k1,k2,k3,k4,k5⟩:=entryS_ok hE (b1_rel (hρ m)) (hρ k) h
  exact ⟨y,H',ys,rows',ι,by simp only [aoper,ho,aop];exact k1,k2,k3,k4,k5⟩
 ·rename_i t m s x ho
  obtain ⟨H',rows',k1,k2,k3,k4⟩:=entryPutS_ok hE (b1_rel (hρ m)) (b1_rel (hρ s)) (hρ x) h
  exact ⟨.top,H',.ofB .top,rows',ι,by simp only [aoper,ho,aop,k1],k2,trivial,k3,k4⟩
 ·rename_i x k ho
  have hx:=hρ x
  split at h
  ·rename_i xs hxs
   rw [hxs] at hx
   obtain ⟨xs',e,hall⟩:=hx
   split at h
   ·rename_i y hy
    obtain ⟨v,hv,hr⟩:=hall.get hy
    exact StepOk.same hE (y:=v) (by simp only [aoper,ho,aop,e,aextract,hv]) (ys:=.s y) hr h
   ·cases h
  ·cases h
 ·rename_i b args ats ho
  have:=builtinS_ok hE (map_all2 (Q:=RV ι rows) args.toList hρ) h
  simpa only [aoper,ho,aop] using this
 ·cases h
end
end Go.Abs
end
noncomputable section
namespace Go.Abs
inductive T1 where
  | dead
  | bool
  | int (k:IntKind)
  | flo (k:FloatKind)
  | string
  | list
  | nl
  | lptr
  | own (r esz:Nat)
  | ptr (r off:Nat)
  | yield (r:Nat)
  | mp (r:Nat)
  | sub (r esz:Nat)
  | lsub (r off n esz:Nat)
  | nilslice
  | nilptr
  | nilFunc
inductive T2 where
  | b (x:T1)
  | fn (f:FuncId) (first cap:List T1)
inductive T3 where
  | o (x:T2)
  | agg (cs:List T2)
inductive TR where
  | dead
  | lit (cs:List T2)
  | vec (nb:Bool) (esz ver:Nat) (bump:Bool)
  | ice (nb:Bool) (esz ver:Nat)
  | dict
  | loop (L:SLoop) (tmps:List T3)
  | deferred
structure Shape where
  tmps:List T3
  rows:List TR
  defers:List Nat
def sh1 (rows:Rows):S1->T1
  | .bool _=>.bool
  | .int k _=>.int k
  | .flo k _=>.flo k
  | .string _=>.string
  | .list _ _=>.list
  | .nl _ _=>.nl
  | .lptr _ _=>.lptr
  | .own r ver esz=>match curV rows r ver with
    | true=>.own r esz
    | false=>.dead
  | .ptr r off=>match (sg rows r).isNone with
    | true=>.ptr r off
    | false=>.dead
  | .yield r=>match (sg rows r).isNone with
    | true=>.yield r
    | false=>.dead
  | .mp r=>match (sg rows r).isNone with
    | true=>.mp r
    | false=>.dead
  | .sub r ver _ _ esz=>match curV rows r ver with
    | true=>.sub r esz
    | false=>.dead
  | .lsub r off n esz=>match (sg rows r).isNone with
    | true=>.lsub r off n esz
    | false=>.dead
  | .raw .nilslice=>.nilslice
  | .raw .nilptr=>.nilptr
  | .raw .nilFunc=>.nilFunc
  | _=>.dead
def sh2 (rows:Rows):S2->T2
  | .b x=>.b (sh1 rows x)
  | .fn f first cap=>.fn f (first.map (sh1 rows)) (cap.map (sh1 rows))
def sh3 (rows:Rows):S3->T3
  | .o x=>.o (sh2 rows x)
  | .agg cs=>.agg (cs.map (sh2 rows))
def shV (rows:Rows):SV->T3
  | .s x=>sh3 rows x
  | .tuple _=>.o (.b .dead)
def hasNat (r:Nat):List Nat->Bool
  | []=>false
  | x::xs=>Nat.beq x r||hasNat r xs
def shR (rows:Rows) (bumps:List Nat) (r:Nat):Option SRow->TR
  | some (.lit cs)=>.lit (cs.map (sh2 rows))
  | some (.vec nb ver esz _ _)=>match hasNat r bumps with
    | true=>.vec nb esz (ver+1) true
    | false=>.vec nb esz ver false
  | some (.ice nb ver esz _)=>.ice nb esz ver
  | some (.dict _ _)=>.dict
  | some (.loop L)=>.loop L (L.tmps.map (shV rows))
  | some .deferred=>.deferred
  | none=>.dead
def shRows (all:Rows) (bumps:List Nat):Rows->Nat->List TR
  | [],_=>[]
  | x::xs,r=>shR all bumps r x::shRows all bumps xs (r+1)
def shTmps (rows:Rows):List SV->Nat->Nat->List T3
  | [],_,_=>[]
  | x::xs,live,j=>(match live.testBit j with
    | true=>shV rows x
    | false=>.o (.b .dead))::shTmps rows xs live (j+1)
def ownsOf:List S2->List Nat
  | []=>[]
  | .b (.own r _ _)::xs=>r::ownsOf xs
  | _::xs=>ownsOf xs
def bumpsT:List SV->Nat->Nat->List Nat
  | [],_,_=>[]
  | x::xs,asg,j=>match asg.testBit j with
    | true=>(match x.b1 with | .own r _ _=>r::bumpsT xs asg (j+1) | .sub r _ _ _ _=>r::bumpsT xs asg (j+1) | _=>bumpsT xs asg (j+1))
    | false=>bumpsT xs asg (j+1)
def bumpsR:Rows->List Nat
  | []=>[]
  | some (.lit cs)::xs=>ownsOf cs++bumpsR xs
  | _::xs=>bumpsR xs
def shape (live asg:Nat) (s:SSt):Shape:=⟨shTmps s.rows s.tmps live 0,shRows s.rows (bumpsT s.tmps asg 0++bumpsR s.rows) s.rows 0,s.defers⟩
def verAt:List TR->Nat->Nat
  | [],_=>0
  | .vec _ _ v _::_,0=>v
  | .ice _ _ v::_,0=>v
  | _::_,0=>0
  | _::xs,r+1=>verAt xs r
def Cur1:T1->Type->Type
  | .bool,X=>Bool->X
  | .int _,X=>Int->X
  | .flo _,X=>Option Nat->X
  | .string,X=>ByteArray->X
  | .list,X=>Nat->List AV->X
  | .nl,X=>Nat->List AV->X
  | .lptr,X=>List AV->Nat->X
  | .sub _ _,X=>Nat->Nat->X
  | _,X=>X
def lam1 {X:Type} (vs:Nat->Nat):(t:T1)->(S1->X)->Cur1 t X
  | .bool,f=>fun b=>f (.bool b)
  | .int k,f=>fun n=>f (.int k n)
  | .flo k,f=>fun n=>f (.flo k n)
  | .string,f=>fun s=>f (.string s)
  | .list,f=>fun n cs=>f (.list n cs)
  | .nl,f=>fun n cs=>f (.nl n cs)
  | .lptr,f=>fun cs off=>f (.lptr cs off)
  | .own r esz,f=>f (.own r (vs r) esz)
  | .ptr r off,f=>f (.ptr r off)
  | .yield r,f=>f (.yield r)
  | .mp r,f=>f (.mp r)
  | .sub r esz,f=>fun off n=>f (.sub r (vs r) off n esz)
  | .lsub r off n esz,f=>f (.lsub r off n esz)
  | .nilslice,f=>f (.raw .nilslice)
  | .nilptr,f=>f (.raw .nilptr)
  | .nilFunc,f=>f (.raw .nilFunc)
  | .dead,f=>f .top
def app1 {X:Type} (rows:Rows) (n:Nat):(t:T1)->S1->Cur1 t X->Option X
  | .bool,.bool b,f=>some (f b)
  | .int k,.int k' n,f=>match decide (k'=k) with
    | true=>some (f n)
    | false=>none
  | .flo k,.flo k' n,f=>match decide (k'=k) with
    | true=>some (f n)
    | false=>none
  | .string,.string s,f=>some (f s)
  | .list,.list n cs,f=>some (f n cs)
  | .nl,.nl n cs,f=>some (f n cs)
  | .lptr,.lptr cs off,f=>some (f cs off)
  | .own r esz,.own r' ver esz',f=>match Nat.beq r' r&&Nat.beq esz' esz&&curV rows r ver&&Nat.blt r n with
    | true=>some f
    | false=>none
  | .ptr r off,.ptr r' off',f=>match Nat.beq r' r&&Nat.beq off' off&&(sg rows r).isNone&&Nat.blt r n with
    | true=>some f
    | false=>none
  | .yield r,.yield r',f=>match Nat.beq r' r&&(sg rows r).isNone&&Nat.blt r n with
    | true=>some f
    | false=>none
  | .mp r,.mp r',f=>match Nat.beq r' r&&(sg rows r).isNone&&Nat.blt r n with
    | true=>some f
    | false=>none
  | .sub r esz,.sub r' ver off k esz',f=>match Nat.beq r' r&&Nat.beq esz' esz&&curV rows r ver&&Nat.blt r n with
    | true=>some (f off k)
    | false=>none
  | .lsub r off k esz,.lsub r' off' k' esz',f=>match Nat.beq r' r&&Nat.beq off' off&&(Nat.beq k' k&&Nat.beq esz' esz)&&(sg rows r).isNone&&Nat.blt r n with
    | true=>some f
    | false=>none
  | .nilslice,.raw .nilslice,f=>some f
  | .nilptr,.raw .nilptr,f=>some f
  | .nilFunc,.raw .nilFunc,f=>some f
  | .dead,_,f=>some f
  | _,_,_=>none
def CurL:List T1->Type->Type
  | [],X=>X
  | t::ts,X=>Cur1 t (CurL ts X)
def lamL {X:Type} (vs:Nat->Nat):(ts:List T1)->(List S1->X)->CurL ts X
  | [],f=>f []
  | t::ts,f=>lam1 vs t fun x=>lamL vs ts fun xs=>f (x::xs)
def appL {X:Type} (rows:Rows) (n:Nat):(ts:List T1)->List S1->CurL ts X->Option X
  | [],[],f=>some f
  | t::ts,x::xs,f=>match app1 rows n t x f with
    | some g=>appL rows n ts xs g
    | none=>none
  | _,_,_=>none
def Cur2:T2->Type->Type
  | .b t,X=>Cur1 t X
  | .fn _ first cap,X=>CurL first (CurL cap X)
def lam2 {X:Type} (vs:Nat->Nat):(t:T2)->(S2->X)->Cur2 t X
  | .b t,f=>lam1 vs t fun x=>f (.b x)
  | .fn g first cap,f=>lamL vs first fun xs=>lamL vs cap fun ys=>f (.fn g xs ys)
def app2 {X:Type} (rows:Rows) (n:Nat):(t:T2)->S2->Cur2 t X->Option X
  | .b t,.b x,f=>app1 rows n t x f
  | .fn g first cap,.fn g' xs ys,f=>match Nat.beq g' g with
    | true=>match appL rows n first xs f with
      | some h=>appL rows n cap ys h
      | none=>none
    | false=>none
  | .b .dead,_,f=>some f
  | _,_,_=>none
def CurL2:List T2->Type->Type
  | [],X=>X
  | t::ts,X=>Cur2 t (CurL2 ts X)
def lamL2 {X:Type} (vs:Nat->Nat):(ts:List T2)->(List S2->X)->CurL2 ts X
  | [],f=>f []
  | t::ts,f=>lam2 vs t fun x=>lamL2 vs ts fun xs=>f (x::xs)
def appL2 {X:Type} (rows:Rows) (n:Nat):(ts:List T2)->List S2->CurL2 ts X->Option X
  | [],[],f=>some f
  | t::ts,x::xs,f=>match app2 rows n t x f with
    | some g=>appL2 rows n ts xs g
    | none=>none
  | _,_,_=>none
def Cur3:T3->Type->Type
  | .o t,X=>Cur2 t X
  | .agg ts,X=>CurL2 ts X
def lam3 {X:Type} (vs:Nat->Nat):(t:T3)->(SV->X)->Cur3 t X
  | .o t,f=>lam2 vs t fun x=>f (.s (.o x))
  | .agg ts,f=>lamL2 vs ts fun xs=>f (.s (.agg xs))
def app3 {X:Type} (rows:Rows) (n:Nat):(t:T3)->SV->Cur3 t X->Option X
  | .o t,.s (.o x),f=>app2 rows n t x f
  | .agg ts,.s (.agg xs),f=>appL2 rows n ts xs f
  | .o (.b .dead),_,f=>some f
  | _,_,_=>none
def CurT:List T3->Type->Type
  | [],X=>X
  | t::ts,X=>Cur3 t (CurT ts X)
def lamT {X:Type} (vs:Nat->Nat):(ts:List T3)->(List SV->X)->CurT ts X
  | [],f=>f []
  | t::ts,f=>lam3 vs t fun x=>lamT vs ts fun xs=>f (x::xs)
def appT {X:Type} (rows:Rows) (n:Nat):(ts:List T3)->List SV->CurT ts X->Option X
  | [],[],f=>some f
  | t::ts,x::xs,f=>match app3 rows n t x f with
    | some g=>appT rows n ts xs g
    | none=>none
  | _,_,_=>none
def CurRow:TR->Type->Type
  | .lit cs,X=>CurL2 cs X
  | .vec _ _ _ _,X=>Nat->List AV->X
  | .ice _ _ _,X=>Nat->X
  | .dict,X=>List (AV × AV × Nat)->Nat->X
  | .loop _ ts,X=>CurT ts X
  | _,X=>X
def lamRow {X:Type} (vs:Nat->Nat):(t:TR)->(Option SRow->X)->CurRow t X
  | .lit cs,f=>lamL2 vs cs fun xs=>f (some (.lit xs))
  | .vec nb esz ver _,f=>fun n cs=>f (some (.vec nb ver esz n cs))
  | .ice nb esz ver,f=>fun n=>f (some (.ice nb ver esz n))
  | .dict,f=>fun es clock=>f (some (.dict es clock))
  | .loop L ts,f=>lamT vs ts fun xs=>f (some (.loop { state:=L.state,pending:=none,tmps:=xs,fn:=L.fn,path:=L.path,defers:=L.defers }))
  | .deferred,f=>f (some .deferred)
  | .dead,f=>f none
def sameNats:List Nat->List Nat->Bool
  | [],[]=>true
  | x::xs,y::ys=>Nat.beq x y&&sameNats xs ys
  | _,_=>false
def sameLoop (rows:Rows) (n:Nat) (L L':SLoop):Bool:=
  (match L'.state,L.state with | .ready,.ready=>true | .busy,.busy=>true | _,_=>false)&&(match L'.pending with | none=>true | _=>false)&&Nat.beq L'.fn L.fn&&sameNats L'.path L.path&&Nat.beq L'.defers L.defers&&(sg rows L'.defers).isNone&&Nat.blt L'.defers n
def appRow {X:Type} (rows:Rows) (n:Nat):(t:TR)->Option SRow->CurRow t X->Option X
  | .lit cs,some (.lit xs),f=>appL2 rows n cs xs f
  | .vec nb esz ver bump,some (.vec nb' ver' esz' m cs),f=>match (nb'==nb)&&Nat.beq esz' esz&&(bump||Nat.beq ver' ver) with
    | true=>some (f m cs)
    | false=>none
  | .ice nb esz ver,some (.ice nb' ver' esz' m),f=>match (nb'==nb)&&Nat.beq esz' esz&&Nat.beq ver' ver with
    | true=>some (f m)
    | false=>none
  | .dict,some (.dict es clock),f=>some (f es clock)
  | .loop L ts,some (.loop L'),f=>match sameLoop rows n L L' with
    | true=>appT rows n ts L'.tmps f
    | false=>none
  | .deferred,some .deferred,f=>some f
  | .dead,_,f=>some f
  | _,_,_=>none
def CurRows:List TR->Type->Type
  | [],X=>X
  | t::ts,X=>CurRow t (CurRows ts X)
def lamRows {X:Type} (vs:Nat->Nat):(ts:List TR)->(Rows->X)->CurRows ts X
  | [],f=>f []
  | t::ts,f=>lamRow vs t fun x=>lamRows vs ts fun xs=>f (x::xs)
def appRows {X:Type} (rows:Rows) (n:Nat):(ts:List TR)->Rows->CurRows ts X->Option X
  | [],_,f=>some f
  | t::ts,x::xs,f=>match appRow rows n t x f with
    | some g=>appRows rows n ts xs g
    | none=>none
  | _,_,_=>none
def Shape.Cur (h:Shape) (X:Type):Type:=CurT h.tmps (CurRows h.rows X)
def Shape.lam {X:Type} (h:Shape) (f:SSt->X):h.Cur X:=lamT (verAt h.rows) h.tmps fun ts=>lamRows (verAt h.rows) h.rows fun rs=>f ⟨ts,rs,h.defers⟩
def Shape.app {X:Type} (h:Shape) (s:SSt) (f:h.Cur X):Option X:=
  match sameNats s.defers h.defers&&s.defers.all (fun r=>Nat.blt r h.rows.length) with
  | true=>match appT s.rows h.rows.length h.tmps s.tmps f with
    | some g=>appRows s.rows h.rows.length h.rows s.rows g
    | none=>none
  | false=>none
section
variable {ι : Nat → Nat} {rows rows' : Rows} {n : Nat} {X : Type} {vs : Nat → Nat}
structure Back (vs:Nat->Nat) (rows:Rows) (n:Nat) (rows':Rows):Prop where
  len:rows'.length=n
  le:n<=rows.length
  sg:∀ r,r<n->(∀ nb ver esz m,sg rows' r=some (nb,ver,esz,m)->ver=vs r/\∃ v,sg rows r=some (nb,v,esz,m))/\(sg rows r=none->sg rows' r=none)
theorem curV_back (hb:Back vs rows n rows') {r ver:Nat} (h:curV rows r ver=true) (hr:r<n) {esz:Nat} {v:AV} (hx:R1 ι rows (.own r ver esz) v):R1 ι rows' (.own r (vs r) esz) v:=by
  refine ⟨by rw [hb.len];exact hr,fun nb ver' esz' m hs=>?_⟩
  obtain ⟨h0,w,hw⟩:=(hb.sg r hr).1 _ _ _ _ hs
  subst h0
  obtain ⟨nb1,e1,n1,h1⟩:=curV_spec h
  rw [h1] at hw;cases hw
  obtain ⟨e,hv⟩:=(hx.2 _ _ _ _ h1).2 rfl
  exact ⟨Nat.le_refl _,fun _=>⟨e,hv⟩⟩
theorem curV_backS (hb:Back vs rows n rows') {r ver:Nat} (h:curV rows r ver=true) (hr:r<n) {esz off k:Nat} {v:AV} (hx:R1 ι rows (.sub r ver off k esz) v):R1 ι rows' (.sub r (vs r) off k esz) v:=by
  refine ⟨by rw [hb.len];exact hr,fun nb ver' esz' m hs=>?_⟩
  obtain ⟨h0,w,hw⟩:=(hb.sg r hr).1 _ _ _ _ hs
  subst h0
  obtain ⟨nb1,e1,n1,h1⟩:=curV_spec h
  rw [h1] at hw;cases hw
  exact ⟨Nat.le_refl _,fun _=>(hx.2 _ _ _ _ h1).2 rfl⟩
theorem app1_ok {t:T1} {x:S1} {f:S1->X} {g:X} (h:app1 rows n t x (lam1 vs t f)=some g):∃ x',g=f x'/\∀ (ι:Nat->Nat) (rows':Rows),Back vs rows n rows'->∀ v,R1 ι rows x v->R1 ι rows' x' v:=by
  unfold app1 at h
  split at h
  all_goals first
    | (exact ⟨_,(Option.some.inj h).symm,fun ι rows' hb v hx=>hx⟩)
    | (cases h;done)
    | (split at h
       · rename_i e
         have e:=of_decide_eq_true e
         subst e
         exact ⟨_,(Option.some.inj h).symm,fun ι rows' hb v hx=>hx⟩
       · cases h)
    | (split at h
       · rename_i e
         simp only [Bool.and_eq_true] at e
         obtain ⟨⟨⟨e1,e2⟩,e3⟩,e4⟩:=e
         have e1:=Nat.eq_of_beq_eq_true e1
         have e2:=Nat.eq_of_beq_eq_true e2
         subst e1;subst e2
         exact ⟨_,(Option.some.inj h).symm,fun ι rows' hb v hx=>curV_back hb e3 (by simpa [Nat.blt_eq] using e4) hx⟩
       · cases h)
    | (split at h
       · rename_i e
         simp only [Bool.and_eq_true] at e
         obtain ⟨⟨⟨e1,e2⟩,e3⟩,e4⟩:=e
         have e1:=Nat.eq_of_beq_eq_true e1
         have e2:=Nat.eq_of_beq_eq_true e2
         subst e1;subst e2
         rw [Nat.blt_eq] at e4
         exact ⟨.ptr _ _,(Option.some.inj h).symm,fun ι rows' hb v hx=>⟨by rw [hb.len];exact e4,fun _=>hx.2 (by simpa using e3)⟩⟩
       · cases h)
    | (split at h
       · rename_i e
         simp only [Bool.and_eq_true] at e
         obtain ⟨⟨e1,e3⟩,e4⟩:=e
         have e1:=Nat.eq_of_beq_eq_true e1
         subst e1
         rw [Nat.blt_eq] at e4
         first
           | exact ⟨.yield _,(Option.some.inj h).symm,fun ι rows' hb v hx=>⟨by rw [hb.len];exact e4,fun _=>hx.2 (by simpa using e3)⟩⟩
           | exact ⟨.mp _,(Option.some.inj h).symm,fun ι rows' hb v hx=>⟨by rw [hb.len];exact e4,fun _=>hx.2 (by simpa using e3)⟩⟩
       · cases h)
    | (split at h
       · rename_i e
         simp only [Bool.and_eq_true] at e
         obtain ⟨⟨⟨e1,e2⟩,e3⟩,e4⟩:=e
         have e1:=Nat.eq_of_beq_eq_true e1
         have e2:=Nat.eq_of_beq_eq_true e2
         subst e1;subst e2
         exact ⟨.sub _ _ _ _ _,(Option.some.inj h).symm,fun ι rows' hb v hx=>curV_backS hb e3 (by simpa [Nat.blt_eq] using e4) hx⟩
       · cases h)
    | (split at h
       · rename_i e
         simp only [Bool.and_eq_true] at e
         obtain ⟨⟨⟨⟨e1,e2⟩,⟨e5,e6⟩⟩,e3⟩,e4⟩:=e
         have e1:=Nat.eq_of_beq_eq_true e1
         have e2:=Nat.eq_of_beq_eq_true e2
         have e5:=Nat.eq_of_beq_eq_true e5
         have e6:=Nat.eq_of_beq_eq_true e6
         subst e1;subst e2;subst e5;subst e6
         rw [Nat.blt_eq] at e4
         exact ⟨.lsub _ _ _ _,(Option.some.inj h).symm,fun ι rows' hb v hx=>⟨by rw [hb.len];exact e4,fun _=>hx.2 (by simpa using e3)⟩⟩
       · cases h)
    | (exact ⟨_,(Option.some.inj h).symm,fun ι rows' hb v hx=>trivial⟩)
theorem appL_ok:∀ {ts:List T1} {X:Type} {xs:List S1} {f:List S1->X} {g:X},appL rows n ts xs (lamL vs ts f)=some g->
    ∃ xs',g=f xs'/\∀ (ι:Nat->Nat) (rows':Rows),Back vs rows n rows'->∀ vs,All2 (R1 ι rows) xs vs->All2 (R1 ι rows') xs' vs
  | [],_,[],f,g,h=>⟨[],(Option.some.inj h).symm,fun ι rows' hb vs hv=>by cases hv;exact .nil⟩
  | [],_,_::_,f,g,h=>by cases h
  | t::ts,_,[],f,g,h=>by cases h
  | t::ts,_,x::xs,f,g,h=>by
    simp only [appL,lamL] at h
    split at h
    · rename_i k hk
      obtain ⟨x',e,h1⟩:=app1_ok hk
      subst e
      obtain ⟨xs',e,h2⟩:=appL_ok h
      exact ⟨x'::xs',e,fun ι rows' hb vs hv=>by cases hv with | cons a b=>exact .cons (h1 ι rows' hb _ a) (h2 ι rows' hb _ b)⟩
    · cases h
theorem app2_ok {t:T2} {x:S2} {f:S2->X} {g:X} (h:app2 rows n t x (lam2 vs t f)=some g):∃ x',g=f x'/\∀ (ι:Nat->Nat) (rows':Rows),Back vs rows n rows'->∀ v,R2 ι rows x v->R2 ι rows' x' v:=by
  unfold app2 at h
  split at h
  · obtain ⟨x',e,h1⟩:=app1_ok h
    exact ⟨.b x',e,h1⟩
  · split at h
    · rename_i e0
      have e0:=Nat.eq_of_beq_eq_true e0
      subst e0
      split at h
      · rename_i k hk
        obtain ⟨xs',e,h1⟩:=appL_ok hk
        subst e
        obtain ⟨ys',e,h2⟩:=appL_ok h
        exact ⟨.fn _ xs' ys',e,fun ι rows' hb v ⟨a,b,e1,e2,e3⟩=>⟨a,b,e1,h1 ι rows' hb _ e2,h2 ι rows' hb _ e3⟩⟩
      · cases h
    · cases h
  · exact ⟨.b .top,(Option.some.inj h).symm,fun ι rows' hb v hx=>trivial⟩
  · cases h
theorem appL2_ok:∀ {ts:List T2} {X:Type} {xs:List S2} {f:List S2->X} {g:X},appL2 rows n ts xs (lamL2 vs ts f)=some g->
    ∃ xs',g=f xs'/\∀ (ι:Nat->Nat) (rows':Rows),Back vs rows n rows'->∀ vs,All2 (R2 ι rows) xs vs->All2 (R2 ι rows') xs' vs
  | [],_,[],f,g,h=>⟨[],(Option.some.inj h).symm,fun ι rows' hb vs hv=>by cases hv;exact .nil⟩
  | [],_,_::_,f,g,h=>by cases h
  | t::ts,_,[],f,g,h=>by cases h
  | t::ts,_,x::xs,f,g,h=>by
    simp only [appL2,lamL2] at h
    split at h
    · rename_i k hk
      obtain ⟨x',e,h1⟩:=app2_ok hk
      subst e
      obtain ⟨xs',e,h2⟩:=appL2_ok h
      exact ⟨x'::xs',e,fun ι rows' hb vs hv=>by cases hv with | cons a b=>exact .cons (h1 ι rows' hb _ a) (h2 ι rows' hb _ b)⟩
    · cases h
theorem app3_ok {t:T3} {x:SV} {f:SV->X} {g:X} (h:app3 rows n t x (lam3 vs t f)=some g):∃ x',g=f x'/\∀ (ι:Nat->Nat) (rows':Rows),Back vs rows n rows'->∀ v,RV ι rows x v->RV ι rows' x' v:=by
  unfold app3 at h
  split at h
  · obtain ⟨x',e,h1⟩:=app2_ok h
    exact ⟨.s (.o x'),e,h1⟩
  · obtain ⟨x',e,h1⟩:=appL2_ok h
    exact ⟨.s (.agg x'),e,fun ι rows' hb v ⟨a,e1,e2⟩=>⟨a,e1,h1 ι rows' hb _ e2⟩⟩
  · exact ⟨.ofB .top,(Option.some.inj h).symm,fun ι rows' hb v hx=>trivial⟩
  · cases h
theorem appT_ok:∀ {ts:List T3} {X:Type} {xs:List SV} {f:List SV->X} {g:X},appT rows n ts xs (lamT vs ts f)=some g->
    ∃ xs',g=f xs'/\∀ (ι:Nat->Nat) (rows':Rows),Back vs rows n rows'->∀ vs,All2 (RV ι rows) xs vs->All2 (RV ι rows') xs' vs
  | [],_,[],f,g,h=>⟨[],(Option.some.inj h).symm,fun ι rows' hb vs hv=>by cases hv;exact .nil⟩
  | [],_,_::_,f,g,h=>by cases h
  | t::ts,_,[],f,g,h=>by cases h
  | t::ts,_,x::xs,f,g,h=>by
    simp only [appT,lamT] at h
    split at h
    · rename_i k hk
      obtain ⟨x',e,h1⟩:=app3_ok hk
      subst e
      obtain ⟨xs',e,h2⟩:=appT_ok h
      exact ⟨x'::xs',e,fun ι rows' hb vs hv=>by cases hv with | cons a b=>exact .cons (h1 ι rows' hb _ a) (h2 ι rows' hb _ b)⟩
    · cases h
theorem sameNats_eq:∀ {xs ys:List Nat},sameNats xs ys=true->xs=ys
  | [],[],_=>rfl
  | x::xs,y::ys,h=>by
    simp only [sameNats,Bool.and_eq_true] at h
    rw [Nat.eq_of_beq_eq_true h.1,sameNats_eq h.2]
  | [],_::_,h=>by cases h
  | _::_,[],h=>by cases h
def RowC (vs:Nat->Nat) (rows:Rows) (n:Nat):TR->Option SRow->Option SRow->Prop
  | .dead,_,none=>True
  | .lit _,some (.lit cs),some (.lit cs')=>∀ (ι:Nat->Nat) (rows':Rows),Back vs rows n rows'->∀ us,All2 (R2 ι rows) cs us->All2 (R2 ι rows') cs' us
  | .vec nb esz ver bump,some (.vec nb0 v esz0 m cs),some (.vec nb' ver' esz' m' cs')=>nb0=nb/\nb'=nb/\esz0=esz/\esz'=esz/\ver'=ver/\m'=m/\cs'=cs/\(bump=false->v=ver)
  | .ice nb esz ver,some (.ice nb0 v esz0 m),some (.ice nb' ver' esz' m')=>nb0=nb/\nb'=nb/\esz0=esz/\esz'=esz/\ver'=ver/\m'=m/\v=ver
  | .dict,some (.dict es clock),some (.dict es' clock')=>es'=es/\clock'=clock
  | .loop _ _,some (.loop L),some (.loop L')=>L'.state=L.state/\L'.pending=L.pending/\L'.fn=L.fn/\L'.path=L.path/\L'.defers=L.defers/\L.defers<n/\sg rows L.defers=none/\
      ∀ (ι:Nat->Nat) (rows':Rows),Back vs rows n rows'->∀ us,All2 (RV ι rows) L.tmps us->All2 (RV ι rows') L'.tmps us
  | .deferred,some .deferred,some .deferred=>True
  | _,_,_=>False
theorem appRow_ok {t:TR} {x:Option SRow} {f:Option SRow->X} {g:X} (h:appRow rows n t x (lamRow vs t f)=some g):∃ x',g=f x'/\RowC vs rows n t x x':=by
  unfold appRow at h
  split at h
  · obtain ⟨xs',e,h1⟩:=appL2_ok h
    exact ⟨some (.lit xs'),e,h1⟩
  · split at h
    · rename_i e
      simp only [Bool.and_eq_true,beq_iff_eq,Bool.or_eq_true] at e
      obtain ⟨⟨e1,e2⟩,e3⟩:=e
      have e2:=Nat.eq_of_beq_eq_true e2
      refine ⟨some (.vec _ _ _ _ _),(Option.some.inj h).symm,e1,rfl,e2,rfl,rfl,rfl,rfl,fun hb=>?_⟩
      rcases e3 with e3 | e3
      · rw [hb] at e3;cases e3
      · exact Nat.eq_of_beq_eq_true e3
    · cases h
  · split at h
    · rename_i e
      simp only [Bool.and_eq_true,beq_iff_eq] at e
      obtain ⟨⟨e1,e2⟩,e3⟩:=e
      have e2:=Nat.eq_of_beq_eq_true e2
      have e3:=Nat.eq_of_beq_eq_true e3
      exact ⟨some (.ice _ _ _ _),(Option.some.inj h).symm,e1,rfl,e2,rfl,rfl,rfl,e3⟩
    · cases h
  · exact ⟨some (.dict _ _),(Option.some.inj h).symm,rfl,rfl⟩
  · split at h
    · rename_i L ts L' _ _ e
      obtain ⟨xs',e',h1⟩:=appT_ok h
      simp only [sameLoop,Bool.and_eq_true] at e
      obtain ⟨⟨⟨⟨⟨⟨e1,e2⟩,e3⟩,e4⟩,e5⟩,e6⟩,e7⟩:=e
      have e3:=Nat.eq_of_beq_eq_true e3
      have e4:=sameNats_eq e4
      have e5:=Nat.eq_of_beq_eq_true e5
      rw [Nat.blt_eq] at e7
      refine ⟨_,e',?_,?_,e3.symm,e4.symm,e5.symm,e7,by simpa using e6,h1⟩
      · revert e1;split
        · rename_i h1 h2;intro _;exact h2.trans h1.symm
        · rename_i h1 h2;intro _;exact h2.trans h1.symm
        · intro h;cases h
      · revert e2;split
        · rename_i hs;intro _;exact hs.symm
        · intro h;cases h
    · cases h
  · exact ⟨some .deferred,(Option.some.inj h).symm,trivial⟩
  · exact ⟨none,(Option.some.inj h).symm,trivial⟩
  · cases h
theorem appRows_ok:∀ {ts:List TR} {X:Type} {xs:Rows} {f:Rows->X} {g:X},appRows rows n ts xs (lamRows vs ts f)=some g->
    ∃ xs',g=f xs'/\xs'.length=ts.length/\ts.length<=xs.length/\∀ (j:Nat) (x':Option SRow),xs'[j]?=some x'->∃ t x,ts[j]?=some t/\xs[j]?=some x/\RowC vs rows n t x x'
  | [],_,xs,f,g,h=>⟨[],(Option.some.inj h).symm,rfl,Nat.zero_le _,fun j x' h=>by simp at h⟩
  | t::ts,_,[],f,g,h=>by cases h
  | t::ts,_,x::xs,f,g,h=>by
    simp only [appRows,lamRows] at h
    split at h
    · rename_i k hk
      obtain ⟨x',e,h1⟩:=appRow_ok hk
      subst e
      obtain ⟨xs',e,h2,h3,h4⟩:=appRows_ok h
      refine ⟨x'::xs',e,by simp [h2],by simpa using h3,fun j y hy=>?_⟩
      cases j with
      | zero=>simp only [List.getElem?_cons_zero,Option.some.injEq] at hy;subst hy;exact ⟨t,x,rfl,rfl,h1⟩
      | succ j=>exact h4 j y (by simpa using hy)
    · cases h
structure HOk (h:Shape) (rows0:Rows):Prop where
  len:rows0.length<=h.rows.length
  at_:∀ r nb v esz m,sg rows0 r=some (nb,v,esz,m)->(∃ b,h.rows[r]?=some (.vec nb esz (if b=true then v+1 else v) b))\/h.rows[r]?=some (.ice nb esz v)
theorem verAt_vec:∀ {ts:List TR} {r:Nat} {nb:Bool} {esz v:Nat} {b:Bool},ts[r]?=some (.vec nb esz v b)->verAt ts r=v
  | [],r,nb,esz,v,b,h=>by simp at h
  | t::ts,0,nb,esz,v,b,h=>by simp at h;subst h;rfl
  | t::ts,r+1,nb,esz,v,b,h=>by
    have:verAt (t::ts) (r+1)=verAt ts r:=by cases t<;>rfl
    rw [this];exact verAt_vec (by simpa using h)
theorem verAt_ice:∀ {ts:List TR} {r:Nat} {nb:Bool} {esz v:Nat},ts[r]?=some (.ice nb esz v)->verAt ts r=v
  | [],r,nb,esz,v,h=>by simp at h
  | t::ts,0,nb,esz,v,h=>by simp at h;subst h;rfl
  | t::ts,r+1,nb,esz,v,h=>by
    have:verAt (t::ts) (r+1)=verAt ts r:=by cases t<;>rfl
    rw [this];exact verAt_ice (by simpa using h)
theorem shRows_get (all:Rows) (bumps:List Nat):∀ (xs:Rows) (k r:Nat),(shRows all bumps xs k)[r]?=(xs[r]?).map (shR all bumps (k+r))
  | [],k,r=>by simp [shRows]
  | x::xs,k,0=>by simp [shRows]
  | x::xs,k,r+1=>by
    simp only [shRows,List.getElem?_cons_succ]
    rw [shRows_get all bumps xs (k+1) r]
    congr 2;omega
theorem shRows_length (all:Rows) (bumps:List Nat):∀ (xs:Rows) (k:Nat),(shRows all bumps xs k).length=xs.length
  | [],k=>rfl
  | x::xs,k=>by simp [shRows,shRows_length all bumps xs]
theorem shape_hok (live asg:Nat) (s:SSt):HOk (shape live asg s) s.rows:=by
  refine ⟨Nat.le_of_eq (shRows_length _ _ _ _).symm,fun r nb v esz m hs=>?_⟩
  show (∃ b,(shRows s.rows _ s.rows 0)[r]?=_)\/(shRows s.rows _ s.rows 0)[r]?=_
  simp only [shRows_get,Nat.zero_add]
  unfold sg at hs
  split at hs
  · rename_i hrow
    simp only [Option.some.injEq,Prod.mk.injEq] at hs
    obtain ⟨rfl,rfl,rfl,rfl⟩:=hs
    left
    rw [hrow]
    simp only [Option.map_some,shR]
    split
    · exact ⟨true,rfl⟩
    · exact ⟨false,rfl⟩
  · rename_i hrow
    simp only [Option.some.injEq,Prod.mk.injEq] at hs
    obtain ⟨rfl,rfl,rfl,rfl⟩:=hs
    right
    rw [hrow];rfl
  · cases hs
theorem Shape.app_ok {C:Codes} {h:Shape} {s:SSt} {f:SSt->X} {g:X} {rows0:Rows} (hok:HOk h rows0) (ha:h.app s (h.lam f)=some g):
    ∃ s',g=f s'/\∀ ι0 ι σ,Emb C ι s σ->Le ι0 rows0 ι s.rows->Emb C ι s' σ/\Le ι0 rows0 ι s'.rows:=by
  unfold Shape.app at ha
  split at ha
  · rename_i hd0
    simp only [Bool.and_eq_true,List.all_eq_true] at hd0
    have hd:=sameNats_eq hd0.1
    split at ha
    · rename_i k hk
      obtain ⟨ts,e,h1⟩:=appT_ok (f:=fun ts=>lamRows (verAt h.rows) h.rows fun rs=>f ⟨ts,rs,h.defers⟩) hk
      subst e
      obtain ⟨rs,e,h2,h3,h4⟩:=appRows_ok ha
      have words:∀ r nb w esz m,sg rs r=some (nb,w,esz,m)->∃ v,sg s.rows r=some (nb,v,esz,m)/\
          ((∃ b,h.rows[r]?=some (.vec nb esz w b)/\(b=false->v=w))\/(h.rows[r]?=some (.ice nb esz w)/\v=w)):=by
        intro r nb w esz m hs
        unfold sg at hs
        split at hs
        · rename_i hrow
          obtain ⟨t,x,ht,hx,hc⟩:=h4 _ _ hrow
          simp only [Option.some.injEq,Prod.mk.injEq] at hs
          obtain ⟨rfl,rfl,rfl,rfl⟩:=hs
          match t,x,hc,hx,ht with
          | .vec nb1 e1 w1 b1,some (.vec nb0 v0 e0 m0 c0),hc,hx,ht=>
            obtain ⟨rfl,rfl,rfl,rfl,rfl,rfl,rfl,q⟩:=hc
            exact ⟨v0,sg_vec hx,.inl ⟨b1,ht,q⟩⟩
        · rename_i hrow
          obtain ⟨t,x,ht,hx,hc⟩:=h4 _ _ hrow
          simp only [Option.some.injEq,Prod.mk.injEq] at hs
          obtain ⟨rfl,rfl,rfl,rfl⟩:=hs
          match t,x,hc,hx,ht with
          | .ice nb1 e1 w1,some (.ice nb0 v0 e0 m0),hc,hx,ht=>
            obtain ⟨rfl,rfl,rfl,rfl,rfl,rfl,rfl⟩:=hc
            exact ⟨_,by unfold sg;rw [hx],.inr ⟨ht,rfl⟩⟩
        · cases hs
      have nosg:∀ r,r<h.rows.length->sg s.rows r=none->sg rs r=none:=by
        intro r hr hs
        cases hw:sg rs r with
        | none=>rfl
        | some p=>
          obtain ⟨nb,w,esz,m⟩:=p
          obtain ⟨v,hv,_⟩:=words r nb w esz m hw
          rw [hv] at hs;cases hs
      have hb:Back (verAt h.rows) s.rows h.rows.length rs:=by
        refine ⟨h2,h3,fun r hr=>⟨fun nb ver esz m hs=>?_,nosg r hr⟩⟩
        obtain ⟨v,hv,ht⟩:=words r nb ver esz m hs
        rcases ht with ⟨b,ht,_⟩ | ⟨ht,_⟩
        · exact ⟨(verAt_vec ht).symm,v,hv⟩
        · exact ⟨(verAt_ice ht).symm,v,hv⟩
      refine ⟨_,e,fun ι0 ι σ hE hle=>⟨⟨h1 ι rs hb _ hE.tmps,⟨fun r row hr=>?_,fun r r' row row' hr hr' k1 k2 e=>?_,hE.rows.ok,hE.rows.lim⟩,?_,?_⟩,?_⟩⟩
      · obtain ⟨t,x,ht,hx,hc⟩:=h4 _ _ hr
        match t,row,x,hc,hx,hr with
        | .lit _,.lit cs',some (.lit cs),hc,hx,hr=>
          obtain ⟨us,q1,q2⟩:=hE.rows.row _ _ hx
          exact ⟨us,q1,hc ι rs hb _ q2⟩
        | .vec nb1 e1 w1 b1,.vec nb' ver esz' m' cs',some (.vec nb v esz m cs),hc,hx,hr=>
          obtain ⟨rfl,rfl,rfl,rfl,rfl,rfl,rfl,q⟩:=hc
          exact hE.rows.row _ _ hx
        | .ice nb1 e1 w1,.ice nb' ver esz' m',some (.ice nb v esz m),hc,hx,hr=>trivial
        | .dict,.dict es' clock',some (.dict es clock),hc,hx,hr=>
          obtain ⟨rfl,rfl⟩:=hc
          exact hE.rows.row _ _ hx
        | .loop _ _,.loop L',some (.loop L),hc,hx,hr=>
          obtain ⟨q1,q2,q3,q4,q5,q6,q7,q8⟩:=hc
          obtain ⟨A,p1,p2,p3,p4,p5,p6,p7,p8⟩:=hE.rows.row _ _ hx
          refine ⟨A,p1,by rw [q1,p2],by rw [q2,p3],by rw [q3,q4];exact p4,q8 ι rs hb _ p5,?_,?_,by rw [q5];exact p8⟩
          · show L'.defers<rs.length
            rw [q5,h2];exact q6
          · show sg rs L'.defers=none
            rw [q5];exact nosg _ q6 q7
        | .deferred,.deferred,some .deferred,hc,hx,hr=>exact hE.rows.row _ _ hx
      · obtain ⟨t,x,ht,hx,hc⟩:=h4 _ _ hr
        obtain ⟨t',x',ht',hx',hc'⟩:=h4 _ _ hr'
        have real:∀ (t:TR) (x:Option SRow) (row:SRow),RowC (verAt h.rows) s.rows h.rows.length t x (some row)->row.real->∃ row0,x=some row0/\row0.real:=by
          intro t x row hc hk
          match t,row,x,hc,hk with
          | .lit _,.lit cs',some (.lit cs),hc,hk=>exact ⟨_,rfl,trivial⟩
          | .vec _ _ _ _,.vec nb' ver esz' m' cs',some (.vec nb v esz m cs),hc,hk=>
            obtain ⟨rfl,rfl,rfl,rfl,rfl,rfl,rfl,q⟩:=hc
            exact ⟨_,rfl,hk⟩
          | .ice _ _ _,.ice nb' ver esz' m',some (.ice nb v esz m),hc,hk=>exact hk.elim
          | .dict,.dict es' clock',some (.dict es clock),hc,hk=>exact ⟨_,rfl,trivial⟩
          | .loop _ _,.loop L',some (.loop L),hc,hk=>exact ⟨_,rfl,trivial⟩
          | .deferred,.deferred,some .deferred,hc,hk=>exact ⟨_,rfl,trivial⟩
        obtain ⟨r0,rfl,k0⟩:=real _ _ _ hc k1
        obtain ⟨r0',rfl,k0'⟩:=real _ _ _ hc' k2
        exact hE.rows.inj _ _ _ _ hx hx' k0 k0' e
      · show σ.defers=h.defers.map ι
        rw [←hd];exact hE.defers
      · intro r hr
        have hr:r∈h.defers:=hr
        rw [←hd] at hr
        obtain ⟨d1,d2⟩:=hE.dlt r hr
        have hn:=hd0.2 r hr
        rw [Nat.blt_eq] at hn
        exact ⟨by show r<rs.length;rw [h2];exact hn,nosg r hn d2⟩
      · have hn:rows0.length<=rs.length:=by rw [h2];exact hok.len
        have key:∀ r nb w esz m nb0 v0 esz0 m0,sg rs r=some (nb,w,esz,m)->sg rows0 r=some (nb0,v0,esz0,m0)->v0<=w/\(v0=w->sg s.rows r=some (nb,w,esz,m)):=by
          intro r nb w esz m nb0 v0 esz0 m0 hw h0
          obtain ⟨v,hv,ht⟩:=words _ _ _ _ _ hw
          rcases hok.at_ _ _ _ _ _ h0 with ⟨b,hb0⟩ | hb0<;>rcases ht with ⟨b',hb1,q⟩ | ⟨hb1,q⟩<;>rw [hb0] at hb1<;>simp only [Option.some.injEq,TR.vec.injEq,TR.ice.injEq,reduceCtorEq] at hb1
          · obtain ⟨_,_,e3,e4⟩:=hb1
            subst e4
            cases b with
            | true=>simp only [if_true] at e3;exact ⟨by omega,fun e=>by omega⟩
            | false=>
              simp only [Bool.false_eq_true,if_false] at e3
              have:=q rfl
              subst this
              exact ⟨by omega,fun _=>hv⟩
          · obtain ⟨_,_,e3⟩:=hb1
            rw [q] at hv
            exact ⟨by omega,fun _=>hv⟩
        have none0:∀ r nb w esz m,sg rs r=some (nb,w,esz,m)->r<rows0.length->sg rows0 r≠none:=by
          intro r nb w esz m hw hr h0
          have:=(hle.st r hr h0).1
          have:=nosg r (Nat.lt_of_lt_of_le hr hok.len) this
          rw [this] at hw;cases hw
        have keep:∀ r p,r<rows0.length->sg rows0 r=some p->sg rs r≠none:=by
          intro r p hr h0 hs
          obtain ⟨nb0,v0,esz0,m0⟩:=p
          have hlt:r<rs.length:=by omega
          obtain ⟨t,x,ht,hx,hc⟩:=h4 r rs[r] (List.getElem?_eq_getElem hlt)
          have hrs:rs[r]?=some rs[r]:=List.getElem?_eq_getElem hlt
          generalize rs[r]=x' at hc hrs
          rcases hok.at_ _ _ _ _ _ h0 with ⟨b,hb0⟩ | hb0<;>rw [hb0] at ht<;>simp only [Option.some.injEq] at ht<;>subst ht
          · match x,x',hc,hrs with
            | some (.vec _ _ _ _ _),some (.vec _ _ _ _ _),hc,hrs=>rw [sg_vec hrs] at hs;cases hs
          · match x,x',hc,hrs with
            | some (.ice _ _ _ _),some (.ice _ _ _ _),hc,hrs=>unfold sg at hs;rw [hrs] at hs;cases hs
        refine ⟨hn,fun x v hx=>?_,fun r hr h0=>?_⟩
        · have hx1:=hle.one x v hx
          cases x with
          | own r ver esz=>
            refine ⟨Nat.lt_of_lt_of_le hx.1 hn,fun nb w esz' m hw=>?_⟩
            cases h0:sg rows0 r with
            | none=>exact absurd h0 (none0 r _ _ _ _ hw hx.1)
            | some p=>
              obtain ⟨nb0,v0,esz0,m0⟩:=p
              obtain ⟨l1,l2⟩:=hx.2 _ _ _ _ h0
              obtain ⟨k1,k2⟩:=key r nb w esz' m nb0 v0 esz0 m0 hw h0
              refine ⟨Nat.le_trans l1 k1,fun e=>?_⟩
              have e2:v0=w:=by omega
              exact (hx1.2 _ _ _ _ (k2 e2)).2 e
          | eptr r ver off=>
            refine ⟨Nat.lt_of_lt_of_le hx.1 hn,fun nb w esz' m hw=>?_⟩
            cases h0:sg rows0 r with
            | none=>exact absurd h0 (none0 r _ _ _ _ hw hx.1)
            | some p=>
              obtain ⟨nb0,v0,esz0,m0⟩:=p
              obtain ⟨l1,l2⟩:=hx.2 _ _ _ _ h0
              obtain ⟨k1,k2⟩:=key r nb w esz' m nb0 v0 esz0 m0 hw h0
              refine ⟨Nat.le_trans l1 k1,fun e=>?_⟩
              have e2:v0=w:=by omega
              exact (hx1.2 _ _ _ _ (k2 e2)).2 e
          | ptr r off=>
            refine ⟨Nat.lt_of_lt_of_le hx.1 hn,fun hs=>?_⟩
            cases h0:sg rows0 r with
            | none=>
              obtain ⟨a,b⟩:=hle.st r hx.1 h0
              exact hx1.2 a
            | some p=>
              exact absurd hs (keep r p hx.1 h0)
          | sub r ver o0 k0 esz=>
            refine ⟨Nat.lt_of_lt_of_le hx.1 hn,fun nb w esz' m hw=>?_⟩
            cases h0:sg rows0 r with
            | none=>exact absurd h0 (none0 r _ _ _ _ hw hx.1)
            | some p=>
              obtain ⟨nb0,v0,esz0,m0⟩:=p
              obtain ⟨l1,l2⟩:=hx.2 _ _ _ _ h0
              obtain ⟨k1,k2⟩:=key r nb w esz' m nb0 v0 esz0 m0 hw h0
              refine ⟨Nat.le_trans l1 k1,fun e=>?_⟩
              have e2:v0=w:=by omega
              exact (hx1.2 _ _ _ _ (k2 e2)).2 e
          | lsub r o0 k0 esz=>
            refine ⟨Nat.lt_of_lt_of_le hx.1 hn,fun hs=>?_⟩
            cases h0:sg rows0 r with
            | none=>
              obtain ⟨a,b⟩:=hle.st r hx.1 h0
              exact hx1.2 a
            | some p=>
              exact absurd hs (keep r p hx.1 h0)
          | yield r=>
            refine ⟨Nat.lt_of_lt_of_le hx.1 hn,fun hs=>?_⟩
            cases h0:sg rows0 r with
            | none=>
              obtain ⟨a,b⟩:=hle.st r hx.1 h0
              exact hx1.2 a
            | some p=>
              exact absurd hs (keep r p hx.1 h0)
          | mp r=>
            refine ⟨Nat.lt_of_lt_of_le hx.1 hn,fun hs=>?_⟩
            cases h0:sg rows0 r with
            | none=>
              obtain ⟨a,b⟩:=hle.st r hx.1 h0
              exact hx1.2 a
            | some p=>
              exact absurd hs (keep r p hx.1 h0)
          | _=>exact hx1
        · obtain ⟨a,b⟩:=hle.st r hr h0
          exact ⟨nosg r (Nat.lt_of_lt_of_le hr hok.len) a,b⟩
    · cases ha
  · cases ha
end
end Go.Abs
end
noncomputable section
namespace Go.Abs
def posOf:List Nat->Nat->Nat->Option Nat
 | [],_,_=>none
 | x::xs,r,j=>match Nat.beq x r with
  | true=>some j
  | false=>posOf xs r (j+1)
theorem posOf_spec:∀ {keep:List Nat} {r j p:Nat},posOf keep r j=some p->j<=p/\keep[p-j]?=some r
 | [],r,j,p,h=>by cases h
 | x::xs,r,j,p,h=>by
  simp only [posOf] at h
  split at h
  ·rename_i hb
   simp only [Option.some.injEq] at h;subst h
   have:=Nat.eq_of_beq_eq_true hb
   subst this
   simp
  ·obtain ⟨h1,h2⟩:=posOf_spec h
   refine ⟨by omega,?_⟩
   rw [show p-j=(p-(j+1))+1 by omega,List.getElem?_cons_succ];exact h2
theorem posOf_mem:∀ {keep:List Nat} {r:Nat} (j:Nat),r∈keep->∃ p,posOf keep r j=some p
 | [],r,j,h=>by cases h
 | x::xs,r,j,h=>by
  simp only [posOf]
  cases hb:Nat.beq x r with
  | true=>exact ⟨_,rfl⟩
  | false=>
   rcases List.mem_cons.1 h with rfl | h
   ·rw [Nat.beq_refl] at hb;cases hb
   ·exact posOf_mem (j+1) h
def ren1 (keep:List Nat):S1->S1
 | .own r ver esz=>match posOf keep r 0 with
  | some j=>.own j ver esz
  | none=>.top
 | .ptr r off=>match posOf keep r 0 with
  | some j=>.ptr j off
  | none=>.top
 | .eptr r ver off=>match posOf keep r 0 with
  | some j=>.eptr j ver off
  | none=>.top
 | .yield r=>match posOf keep r 0 with
  | some j=>.yield j
  | none=>.top
 | .mp r=>match posOf keep r 0 with
  | some j=>.mp j
  | none=>.top
 | .sub r ver off n esz=>match posOf keep r 0 with
  | some j=>.sub j ver off n esz
  | none=>.top
 | .lsub r off n esz=>match posOf keep r 0 with
  | some j=>.lsub j off n esz
  | none=>.top
 | x=>x
def ren2 (keep:List Nat):S2->S2
 | .b x=>.b (ren1 keep x)
 | .fn f first cap=>.fn f (first.map (ren1 keep)) (cap.map (ren1 keep))
def ren3 (keep:List Nat):S3->S3
 | .o x=>.o (ren2 keep x)
 | .agg cs=>.agg (cs.map (ren2 keep))
def renV (keep:List Nat):SV->SV
 | .s x=>.s (ren3 keep x)
 | .tuple xs=>.tuple (xs.map (ren3 keep))
def renRow (keep:List Nat):SRow->Option SRow
 | .lit cs=>some (.lit (cs.map (ren2 keep)))
 | .loop L=>match posOf keep L.defers 0 with
  | some d=>some (.loop { L with tmps:=L.tmps.map (renV keep),defers:=d })
  | none=>none
 | x=>some x
def renRows (keep:List Nat) (rows:Rows):Rows:=keep.map fun r=>match rows[r]? with
 | some (some row)=>renRow keep row
 | _=>none
def nodupB:List Nat->Bool
 | []=>true
 | x::xs=>!hasNat x xs&&nodupB xs
def posAll (keep:List Nat):List Nat->Option (List Nat)
 | []=>some []
 | d::ds=>match posOf keep d 0,posAll keep ds with
  | some j,some js=>some (j::js)
  | _,_=>none
def compact (n0:Nat) (order:List Nat) (s:SSt):Option SSt:=
 match Nat.ble n0 s.rows.length&&order.all (fun r=>Nat.ble n0 r&&Nat.blt r s.rows.length)&&nodupB order with
 | true=>match posAll (List.range n0++order) s.defers with
  | some ds=>some ⟨s.tmps.map (renV (List.range n0++order)),renRows (List.range n0++order) s.rows,ds⟩
  | none=>none
 | false=>none
theorem hasNat_mem:∀ {r:Nat} {xs:List Nat},hasNat r xs=true↔r∈xs
 | r,[]=>by simp [hasNat]
 | r,x::xs=>by
  simp only [hasNat,Bool.or_eq_true,List.mem_cons,hasNat_mem]
  constructor
  ·rintro (h | h)
   ·exact .inl (Nat.eq_of_beq_eq_true h).symm
   ·exact .inr h
  ·rintro (h | h)
   ·subst h;exact .inl (Nat.beq_refl _)
   ·exact .inr h
theorem nodupB_spec:∀ {xs:List Nat},nodupB xs=true->xs.Nodup
 | [],_=>List.nodup_nil
 | x::xs,h=>by
  simp only [nodupB,Bool.and_eq_true,Bool.not_eq_true'] at h
  refine List.nodup_cons.2 ⟨fun hm=>?_,nodupB_spec h.2⟩
  rw [hasNat_mem.2 hm] at h
  cases h.1
structure KeepOk (n0 len:Nat) (keep:List Nat):Prop where
 first:∀ r,r<n0->keep[r]?=some r
 lt:∀ r∈keep,r<len
 nodup:keep.Nodup
 len:n0<=keep.length
theorem keepOk_of {n0 len:Nat} {order:List Nat} (h0:n0<=len) (h1:∀ r∈order,n0<=r/\r<len) (h2:order.Nodup):KeepOk n0 len (List.range n0++order) where
 first r hr:=by rw [List.getElem?_append_left (by simpa using hr)];simp [hr]
 lt r hr:=by
  rcases List.mem_append.1 hr with h | h
  ·have:=List.mem_range.1 h;omega
  ·exact (h1 r h).2
 nodup:=List.nodup_append.2 ⟨List.nodup_range,h2,fun a ha b hb=>by
  have:=List.mem_range.1 ha
  have:=(h1 b hb).1
  omega⟩
 len:=by simp
section
variable {C : Codes} {ι : Nat → Nat} {rows : Rows} {H : Heap} {keep : List Nat} {n0 : Nat}
theorem pos_first (hk:KeepOk n0 rows.length keep) {r:Nat} (hr:r<n0):posOf keep r 0=some r:=by
 have hm:r∈keep:=List.mem_of_getElem? (hk.first r hr)
 obtain ⟨p,hp⟩:=posOf_mem 0 hm
 obtain ⟨_,h2⟩:=posOf_spec hp
 rw [Nat.sub_zero] at h2
 have h3:=hk.first r hr
 have hlt:p<keep.length:=(List.getElem?_eq_some_iff.1 h2).1
 have:=(List.getElem?_inj hlt hk.nodup).1 (h2.trans h3.symm)
 rw [hp,this]
theorem pos_inj (hk:KeepOk n0 rows.length keep) {i j r:Nat} (h1:keep[i]?=some r) (h2:keep[j]?=some r):i=j:=
 (List.getElem?_inj (List.getElem?_eq_some_iff.1 h1).1 hk.nodup).1 (h1.trans h2.symm)
theorem renRows_get (j:Nat):(renRows keep rows)[j]?=(keep[j]?).map fun r=>match rows[r]? with
 | some (some row)=>renRow keep row
 | _=>none:=by rw [renRows,List.getElem?_map];rfl
theorem renRows_length:(renRows keep rows).length=keep.length:=by simp [renRows]
theorem sg_ren (hk:KeepOk n0 rows.length keep) {j r:Nat} (h:keep[j]?=some r):sg (renRows keep rows) j=sg rows r:=by
 have hr:r<rows.length:=hk.lt r (List.mem_of_getElem? h)
 unfold sg
 rw [renRows_get,h]
 simp only [Option.map_some]
 rw [List.getElem?_eq_getElem hr]
 cases rows[r] with
 | none=>rfl
 | some row=>
  cases row with
  | loop L=>simp only [renRow];split<;>rename_i h1<;>split at h1<;>simp_all
  | _=>rfl
def iotaK (keep:List Nat) (ι:Nat->Nat) (j:Nat):Nat:=ι (keep.getD j 0)
theorem iotaK_of {j r:Nat} (h:keep[j]?=some r):iotaK keep ι j=ι r:=by
 unfold iotaK
 rw [List.getD_eq_getElem?_getD,h];rfl
theorem ren1_rel (hk:KeepOk n0 rows.length keep) {x:S1} {v:AV} (hx:R1 ι rows x v):R1 (iotaK keep ι) (renRows keep rows) (ren1 keep x) v:=by
 have at_:∀ {r j:Nat},posOf keep r 0=some j->keep[j]?=some r/\j<(renRows keep rows).length:=by
  intro r j h
  have:=(posOf_spec h).2
  rw [Nat.sub_zero] at this
  exact ⟨this,by rw [renRows_length];exact (List.getElem?_eq_some_iff.1 this).1⟩
 unfold ren1
 split
 ·split
  ·rename_i r ver esz _ j hj
   obtain ⟨h1,h2⟩:=at_ hj
   refine ⟨h2,fun nb ver' esz' n hs=>?_⟩
   rw [sg_ren hk h1] at hs
   rw [iotaK_of h1]
   exact hx.2 _ _ _ _ hs
  ·trivial
 ·split
  ·rename_i r off _ j hj
   obtain ⟨h1,h2⟩:=at_ hj
   refine ⟨h2,fun hs=>?_⟩
   rw [sg_ren hk h1] at hs
   rw [iotaK_of h1]
   exact hx.2 hs
  ·trivial
 ·split
  ·rename_i r ver off _ j hj
   obtain ⟨h1,h2⟩:=at_ hj
   refine ⟨h2,fun nb ver' esz' n hs=>?_⟩
   rw [sg_ren hk h1] at hs
   rw [iotaK_of h1]
   exact hx.2 _ _ _ _ hs
  ·trivial
 ·split
  ·rename_i r _ j hj
   obtain ⟨h1,h2⟩:=at_ hj
   refine ⟨h2,fun hs=>?_⟩
   rw [sg_ren hk h1] at hs
   rw [iotaK_of h1]
   exact hx.2 hs
  ·trivial
 ·split
  ·rename_i r _ j hj
   obtain ⟨h1,h2⟩:=at_ hj
   refine ⟨h2,fun hs=>?_⟩
   rw [sg_ren hk h1] at hs
   rw [iotaK_of h1]
   exact hx.2 hs
  ·trivial
 ·split
  ·rename_i r ver off n esz _ j hj
   obtain ⟨h1,h2⟩:=at_ hj
   refine ⟨h2,fun nb ver' esz' n hs=>?_⟩
   rw [sg_ren hk h1] at hs
   rw [iotaK_of h1]
   exact hx.2 _ _ _ _ hs
  ·trivial
 ·split
  ·rename_i r off n esz _ j hj
   obtain ⟨h1,h2⟩:=at_ hj
   refine ⟨h2,fun hs=>?_⟩
   rw [sg_ren hk h1] at hs
   rw [iotaK_of h1]
   exact hx.2 hs
  ·trivial
 ·rename_i h1 h2 h3 h4 h7 h5 h6
  cases x with
  | sub r ver off n esz=>exact absurd rfl (h5 r ver off n esz)
  | lsub r off n esz=>exact absurd rfl (h6 r off n esz)
  | mp r=>exact absurd rfl (h7 r)
  | own r ver esz=>exact absurd rfl (h1 r ver esz)
  | ptr r off=>exact absurd rfl (h2 r off)
  | eptr r ver off=>exact absurd rfl (h3 r ver off)
  | yield r=>exact absurd rfl (h4 r)
  | _=>exact hx
theorem map_rel2 {α β γ:Type} {R:α->β->Prop} {S:γ->β->Prop} (f:α->γ) (h:∀ x y,R x y->S (f x) y) {xs:List α} {ys:List β} (hx:All2 R xs ys):All2 S (xs.map f) ys:=by
 induction hx with
 | nil=>exact .nil
 | cons a _ ih=>exact .cons (h _ _ a) ih
theorem ren2_rel (hk:KeepOk n0 rows.length keep) {x:S2} {v:AV} (hx:R2 ι rows x v):R2 (iotaK keep ι) (renRows keep rows) (ren2 keep x) v:=by
 cases x with
 | b x=>exact ren1_rel hk hx
 | fn f a b=>
  obtain ⟨a',b',e,h1,h2⟩:=hx
  exact ⟨a',b',e,map_rel2 (ren1 keep) (fun _ _ h=>ren1_rel hk h) h1,map_rel2 (ren1 keep) (fun _ _ h=>ren1_rel hk h) h2⟩
theorem ren3_rel (hk:KeepOk n0 rows.length keep) {x:S3} {v:AV} (hx:R3 ι rows x v):R3 (iotaK keep ι) (renRows keep rows) (ren3 keep x) v:=by
 cases x with
 | o x=>exact ren2_rel hk (x:=x) hx
 | agg cs=>
  obtain ⟨a',e,h1⟩:=hx
  exact ⟨a',e,map_rel2 (ren2 keep) (fun _ _ h=>ren2_rel hk h) h1⟩
theorem renV_rel (hk:KeepOk n0 rows.length keep) {x:SV} {v:AV} (hx:RV ι rows x v):RV (iotaK keep ι) (renRows keep rows) (renV keep x) v:=by
 cases x with
 | s x=>exact ren3_rel hk (x:=x) hx
 | tuple xs=>
  obtain ⟨a',e,h1⟩:=hx
  exact ⟨a',e,map_rel2 (ren3 keep) (fun _ _ h=>ren3_rel hk h) h1⟩
theorem ren_row (hk:KeepOk n0 rows.length keep) {j:Nat} {row':SRow} (h:(renRows keep rows)[j]?=some (some row')):∃ r row,keep[j]?=some r/\rows[r]?=some (some row)/\renRow keep row=some row':=by
 rw [renRows_get,Option.map_eq_some_iff] at h
 obtain ⟨r,h1,h2⟩:=h
 split at h2
 ·rename_i row hrow
  exact ⟨r,row,h1,hrow,h2⟩
 ·cases h2
theorem renRow_real {row row':SRow} (h:renRow keep row=some row') (hr:row'.real):row.real:=by
 cases row with
 | lit cs=>trivial
 | loop L=>trivial
 | vec nb ver esz n cs=>simp only [renRow,Option.some.injEq] at h;subst h;exact hr
 | ice nb ver esz n=>simp only [renRow,Option.some.injEq] at h;subst h;exact hr
 | dict es clock=>trivial
 | deferred=>trivial
theorem rowsE_ren (hk:KeepOk n0 rows.length keep) (hE:RowsE C ι rows H):RowsE C (iotaK keep ι) (renRows keep rows) H:=by
 refine ⟨fun j row' h=>?_,fun j j' row row' h h' k k' e=>?_,hE.ok,hE.lim⟩
 ·obtain ⟨r,row,h1,h2,h3⟩:=ren_row hk h
  have h4:=hE.row r row h2
  cases row with
  | lit cs=>
   simp only [renRow,Option.some.injEq] at h3;subst h3
   obtain ⟨cs',q1,q2⟩:=h4
   exact ⟨cs',by rw [iotaK_of h1];exact q1,map_rel2 (ren2 keep) (fun _ _ h=>ren2_rel hk h) q2⟩
  | vec nb ver esz n cs=>
   simp only [renRow,Option.some.injEq] at h3;subst h3
   obtain ⟨q1,q2,q3⟩:=h4
   exact ⟨q1,q2,by rw [iotaK_of h1];exact q3⟩
  | ice nb ver esz n=>
   simp only [renRow,Option.some.injEq] at h3;subst h3
   trivial
  | dict es clock=>
   simp only [renRow,Option.some.injEq] at h3;subst h3
   show H.get (iotaK keep ι j)=_
   rw [iotaK_of h1];exact h4
  | loop L=>
   simp only [renRow] at h3
   split at h3
   ·rename_i d hd
    simp only [Option.some.injEq] at h3;subst h3
    have hd1:=(posOf_spec hd).2
    rw [Nat.sub_zero] at hd1
    obtain ⟨L',q1,q2,q3,q4,q5,q6,q7,q8⟩:=h4
    refine ⟨L',by rw [iotaK_of h1];exact q1,q2,q3,q4,map_rel2 (renV keep) (fun _ _ h=>renV_rel hk h) q5,?_,?_,?_⟩
    ·show d<(renRows keep rows).length
     rw [renRows_length];exact (List.getElem?_eq_some_iff.1 hd1).1
    ·show sg (renRows keep rows) d=none
     rw [sg_ren hk hd1];exact q7
    ·show L'.defers=iotaK keep ι d
     rw [iotaK_of hd1];exact q8
   ·cases h3
  | deferred=>
   simp only [renRow,Option.some.injEq] at h3;subst h3
   show H.get (iotaK keep ι j)=_
   rw [iotaK_of h1];exact h4
 ·obtain ⟨r,ro,h1,h2,h3⟩:=ren_row hk h
  obtain ⟨r',ro',h1',h2',h3'⟩:=ren_row hk h'
  rw [iotaK_of h1,iotaK_of h1'] at e
  have:=hE.inj r r' ro ro' h2 h2' (renRow_real h3 k) (renRow_real h3' k') e
  subst this
  exact pos_inj hk h1 h1'
theorem le_ren {ι0:Nat->Nat} {rows0:Rows} (hk:KeepOk rows0.length rows.length keep) (le:Le ι0 rows0 ι rows):Le ι0 rows0 (iotaK keep ι) (renRows keep rows):=by
 refine ⟨by rw [renRows_length];exact hk.len,fun x v hx=>?_,fun r hr h0=>?_⟩
 ·have h1:=ren1_rel hk (le.one x v hx)
  cases x with
  | own r ver esz=>simp only [ren1,pos_first hk hx.1] at h1;exact h1
  | ptr r off=>simp only [ren1,pos_first hk hx.1] at h1;exact h1
  | eptr r ver off=>simp only [ren1,pos_first hk hx.1] at h1;exact h1
  | yield r=>simp only [ren1,pos_first hk hx.1] at h1;exact h1
  | mp r=>simp only [ren1,pos_first hk hx.1] at h1;exact h1
  | sub r ver off n esz=>simp only [ren1,pos_first hk hx.1] at h1;exact h1
  | lsub r off n esz=>simp only [ren1,pos_first hk hx.1] at h1;exact h1
  | _=>exact h1
 ·obtain ⟨a,b⟩:=le.st r hr h0
  have:=hk.first r hr
  exact ⟨by rw [sg_ren hk this];exact a,by rw [iotaK_of this];exact b⟩
theorem posAll_spec:∀ {ds ds':List Nat},posAll keep ds=some ds'->ds'.map (iotaK keep ι)=ds.map ι/\∀ d'∈ds',∃ d∈ds,keep[d']?=some d
 | [],ds',h=>by simp only [posAll,Option.some.injEq] at h;subst h;exact ⟨rfl,fun d h=>by cases h⟩
 | d::ds,ds',h=>by
  simp only [posAll] at h
  split at h
  ·rename_i j js h1 h2
   simp only [Option.some.injEq] at h;subst h
   obtain ⟨k1,k2⟩:=posAll_spec h2
   have h3:=(posOf_spec h1).2
   rw [Nat.sub_zero] at h3
   refine ⟨by simp only [List.map_cons,k1,iotaK_of h3],fun d' hd'=>?_⟩
   rcases List.mem_cons.1 hd' with rfl | hd'
   ·exact ⟨d,List.mem_cons_self,h3⟩
   ·obtain ⟨e,he,q⟩:=k2 d' hd'
    exact ⟨e,List.mem_cons_of_mem _ he,q⟩
  ·cases h
theorem compact_ok {s s':SSt} {order:List Nat} {rows0:Rows} (h:compact rows0.length order s=some s'):
  ∃ keep,∀ (ι0 ι:Nat->Nat) (σ:St),Emb C ι s σ->Le ι0 rows0 ι s.rows->Emb C (iotaK keep ι) s' σ/\Le ι0 rows0 (iotaK keep ι) s'.rows:=by
 unfold compact at h
 split at h
 ·rename_i hc
  simp only [Bool.and_eq_true,List.all_eq_true,Nat.ble_eq,Nat.blt_eq] at hc
  obtain ⟨⟨c1,c2⟩,c3⟩:=hc
  have hk:KeepOk rows0.length s.rows.length (List.range rows0.length++order):=keepOk_of c1 c2 (nodupB_spec c3)
  split at h
  ·rename_i ds hds
   simp only [Option.some.injEq] at h;subst h
   refine ⟨List.range rows0.length++order,fun ι0 ι σ hE le=>⟨⟨map_rel2 (renV (List.range rows0.length++order)) (fun _ _ h=>renV_rel hk h) hE.tmps,rowsE_ren hk hE.rows,?_,fun d hd=>?_⟩,le_ren hk le⟩⟩
   ·show σ.defers=ds.map _
    rw [(posAll_spec hds).1];exact hE.defers
   ·obtain ⟨d0,h1,h2⟩:=(posAll_spec (ι:=ι) hds).2 d hd
    exact ⟨by show d<(renRows _ _).length;rw [renRows_length];exact (List.getElem?_eq_some_iff.1 h2).1,by show sg (renRows _ _) d=none;rw [sg_ren hk h2];exact (hE.dlt d0 h1).2⟩
  ·cases h
 ·cases h
def isNilC:S2->Bool
 | .b (.raw .nilslice)=>true
 | _=>false
def ghostC (r c esz:Nat) (s:SSt):SSt:=
 match s.rows[r]? with
 | some (some (.lit cs))=>match cs[c]? with
  | some x=>match isNilC x with
   | true=>{ s with rows:=(s.rows.set r (some (.lit (cs.set c (.b (.own s.rows.length 0 esz))))))++[some (.vec true 0 esz 0 [])] }
   | false=>s
  | none=>s
 | _=>s
def ghostT (t esz:Nat) (s:SSt):SSt:=
 match s.tmps[t]? with
 | some (.s (.o x))=>match isNilC x with
  | true=>{ s with tmps:=s.tmps.set t (.s (.o (.b (.own s.rows.length 0 esz)))),rows:=s.rows++[some (.vec true 0 esz 0 [])] }
  | false=>s
 | _=>s
theorem own_ghost (ι:Nat->Nat) (rows:Rows) (esz:Nat):R1 ι (rows++[some (.vec true 0 esz 0 [])]) (.own rows.length 0 esz) .nilslice:=by
 refine ⟨by simp,fun nb ver' esz' n hs=>?_⟩
 have:sg (rows++[some (.vec true 0 esz 0 [])]) rows.length=some (true,0,esz,0):=sg_vec (nb:=true) (ver:=0) (esz:=esz) (n:=0) (cs:=[]) (by simp)
 rw [this] at hs;cases hs
 exact ⟨Nat.le_refl _,fun _=>⟨rfl,by simp [ownAV]⟩⟩
theorem ghostT_ok {s:SSt} {σ:St} {ι0:Nat->Nat} {rows0:Rows} {t esz:Nat} (hE:Emb C ι s σ) (le:Le ι0 rows0 ι s.rows):Emb C ι (ghostT t esz s) σ/\Le ι0 rows0 ι (ghostT t esz s).rows:=by
 unfold ghostT
 split
 ·rename_i x hx
  split
  ·rename_i hn
   have le1:=le_app' ι s.rows (some (.vec true 0 esz 0 []))
   refine ⟨⟨?_,hE.rows.ghost esz,hE.defers,fun d hd=>?_⟩,le.trans le1⟩
   ·obtain ⟨v,hv,hr⟩:=hE.tmps.get hx
    have h1:=hE.tmps.mono fun _ _=>le1.rv
    have:v=.nilslice:=by
     cases x with
     | b y=>cases y<;>simp [isNilC] at hn;rename_i z;cases z<;>simp at hn;exact hr
     | fn=>simp [isNilC] at hn
    subst this
    have h2:=h1.set (x:=.s (.o (.b (.own s.rows.length 0 esz)))) (y:=.nilslice) (own_ghost ι s.rows esz) t
    have e:σ.tmps.set t .nilslice=σ.tmps:=by
     obtain ⟨hl,he⟩:=List.getElem?_eq_some_iff.1 hv
     rw [←he];exact List.set_getElem_self hl
    rw [e] at h2;exact h2
   ·obtain ⟨a,b⟩:=hE.dlt d hd
    have:=le1.st d a b
    exact ⟨Nat.lt_of_lt_of_le a le1.len,this.1⟩
  ·exact ⟨hE,le⟩
 ·exact ⟨hE,le⟩
theorem ghostC_ok {s:SSt} {σ:St} {ι0:Nat->Nat} {rows0:Rows} {r c esz:Nat} (hE:Emb C ι s σ) (le:Le ι0 rows0 ι s.rows):Emb C ι (ghostC r c esz s) σ/\Le ι0 rows0 ι (ghostC r c esz s).rows:=by
 unfold ghostC
 split
 ·rename_i cs hrow
  split
  ·rename_i x hx
   split
   ·rename_i hn
    have hr:r<s.rows.length:=lt_of_get hrow
    let row2:Option SRow:=some (.lit (cs.set c (.b (.own s.rows.length 0 esz))))
    have hsg:∀ q,sg (s.rows.set r row2) q=sg s.rows q:=by
     intro q
     unfold sg
     rw [List.getElem?_set]
     by_cases e:r=q
     ·subst e;rw [if_pos rfl,if_pos hr,hrow]
     ·rw [if_neg e]
    have le0:Le ι s.rows ι (s.rows.set r row2):=Le.of (by simp) fun q hq=>.inl ⟨rfl,hsg q⟩
    have le1:Le ι (s.rows.set r row2) ι (s.rows.set r row2++[some (.vec true 0 esz 0 [])]):=le_app' ι _ _
    have le2:=le0.trans le1
    have hlen:(s.rows.set r row2).length=s.rows.length:=by simp
    refine ⟨⟨hE.tmps.mono fun _ _=>le2.rv,⟨fun q row h=>?_,fun q q' row row' h h' k k' e=>?_,hE.rows.ok,hE.rows.lim⟩,hE.defers,fun d hd=>?_⟩,le.trans le2⟩
    ·rcases get_app h with ⟨hq,h⟩ | ⟨hq,h⟩
     ·rw [List.getElem?_set] at h
      by_cases e:r=q
      ·subst e
       rw [if_pos rfl,if_pos hr] at h
       simp only [Option.some.injEq] at h
       subst h
       obtain ⟨cs',q1,q2⟩:=hE.rows.row _ _ hrow
       obtain ⟨v,hv,hrel⟩:=q2.get hx
       have:v=.nilslice:=by
        cases x with
        | b y=>cases y<;>simp [isNilC] at hn;rename_i z;cases z<;>simp at hn;exact hrel
        | fn=>simp [isNilC] at hn
       subst this
       have h1:=q2.mono fun _ _=>le2.r2
       have h2:=h1.set (x:=.b (.own s.rows.length 0 esz)) (y:=.nilslice) (by
        have:=own_ghost ι (s.rows.set r row2) esz
        rw [hlen] at this;exact this) c
       have e:cs'.set c .nilslice=cs':=by
        obtain ⟨hl,he⟩:=List.getElem?_eq_some_iff.1 hv
        rw [←he];exact List.set_getElem_self hl
       rw [e] at h2
       exact ⟨cs',q1,h2⟩
      ·rw [if_neg e] at h
       exact (hE.rows.row _ _ h).mono le2 (fun _=>⟨rfl,fun _ h=>h⟩) fun d hd h0=>by
        obtain ⟨a,b⟩:=le2.st d hd h0
        exact ⟨b,a⟩
     ·simp only [Option.some.injEq] at h;subst h
      exact ⟨by simp,fun x hx=>(by cases hx),fun hn=>absurd ⟨rfl,rfl⟩ hn⟩
    ·have old:∀ (q:Nat) (row:SRow),(s.rows.set r row2++[some (.vec true 0 esz 0 [])])[q]?=some (some row)->row.real->∃ row0,s.rows[q]?=some (some row0)/\row0.real:=by
      intro q row h k
      rcases get_app h with ⟨hq,h⟩ | ⟨hq,h⟩
      ·rw [List.getElem?_set] at h
       by_cases e:r=q
       ·subst e
        exact ⟨_,hrow,trivial⟩
       ·rw [if_neg e] at h
        exact ⟨row,h,k⟩
      ·simp only [Option.some.injEq] at h;subst h
       exact absurd ⟨rfl,rfl⟩ k
     obtain ⟨x1,p1,p2⟩:=old q row h k
     obtain ⟨x2,p3,p4⟩:=old q' row' h' k'
     exact hE.rows.inj _ _ _ _ p1 p3 p2 p4 e
    ·obtain ⟨a,b⟩:=hE.dlt d hd
     have:=le2.st d a b
     exact ⟨Nat.lt_of_lt_of_le a le2.len,this.1⟩
   ·exact ⟨hE,le⟩
  ·exact ⟨hE,le⟩
 ·exact ⟨hE,le⟩
end
end Go.Abs
end
