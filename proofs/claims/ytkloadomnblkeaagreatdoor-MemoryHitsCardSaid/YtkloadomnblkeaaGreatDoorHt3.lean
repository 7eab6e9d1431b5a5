/- Part 3 of the library of the proof: an abstract run of the program. -/
import Derived.Test.YtkloadomnblkeaaGreatDoorHt2
set_option linter.unusedVariables false
set_option linter.unusedSimpArgs false

noncomputable section
namespace Go.Abs
inductive aQ {α β:Type} (R:α->β->Prop):List α->List β->Prop
 | nil:aQ R [] []
 | cons {x:α} {y:β} {xs:List α} {ys:List β} (h:R x y) (t:aQ R xs ys):aQ R (x::xs) (y::ys)
section
variable {α β : Type} {R S : α → β → Prop}
theorem aQ.mono (hRS:∀ x y,R x y->S x y) {xs:List α} {ys:List β} (h:aQ R xs ys):aQ S xs ys:=by
 induction h with
 | nil=>exact .nil
 | cons h _ ih=>exact .cons (hRS _ _ h) ih
theorem aQ.length {xs:List α} {ys:List β} (h:aQ R xs ys):xs.length=ys.length:=by
 induction h with
 | nil=>rfl
 | cons _ _ ih=>simp [ih]
theorem aQ.get {xs:List α} {ys:List β} (h:aQ R xs ys):∀ {j:Nat} {x:α},xs[j]?=some x->∃ y,ys[j]?=some y/\R x y:=by
 induction h with
 | nil=>intro j x h;simp at h
 | @cons x y xs ys h _ ih=>
  intro j z hz
  cases j with
  | zero=>simp at hz;subst hz;exact ⟨y,rfl,h⟩
  | succ j=>exact ih (by simpa using hz)
theorem aQ.get' {xs:List α} {ys:List β} (h:aQ R xs ys):∀ {j:Nat} {y:β},ys[j]?=some y->∃ x,xs[j]?=some x/\R x y:=by
 induction h with
 | nil=>intro j x h;simp at h
 | @cons x y xs ys h _ ih=>
  intro j z hz
  cases j with
  | zero=>simp at hz;subst hz;exact ⟨x,rfl,h⟩
  | succ j=>exact ih (by simpa using hz)
theorem aQ.append {xs mY:List α} {ys ys':List β} (h:aQ R xs ys) (k:aQ R mY ys'):aQ R (xs++mY) (ys++ys'):=by
 induction h with
 | nil=>exact k
 | cons h _ ih=>exact .cons h ih
theorem aQ.set {xs:List α} {ys:List β} (h:aQ R xs ys) {x:α} {y:β} (hxy:R x y):∀ (n:Nat),aQ R (xs.set n x) (ys.set n y):=by
 induction h with
 | nil=>intro n;exact .nil
 | cons h t ih=>
  intro n
  cases n with
  | zero=>exact .cons hxy t
  | succ n=>exact .cons h (ih n)
theorem aQ.take {xs:List α} {ys:List β} (h:aQ R xs ys):∀ (n:Nat),aQ R (xs.take n) (ys.take n):=by
 induction h with
 | nil=>intro n;simp;exact .nil
 | cons h t ih=>
  intro n
  cases n with
  | zero=>exact .nil
  | succ n=>exact .cons h (ih n)
theorem aQ.drop {xs:List α} {ys:List β} (h:aQ R xs ys):∀ (n:Nat),aQ R (xs.drop n) (ys.drop n):=by
 induction h with
 | nil=>intro n;simp;exact .nil
 | cons h t ih=>
  intro n
  cases n with
  | zero=>exact .cons h t
  | succ n=>exact ih n
theorem aQ.replicate {x:α} {y:β} (h:R x y):∀ (n:Nat),aQ R (List.replicate n x) (List.replicate n y)
 | 0=>.nil
 | n+1=>.cons h (aQ.replicate h n)
theorem aQ.of_map {γ:Type} (f:γ->α) (g:γ->β):∀ (l:List γ),(∀ z∈l,R (f z) (g z))->aQ R (l.map f) (l.map g)
 | [],_=>.nil
 | z::l,h=>.cons (h z (List.mem_cons_self)) (aQ.of_map f g l fun z hz=>h z (List.mem_cons_of_mem _ hz))
end
inductive Cell:AV->Prop
 | bool (b:Bool):Cell (.bool b)
 | int (k:IntKind) (n:Int):Cell (.int k n)
 | aL (k:FloatKind) (o:Option Nat):Cell (.aL k o)
 | string (s:ByteArray):Cell (.string s)
 | list (len:Nat) (cells:List AV) (h:∀ x∈cells,Cell x):Cell (.list len cells)
 | nl (len:Nat) (cells:List AV) (h:∀ x∈cells,Cell x):Cell (.nl len cells)
theorem Cell.one {x:AV} (h:Cell x):x.one=true:=by cases h<;>rfl
theorem Cell.pure {x:AV} (h:Cell x):Pure x:=by
 induction h with
 | bool b=>exact .bool b
 | int k n=>exact .int k n
 | aL k o=>cases o;exact .nan k;exact .float k _
 | string s=>exact .string s
 | list len cells _ ih=>exact .list len cells ih
 | nl len cells _ ih=>exact .nl len cells ih
inductive S1 where
 | top
 | bool (b:Bool)
 | int (k:IntKind) (n:Int)
 | aL (k:FloatKind) (o:Option Nat)
 | string (s:ByteArray)
 | list (n:Nat) (cs:List AV)
 | nl (n:Nat) (cs:List AV)
 | fm (cs:List AV) (off:Nat)
 | own (r aW aA:Nat)
 | ptr (r off:Nat)
 | gk (r aW off:Nat)
 | sub (r aW off n aA:Nat)
 | fX (r off n aA:Nat)
 | yield (r:Nat)
 | mp (r:Nat)
 | raw (x:AV)
inductive S2 where
 | b (x:S1)
 | fn (f:FuncId) (first cap:List S1)
inductive S3 where
 | o (x:S2)
 | agg (cs:List S2)
inductive SV where
 | s (x:S3)
 | tuple (xs:List S3)
abbrev cp:=FuncId->List Nat->Option Code
structure Dc where
 state:LoopState
 pending:Option Code
 tmps:List SV
 fn:FuncId
 path:List Nat
 defers:Nat
inductive eJ where
 | lit (cs:List S2)
 | vec (nb:Bool) (aW aA n:Nat) (cs:List AV)
 | jR (nb:Bool) (aW aA n:Nat)
 | dM (es:List (AV × AV × Nat)) (clock:Nat)
 | loop (L:Dc)
 | deferred
abbrev Rows:=List (Option eJ)
def sg (rows:Rows) (r:Nat):Option (Bool × Nat × Nat × Nat):=
 match rows[r]? with
 | some (some (.vec nb aW aA n _))=>some (nb,aW,aA,n)
 | some (some (.jR nb aW aA n))=>some (nb,aW,aA,n)
 | _=>none
def dc (b:Nat) (nb:Bool) (aA n:Nat):AV:=if nb=true/\n=0 then .av else .slice b 0 n aA
def mS (b:Nat) (nb:Bool) (aA m off n:Nat) (v:AV):Prop:=if nb=true/\m=0 then v=.av else (v=.slice b (off*aA) n aA\/(n=0/\v=.list 0 []))
def R1 (ι:Nat->Nat) (rows:Rows):S1->AV->Prop
 | .top,_=>True
 | .bool b,v=>v=.bool b
 | .int k n,v=>v=.int k n
 | .aL k o,v=>v=.aL k o
 | .string s,v=>v=.string s
 | .list n cs,v=>v=.list n cs/\∀ x∈cs,Cell x
 | .nl n cs,v=>v=.nl n cs/\∀ x∈cs,Cell x
 | .fm cs off,v=>v=.dK cs off/\∀ x∈cs,Cell x
 | .own r aW aA,v=>r<rows.length/\∀ nb gz dI n,sg rows r=some (nb,gz,dI,n)->aW<=gz/\(aW=gz->aA=dI/\v=dc (ι r) nb aA n)
 | .ptr r off,v=>r<rows.length/\(sg rows r=none->v=.ptr (ι r) off)
 | .gk r aW off,v=>r<rows.length/\∀ nb gz dI n,sg rows r=some (nb,gz,dI,n)->aW<=gz/\(aW=gz->v=.ptr (ι r) off)
 | .sub r aW off n aA,v=>r<rows.length/\∀ nb gz dI m,sg rows r=some (nb,gz,dI,m)->aW<=gz/\(aW=gz->aA=dI/\off+n<=m/\mS (ι r) nb aA m off n v)
 | .fX r off n aA,v=>r<rows.length/\(sg rows r=none->v=.slice (ι r) off n aA)
 | .yield r,v=>r<rows.length/\(sg rows r=none->v=.yield (ι r))
 | .mp r,v=>r<rows.length/\(sg rows r=none->v=.map (ι r))
 | .raw x,v=>v=x
def R2 (ι:Nat->Nat) (rows:Rows):S2->AV->Prop
 | .b x,v=>R1 ι rows x v
 | .fn f first cap,v=>∃ cX nU,v=.func f cX nU/\aQ (R1 ι rows) first cX/\aQ (R1 ι rows) cap nU
def R3 (ι:Nat->Nat) (rows:Rows):S3->AV->Prop
 | .o x,v=>R2 ι rows x v
 | .agg cs,v=>∃ dE,v=.agg dE/\aQ (R2 ι rows) cs dE
def RV (ι:Nat->Nat) (rows:Rows):SV->AV->Prop
 | .s x,v=>R3 ι rows x v
 | .tuple xs,v=>∃ mY,v=.tuple mY/\aQ (R3 ι rows) xs mY
structure Le (ι:Nat->Nat) (rows:Rows) (ι':Nat->Nat) (ah:Rows):Prop where
 len:rows.length<=ah.length
 one:∀ x v,R1 ι rows x v->R1 ι' ah x v
 st:∀ r,r<rows.length->sg rows r=none->sg ah r=none/\ι' r=ι r
theorem Le.refl (ι:Nat->Nat) (rows:Rows):Le ι rows ι rows:=⟨Nat.le_refl _,fun _ _ h=>h,fun _ _ h=>⟨h,rfl⟩⟩
section
variable {ι ι' ι'' : Nat → Nat} {rows ah vZ : Rows}
theorem Le.trans (h:Le ι rows ι' ah) (k:Le ι' ah ι'' vZ):Le ι rows ι'' vZ:=⟨Nat.le_trans h.len k.len,fun x v hx=>k.one x v (h.one x v hx),fun r hr h0=>by
 obtain ⟨a,b⟩:=h.st r hr h0
 obtain ⟨c,d⟩:=k.st r (Nat.lt_of_lt_of_le hr h.len) a
 exact ⟨c,d.trans b⟩⟩
theorem Le.r2 (h:Le ι rows ι' ah) {x:S2} {v:AV} (hx:R2 ι rows x v):R2 ι' ah x v:=by
 cases x with
 | b x=>exact h.one x v hx
 | fn f first cap=>
  obtain ⟨a,b,e,h1,h2⟩:=hx
  exact ⟨a,b,e,h1.mono h.one,h2.mono h.one⟩
theorem Le.r3 (h:Le ι rows ι' ah) {x:S3} {v:AV} (hx:R3 ι rows x v):R3 ι' ah x v:=by
 cases x with
 | o x=>exact h.r2 (x:=x) hx
 | agg cs=>
  obtain ⟨a,e,h1⟩:=hx
  exact ⟨a,e,h1.mono fun _ _=>h.r2⟩
theorem Le.rv (h:Le ι rows ι' ah) {x:SV} {v:AV} (hx:RV ι rows x v):RV ι' ah x v:=by
 cases x with
 | s x=>exact h.r3 (x:=x) hx
 | tuple xs=>
  obtain ⟨a,e,h1⟩:=hx
  exact ⟨a,e,h1.mono fun _ _=>h.r3⟩
theorem Le.of (hl:rows.length<=ah.length)
  (hr:∀ r,r<rows.length->(ι' r=ι r/\sg ah r=sg rows r)\/(∃ nb aW aA n m5 gz dI n',sg rows r=some (nb,aW,aA,n)/\sg ah r=some (m5,gz,dI,n')/\aW<gz)):Le ι rows ι' ah:=by
 refine ⟨hl,fun x v hx=>?_,fun r Tc h0=>by
  rcases hr r Tc with ⟨e1,e2⟩ | ⟨xV,v0,e0,n0,KG,v1,e1,n1,k1,k2,k3⟩
  ·exact ⟨by rw [e2];exact h0,e1⟩
  ·rw [k1] at h0;cases h0⟩
 cases x with
 | own r aW aA=>
  obtain ⟨h1,h2⟩:=hx
  refine ⟨by omega,fun nb gz dI n hs=>?_⟩
  rcases hr r h1 with ⟨e1,e2⟩ | ⟨xV,v0,e0,n0,KG,v1,e1,n1,k1,k2,k3⟩
  ·rw [e2] at hs;rw [e1];exact h2 _ _ _ _ hs
  ·rw [k2] at hs;cases hs
   have:=(h2 _ _ _ _ k1).1
   exact ⟨by omega,fun e=>by omega⟩
 | gk r aW off=>
  obtain ⟨h1,h2⟩:=hx
  refine ⟨by omega,fun nb gz dI n hs=>?_⟩
  rcases hr r h1 with ⟨e1,e2⟩ | ⟨xV,v0,e0,n0,KG,v1,e1,n1,k1,k2,k3⟩
  ·rw [e2] at hs;rw [e1];exact h2 _ _ _ _ hs
  ·rw [k2] at hs;cases hs
   have:=(h2 _ _ _ _ k1).1
   exact ⟨by omega,fun e=>by omega⟩
 | ptr r off=>
  obtain ⟨h1,h2⟩:=hx
  refine ⟨by omega,fun hs=>?_⟩
  rcases hr r h1 with ⟨e1,e2⟩ | ⟨xV,v0,e0,n0,KG,v1,e1,n1,k1,k2,k3⟩
  ·rw [e2] at hs;rw [e1];exact h2 hs
  ·rw [k2] at hs;cases hs
 | sub r aW o0 k0 aA=>
  obtain ⟨h1,h2⟩:=hx
  refine ⟨by omega,fun nb gz dI n hs=>?_⟩
  rcases hr r h1 with ⟨e1,e2⟩ | ⟨xV,v0,e0,n0,KG,v1,e1,n1,k1,k2,k3⟩
  ·rw [e2] at hs;rw [e1];exact h2 _ _ _ _ hs
  ·rw [k2] at hs;cases hs
   have:=(h2 _ _ _ _ k1).1
   exact ⟨by omega,fun e=>by omega⟩
 | fX r o0 k0 aA=>
  obtain ⟨h1,h2⟩:=hx
  refine ⟨by omega,fun hs=>?_⟩
  rcases hr r h1 with ⟨e1,e2⟩ | ⟨xV,v0,e0,n0,KG,v1,e1,n1,k1,k2,k3⟩
  ·rw [e2] at hs;rw [e1];exact h2 hs
  ·rw [k2] at hs;cases hs
 | yield r=>
  obtain ⟨h1,h2⟩:=hx
  refine ⟨by omega,fun hs=>?_⟩
  rcases hr r h1 with ⟨e1,e2⟩ | ⟨xV,v0,e0,n0,KG,v1,e1,n1,k1,k2,k3⟩
  ·rw [e2] at hs;rw [e1];exact h2 hs
  ·rw [k2] at hs;cases hs
 | mp r=>
  obtain ⟨h1,h2⟩:=hx
  refine ⟨by omega,fun hs=>?_⟩
  rcases hr r h1 with ⟨e1,e2⟩ | ⟨xV,v0,e0,n0,KG,v1,e1,n1,k1,k2,k3⟩
  ·rw [e2] at hs;rw [e1];exact h2 hs
  ·rw [k2] at hs;cases hs
 | _=>exact hx
end
def HP (C:cp) (ι:Nat->Nat) (rows:Rows) (H:af) (r:Nat):eJ->Prop
 | .lit cs=>∃ dE,H.get (ι r)=some (.cells dE)/\aQ (R2 ι rows) cs dE
 | .vec nb _ aA n cs=>cs.length=n*aA/\(∀ x∈cs,Cell x)/\(¬ (nb=true/\n=0)->H.get (ι r)=some (.cells cs))
 | .jR _ _ _ _=>True
 | .dM es clock=>H.get (ι r)=some (.map es clock)
 | .loop L=>∃ L':oD,H.get (ι r)=some (.loop L')/\L'.state=L.state/\L'.pending=L.pending/\(∃ g,C L.fn L.path=some (.rangeFunc g L'.params L'.assign L'.body))/\
   aQ (RV ι rows) L.tmps L'.tmps/\L.defers<rows.length/\sg rows L.defers=none/\L'.defers=ι L.defers
 | .deferred=>H.get (ι r)=some .deferred
def eJ.real:eJ->Prop
 | .vec nb _ _ n _=>¬ (nb=true/\n=0)
 | .jR _ _ _ _=>False
 | _=>True
structure aE (C:cp) (ι:Nat->Nat) (rows:Rows) (H:af):Prop where
 row:∀ r row,rows[r]?=some (some row)->HP C ι rows H r row
 inj:∀ r r' row cS,rows[r]?=some (some row)->rows[r']?=some (some cS)->row.real->cS.real->ι r=ι r'->r=r'
 ok:H.rev.length=H.n
 fH:H.fH=0
structure bX where
 tmps:List SV
 rows:Rows
 defers:List Nat
structure fg (C:cp) (ι:Nat->Nat) (s:bX) (σ:St):Prop where
 tmps:aQ (RV ι s.rows) s.tmps σ.tmps
 rows:aE C ι s.rows σ.H
 defers:σ.defers=s.defers.map ι
 mZ:∀ r∈s.defers,r<s.rows.length/\sg s.rows r=none
theorem HP.Fi {C:cp} {ι:Nat->Nat} {rows:Rows} {H:af} {r:Nat} {row:eJ} (h:HP C ι rows H r row) (hr:row.real):∃ ar,H.get (ι r)=some ar:=by
 cases row with
 | lit cs=>obtain ⟨dE,h,_⟩:=h;exact ⟨_,h⟩
 | vec nb aW aA n cs=>exact ⟨_,h.2.2 hr⟩
 | jR nb aW aA n=>exact hr.elim
 | dM es clock=>exact ⟨_,h⟩
 | loop L=>obtain ⟨L',h,_⟩:=h;exact ⟨_,h⟩
 | deferred=>exact ⟨_,h⟩
theorem HP.mono {C:cp} {ι ι':Nat->Nat} {rows ah:Rows} {H H':af} {r:Nat} {row:eJ} (h:HP C ι rows H r row) (le:Le ι rows ι' ah) (hι:row.real->ι' r=ι r/\∀ ar,H.get (ι r)=some ar->H'.get (ι r)=some ar)
  (hd:∀ s,s<rows.length->sg rows s=none->ι' s=ι s/\sg ah s=none):HP C ι' ah H' r row:=by
 cases row with
 | lit cs=>
  obtain ⟨dE,h1,h2⟩:=h
  obtain ⟨e,k⟩:=hι trivial
  exact ⟨dE,by rw [e];exact k _ h1,h2.mono fun _ _=>le.r2⟩
 | vec nb aW aA n cs=>
  obtain ⟨h1,h2,h3⟩:=h
  refine ⟨h1,h2,fun hn=>?_⟩
  obtain ⟨e,k⟩:=hι hn
  rw [e];exact k _ (h3 hn)
 | jR nb aW aA n=>trivial
 | dM es clock=>
  obtain ⟨e,k⟩:=hι trivial
  show H'.get (ι' r)=_
  rw [e];exact k _ h
 | loop L=>
  obtain ⟨L',h1,h2,h3,h4,h7,h8,h8',h9⟩:=h
  obtain ⟨e,k⟩:=hι trivial
  obtain ⟨d1,d2⟩:=hd _ h8 h8'
  exact ⟨L',by rw [e];exact k _ h1,h2,h3,h4,h7.mono fun _ _=>le.rv,Nat.lt_of_lt_of_le h8 le.len,d2,by rw [d1];exact h9⟩
 | deferred=>
  obtain ⟨e,k⟩:=hι trivial
  show H'.get (ι' r)=_
  rw [e];exact k _ h
end Go.Abs
end
noncomputable section
namespace Go.Abs
section
variable {C : cp} {ι : Nat → Nat} {rows : Rows} {H : af}
theorem lT {rows:Rows} {x:Option eJ} {r:Nat} {row:eJ} (h:(rows++[x])[r]?=some (some row)):(r<rows.length/\rows[r]?=some (some row))\/(r=rows.length/\x=some row):=by
 by_cases hr:r<rows.length
 ·rw [List.getElem?_append_left hr] at h;exact .inl ⟨hr,h⟩
 ·rw [List.getElem?_append_right (by omega)] at h
  have:r-rows.length=0:=by
   rcases Nat.eq_zero_or_pos (r-rows.length) with e | e
   ·exact e
   ·rw [List.getElem?_eq_none (by simp;omega)] at h;cases h
  rw [this] at h
  simp at h
  exact .inr ⟨by omega,h⟩
theorem qw {x:Option eJ} {r:Nat} (hr:r<rows.length):sg (rows++[x]) r=sg rows r:=by
 unfold sg;rw [List.getElem?_append_left hr]
theorem bQ {rows:Rows} {r:Nat} {x:Option eJ} (h:rows[r]?=some x):r<rows.length:=(List.getElem?_eq_some_iff.1 h).1
theorem aE.lt (hE:aE C ι rows H) {r:Nat} {row:eJ} (h:rows[r]?=some (some row)) (hr:row.real):ι r<H.n:=by
 obtain ⟨ar,ha⟩:=(hE.row r row h).Fi hr
 exact af.cT ha
theorem jr (ι:Nat->Nat) (rows:Rows) (x:Option eJ) (b:Nat):Le ι rows (put ι rows.length b) (rows++[x]):=
 Le.of (by simp) fun r hr=>.inl ⟨bD hr,qw hr⟩
theorem nE (ι:Nat->Nat) (rows:Rows) (x:Option eJ):Le ι rows ι (rows++[x]):=
 Le.of (by simp) fun r hr=>.inl ⟨rfl,qw hr⟩
theorem aE.ghost (hE:aE C ι rows H) (aA:Nat):aE C ι (rows++[some (.vec true 0 aA 0 [])]) H:=by
 have le:=nE ι rows (some (.vec true 0 aA 0 []))
 refine ⟨fun r row h=>?_,fun r r' row cS h h' hr gL e=>?_,hE.ok,hE.fH⟩
 ·rcases lT h with ⟨hl,h⟩ | ⟨e,k⟩
  ·exact (hE.row r row h).mono le (fun _=>⟨rfl,fun _ h=>h⟩) fun s hs h0=>⟨rfl,by rw [qw hs];exact h0⟩
  ·simp only [Option.some.injEq] at k;subst k;exact ⟨by simp,⟨fun x hx=>absurd hx (by simp),fun h=>absurd (And.intro (Eq.refl true) (Eq.refl 0)) h⟩⟩
 ·rcases lT h with ⟨hl,h⟩ | ⟨_,h⟩<;>rcases lT h' with ⟨nJ,h'⟩ | ⟨_,h'⟩
  ·exact hE.inj r r' row cS h h' hr gL e
  ·simp only [Option.some.injEq] at h';subst h';exact absurd ⟨rfl,rfl⟩ gL
  ·simp only [Option.some.injEq] at h;subst h;exact absurd ⟨rfl,rfl⟩ hr
  ·omega
theorem aE.push (hE:aE C ι rows H) (uw:eJ) (R4:eR) (hR:HP C (put ι rows.length H.n) (rows++[some uw]) (H.push R4) rows.length uw):
  aE C (put ι rows.length H.n) (rows++[some uw]) (H.push R4):=by
 have le:=jr ι rows (some uw) H.n
 refine ⟨fun r row h=>?_,fun r r' row cS h h' hr gL e=>?_,by simp [af.push,hE.ok],hE.fH⟩
 ·rcases lT h with ⟨hl,h⟩ | ⟨e,k⟩
  ·refine (hE.row r row h).mono le (fun hr=>⟨bD hl,fun ar ha=>?_⟩) fun s hs h0=>⟨bD hs,by rw [qw hs];exact h0⟩
   rw [af.dV (af.cT ha)];exact ha
  ·simp only [Option.some.injEq] at k;subst k;subst e;exact hR
 ·rcases lT h with ⟨hl,h⟩ | ⟨k,h⟩<;>rcases lT h' with ⟨nJ,h'⟩ | ⟨k',h'⟩
  ·rw [bD hl,bD nJ] at e;exact hE.inj r r' row cS h h' hr gL e
  ·rw [bD hl,k',aH] at e;have:=hE.lt h hr;omega
  ·rw [bD nJ,k,aH] at e;have:=hE.lt h' gL;omega
  ·omega
theorem eK {r s:Nat} {x:Option eJ} (h:r≠s):sg (rows.set r x) s=sg rows s:=by
 unfold sg;rw [List.getElem?_set_ne h]
theorem aE.Rp (hE:aE C ι rows H) {r:Nat} {j8:eJ} (h0:rows[r]?=some (some j8)) (Tc:j8.real) (uw:eJ) (R4:eR) (hsg:sg (rows.set r (some uw)) r=sg rows r)
  (hR:Le ι rows ι (rows.set r (some uw))->HP C ι (rows.set r (some uw)) (H.ij (ι r) R4) r uw):
  aE C ι (rows.set r (some uw)) (H.ij (ι r) R4)/\Le ι rows ι (rows.set r (some uw)):=by
 have cC:=bQ h0
 have le:Le ι rows ι (rows.set r (some uw)):=Le.of (by simp) fun s hs=>.inl ⟨rfl,by
  by_cases e:r=s
  ·subst e;exact hsg
  ·exact eK e⟩
 have split:∀ s row,(rows.set r (some uw))[s]?=some (some row)->(s=r/\row=uw)\/(s≠r/\rows[s]?=some (some row)):=by
  intro s row h
  by_cases e:r=s
  ·subst e
   rw [List.getElem?_set_self cC] at h
   simp only [Option.some.injEq] at h;exact .inl ⟨rfl,h.symm⟩
  ·rw [List.getElem?_set_ne e] at h;exact .inr ⟨fun h=>e h.symm,h⟩
 obtain ⟨ar0,ha0⟩:=(hE.row r j8 h0).Fi Tc
 have hrn:=af.cT ha0
 refine ⟨⟨fun s row h=>?_,fun s s' row cS h h' hr gL e=>?_,by simp [af.ij,hE.ok],hE.fH⟩,le⟩
 ·rcases split s row h with ⟨rfl,rfl⟩ | ⟨ek,h⟩
  ·exact hR le
  ·refine (hE.row s row h).mono le (fun hr=>⟨rfl,fun ar ha=>?_⟩) fun s hs h0=>⟨rfl,by
    by_cases e:r=s
    ·subst e;rw [hsg];exact h0
    ·rw [eK e];exact h0⟩
   rw [af.iS hE.ok _ hrn,if_neg]
   ·exact ha
   ·intro e;exact ek (hE.inj s r row j8 h h0 hr Tc e)
 ·rcases split s row h with ⟨e1,_⟩ | ⟨ek,k⟩<;>rcases split s' cS h' with ⟨e2,_⟩ | ⟨Mn,k'⟩
  ·rw [e1,e2]
  ·rw [e1] at e ⊢;exact hE.inj _ _ _ _ h0 k' Tc gL e
  ·rw [e2] at e ⊢;exact hE.inj _ _ _ _ k h0 hr Tc e
  ·exact hE.inj _ _ _ _ k k' hr gL e
theorem aE.move (hE:aE C ι rows H) {r:Nat} {nb:Bool} {aW aA n:Nat} {cs:List AV} (h0:rows[r]?=some (some (.vec nb aW aA n cs))) {m5:Bool} {n':Nat} {dE:List AV}
  (hn:¬ (m5=true/\n'=0)) (hl:dE.length=n' * aA) (hc:∀ x∈dE,Cell x) (H1:af) (OE:H1=if nb=true/\n=0 then H else H.kill (ι r)):
  aE C (put ι r H.n) (rows.set r (some (.vec m5 (aW+1) aA n' dE))) (H1.push (.cells dE))/\Le ι rows (put ι r H.n) (rows.set r (some (.vec m5 (aW+1) aA n' dE))):=by
 have cC:=bQ h0
 have sQ:∀ s,s≠r->put ι r H.n s=ι s:=fun s hs=>by unfold put;rw [if_neg hs]
 have sg0:sg rows r=some (nb,aW,aA,n):=by unfold sg;rw [h0]
 have sg1:sg (rows.set r (some (.vec m5 (aW+1) aA n' dE))) r=some (m5,aW+1,aA,n'):=by
  unfold sg;rw [List.getElem?_set_self cC]
 have le:Le ι rows (put ι r H.n) (rows.set r (some (.vec m5 (aW+1) aA n' dE))):=Le.of (by simp) fun s hs=>by
  by_cases e:r=s
  ·subst e;exact .inr ⟨_,_,_,_,_,_,_,_,sg0,sg1,Nat.lt_succ_self _⟩
  ·exact .inl ⟨sQ s (fun h=>e h.symm),eK e⟩
 have split:∀ s row,(rows.set r (some (.vec m5 (aW+1) aA n' dE)))[s]?=some (some row)->(s=r/\row=.vec m5 (aW+1) aA n' dE)\/(s≠r/\rows[s]?=some (some row)):=by
  intro s row h
  by_cases e:r=s
  ·subst e
   rw [List.getElem?_set_self cC] at h
   simp only [Option.some.injEq] at h;exact .inl ⟨rfl,h.symm⟩
  ·rw [List.getElem?_set_ne e] at h;exact .inr ⟨fun h=>e h.symm,h⟩
 have Wl:H1.n=H.n:=by rw [OE];split<;>rfl
 have afP:H1.rev.length=H1.n:=by
  rw [Wl,OE];split
  ·exact hE.ok
  ·simp [af.kill,hE.ok]
 have ads:H1.fH=0:=by
  rw [OE];split
  ·exact hE.fH
  ·exact hE.fH
 have aP:∀ s row,s≠r->rows[s]?=some (some row)->row.real->∀ ar,H.get (ι s)=some ar->(H1.push (.cells dE)).get (ι s)=some ar:=by
  intro s row hs h hr ar ha
  rw [af.dV (by rw [Wl];exact af.cT ha),OE]
  split
  ·exact ha
  ·rename_i Wv
   have hlr:=hE.lt h0 Wv
   rw [af.fa hE.ok hlr,if_neg]
   ·exact ha
   ·intro e;exact hs (hE.inj s r row _ h h0 hr Wv e)
 refine ⟨⟨fun s row h=>?_,fun s s' row cS h h' hr gL e=>?_,by simp [af.push,afP],ads⟩,le⟩
 ·rcases split s row h with ⟨rfl,rfl⟩ | ⟨ek,h⟩
  ·refine ⟨hl,hc,fun _=>?_⟩
   rw [aH,←Wl];exact af.cD
  ·refine (hE.row s row h).mono le (fun hr=>⟨sQ s ek,aP s row ek h hr⟩) fun q hq hq0=>?_
   have e:q≠r:=by intro h;rw [h,sg0] at hq0;cases hq0
   exact ⟨sQ q e,by rw [eK (fun h=>e h.symm)];exact hq0⟩
 ·rcases split s row h with ⟨e1,_⟩ | ⟨ek,k⟩<;>rcases split s' cS h' with ⟨e2,_⟩ | ⟨Mn,k'⟩
  ·rw [e1,e2]
  ·rw [e1,aH,sQ _ Mn] at e;have:=hE.lt k' gL;omega
  ·rw [e2,aH,sQ _ ek] at e;have:=hE.lt k hr;omega
  ·rw [sQ _ ek,sQ _ Mn] at e;exact hE.inj _ _ _ _ k k' hr gL e
end
end Go.Abs
end
noncomputable section
namespace Go.Abs
def S_ {α:Type} (x:α):α:=Classical.choose (⟨x,rfl⟩:∃ y:α,y=x)
theorem ab {α:Type} (x:α):S_ x=x:=Classical.choose_spec (⟨x,rfl⟩:∃ y:α,y=x)
def bO {α R:Type} (x:Option α) (f:α->Option R):Option R:=
 match x with
 | some a=>f a
 | none=>none
def gO {R:Type} (b:Bool) (x:Option R):Option R:=
 match b with
 | true=>x
 | false=>none
def cO {R:Type} (b:Bool) (x y:Option R):Option R:=
 match b with
 | true=>x
 | false=>y
section
variable {α R : Type} {b : Bool} {x y : Option R} {r : R}
theorem bE {x:Option α} {f:α->Option R} (h:bO x f=some r):∃ a,x=some a/\f a=some r:=by
 cases x with
 | none=>cases h
 | some a=>exact ⟨a,rfl,h⟩
theorem aD (h:gO b x=some r):b=true/\x=some r:=by
 cases b with
 | true=>exact ⟨rfl,h⟩
 | false=>cases h
theorem eQ {p:Prop} [Decidable p] (h:gO (decide p) x=some r):p/\x=some r:=by
 obtain ⟨h1,h2⟩:=aD h
 exact ⟨of_decide_eq_true h1,h2⟩
theorem aO {p:Prop} [Decidable p] (h:gO (S_ (decide p)) x=some r):p/\x=some r:=by
 rw [ab] at h
 exact eQ h
end
def SV.b1:SV->S1
 | .s (.o (.b x))=>x
 | _=>.top
def SV.aT (x:S1):SV:=.s (.o (.b x))
def E5:S1->Option AV
 | .bool b=>some (.bool b)
 | .int k n=>some (.int k n)
 | .aL k o=>some (.aL k o)
 | .string s=>some (.string s)
 | .list n cs=>some (.list n cs)
 | .nl n cs=>some (.nl n cs)
 | _=>none
def U_:AV->S1
 | .bool b=>.bool (S_ b)
 | .int k n=>.int k (S_ n)
 | .aL k o=>.aL k (S_ o)
 | .string s=>.string (S_ s)
 | _=>.top
section
variable {C : cp} {ι : Nat → Nat} {rows : Rows} {H : af} {P : Program}
theorem bo {x:SV} {v:AV} (h:RV ι rows x v):R1 ι rows x.b1 v:=by
 unfold SV.b1
 split
 ·exact h
 ·trivial
theorem RR (y:AV):R1 ι rows (U_ y) y:=by
 unfold U_
 split<;>first | (rw [ab];rfl) | rfl | trivial
theorem ib {x:S1} {v u:AV} (hx:R1 ι rows x v) (h:E5 x=some u):v=u/\Cell u:=by
 unfold E5 at h
 split at h<;>simp only [Option.some.injEq,reduceCtorEq] at h<;>subst h
 ·exact ⟨hx,.bool _⟩
 ·exact ⟨hx,.int _ _⟩
 ·exact ⟨hx,.aL _ _⟩
 ·exact ⟨hx,.string _⟩
 ·exact ⟨hx.1,.list _ _ hx.2⟩
 ·exact ⟨hx.1,.nl _ _ hx.2⟩
end
def Fk:BinOp->Bool
 | .shl | .shr=>true
 | _=>false
def nH:BinOp->Bool
 | .add | .sub | .mul | .quo=>true
 | _=>false
def u5 (op:BinOp) (k:FloatKind) (a b:Nat):Option Nat:=
 match op with
 | .add=>k.format.add a b
 | .sub=>k.format.sub a b
 | .mul=>k.format.mul a b
 | .quo=>k.format.div a b
 | _=>none
def fj (op:BinOp) (k:FloatKind) (a b:Option Nat):Option Nat:=
 match a,b with
 | some a,some b=>u5 op k a b
 | _,_=>none
def aM (k:FloatKind) (a b:Option Nat):Option Ordering:=
 match a,b with
 | some a,some b=>k.format.order a b
 | _,_=>none
section
variable {R : Type}
def Kt (x:Option AV) (K:S1->Option R):Option R:=
 match x with
 | some y=>K (U_ y)
 | none=>none
def aaI (op:BinOp) (k:IntKind) (a b:Int) (K:S1->Option R):Option R:=
 match op with
 | .quo=>gO (S_ (decide (b≠0))) (K (.int k (S_ (k.wrap (a.tdiv b)))))
 | .rem=>gO (S_ (decide (b≠0))) (K (.int k (S_ (a.tmod b))))
 | op=>Kt (IW op k a b) K
def Ku (op:BinOp) (k:IntKind) (a b:Int) (K:S1->Option R):Option R:=
 match op with
 | .shl=>gO (S_ (decide (0<=b))) (K (.int k (S_ (k.wrap (a*2 ^ min b.toNat k.bits)))))
 | .shr=>gO (S_ (decide (0<=b))) (K (.int k (S_ (a.fdiv (2 ^ min b.toNat k.bits)))))
 | _=>none
def aaJ (op:BinOp) (k:FloatKind) (a b:Option Nat) (K:S1->Option R):Option R:=
 match nH op with
 | true=>K (.aL k (S_ (fj op k a b)))
 | false=>Kt (Pv op (aM k a b)) K
def Kv (op:BinOp) (a b:ByteArray) (K:S1->Option R):Option R:=
 match op with
 | .add=>gO (S_ (decide (a.data.toList.length+b.data.toList.length<=4611686018427387904))) (K (.string (S_ ⟨(a.data.toList++b.data.toList).toArray⟩)))
 | op=>Kt (MS op a b) K
def aaK (P:Program) (op:BinOp) (t:TypeId) (cx cy:Bool) (x y:S1) (K:S1->Option R):Option R:=
 match x with
 | .int k a=>match y with
  | .int k' b=>match Fk op with
   | true=>Ku op k a b K
   | false=>gO (decide (k=k')) (aaI op k a b K)
  | _=>none
 | .aL k a=>match y with
  | .aL k' b=>gO (decide (k=k')) (aaJ op k a b K)
  | _=>none
 | .string a=>match y with
  | .string b=>Kv op a b K
  | _=>none
 | .bool a=>match y with
  | .bool b=>Kt (fW P op t cx cy (.bool a) (.bool b)) K
  | _=>none
 | _=>none
end
section
variable {C : cp} {ι : Nat → Nat} {rows : Rows} {H : af} {P : Program} {R : Type} {r : R}
theorem qv {x:Option AV} {K:S1->Option R} (h:Kt x K=some r):∃ z ys,x=some z/\R1 ι rows ys z/\K ys=some r:=by
 cases x with
 | none=>cases h
 | some y=>exact ⟨y,U_ y,rfl,RR y,h⟩
theorem Va {op:BinOp} {k:IntKind} {a b:Int} {K:S1->Option R} (h:aaI op k a b K=some r):∃ z ys,IW op k a b=some z/\R1 ι rows ys z/\K ys=some r:=by
 unfold aaI at h
 split at h
 ·obtain ⟨h1,h2⟩:=aO h
  rw [ab] at h2
  exact ⟨_,_,by simp only [IW];rw [if_neg h1],(show R1 ι rows (.int k _) (.int k _) from rfl),h2⟩
 ·obtain ⟨h1,h2⟩:=aO h
  rw [ab] at h2
  exact ⟨_,_,by simp only [IW];rw [if_neg h1],(show R1 ι rows (.int k _) (.int k _) from rfl),h2⟩
 ·exact qv h
theorem Oi {op:BinOp} {k:IntKind} {a b:Int} {K:S1->Option R} (h:Ku op k a b K=some r):∃ z ys,rm op k a b=some z/\R1 ι rows ys z/\K ys=some r:=by
 unfold Ku at h
 split at h
 ·obtain ⟨h1,h2⟩:=aO h
  rw [ab] at h2
  exact ⟨_,_,by simp only [rm];rw [if_neg (by omega)],(show R1 ι rows (.int k _) (.int k _) from rfl),h2⟩
 ·obtain ⟨h1,h2⟩:=aO h
  rw [ab] at h2
  exact ⟨_,_,by simp only [rm];rw [if_neg (by omega)],(show R1 ι rows (.int k _) (.int k _) from rfl),h2⟩
 ·cases h
def Wq (op:BinOp) (k:FloatKind) (a b:Option Nat):Option AV:=
 match a,b with
 | some a,some b=>Pq op k a b
 | _,_=>pW op k
theorem Vb {op:BinOp} {k:FloatKind} {a b:Option Nat} {K:S1->Option R} (h:aaJ op k a b K=some r):∃ z ys,Wq op k a b=some z/\R1 ι rows ys z/\K ys=some r:=by
 unfold aaJ at h
 rw [ab] at h
 split at h
 ·rename_i ha
  refine ⟨.aL k (fj op k a b),.aL k (fj op k a b),?_,rfl,h⟩
  cases a with
  | none=>cases op<;>simp only [nH,Bool.false_eq_true] at ha<;>rfl
  | some a=>
   cases b with
   | none=>cases op<;>simp only [nH,Bool.false_eq_true] at ha<;>rfl
   | some b=>
    simp only [Wq,fj]
    cases hr:u5 op k a b<;>cases op<;>simp only [nH,Bool.false_eq_true] at ha<;>simp only [u5] at hr<;>simp only [Pq,hr,pX]
 ·rename_i ha
  obtain ⟨z,ys,h1,h2,h3⟩:=qv (ι:=ι) (rows:=rows) h
  refine ⟨z,ys,?_,h2,h3⟩
  cases a with
  | none=>cases op<;>simp only [nH,reduceCtorEq] at ha<;>exact h1
  | some a=>
   cases b with
   | none=>cases op<;>simp only [nH,reduceCtorEq] at ha<;>exact h1
   | some b=>cases op<;>simp only [nH,reduceCtorEq] at ha<;>exact h1
theorem Oj {op:BinOp} {a b:ByteArray} {K:S1->Option R} (h:Kv op a b K=some r):∃ z ys,MS op a b=some z/\R1 ι rows ys z/\K ys=some r:=by
 unfold Kv at h
 split at h
 ·obtain ⟨h1,h2⟩:=aO h
  rw [ab] at h2
  exact ⟨_,_,by simp only [MS];rw [if_pos h1],(show R1 ι rows (.string _) (.string _) from rfl),h2⟩
 ·exact qv h
theorem Vc {op:BinOp} {t:TypeId} {cx cy:Bool} {x y:S1} {v u:AV} {K:S1->Option R} (h:aaK P op t cx cy x y K=some r) (hx:R1 ι rows x v) (hy:R1 ι rows y u):
  ∃ z ys,fW P op t cx cy v u=some z/\R1 ι rows ys z/\K ys=some r:=by
 unfold aaK at h
 split at h
 ·rename_i k a
  split at h
  ·rename_i k' b
   have hx:v=.int k a:=hx
   have hy:u=.int k' b:=hy
   subst hx;subst hy
   split at h
   ·rename_i hs
    obtain ⟨z,ys,h1,h2,h3⟩:=Oi (ι:=ι) (rows:=rows) h
    refine ⟨z,ys,?_,h2,h3⟩
    cases op<;>simp only [Fk,Bool.false_eq_true] at hs<;>exact h1
   ·rename_i hs
    obtain ⟨e,h⟩:=eQ h
    obtain ⟨z,ys,h1,h2,h3⟩:=Va (ι:=ι) (rows:=rows) h
    refine ⟨z,ys,?_,h2,h3⟩
    cases op<;>simp only [Fk,reduceCtorEq] at hs<;>simp only [fW]<;>rw [if_pos e]<;>exact h1
  ·cases h
 ·rename_i k a
  have hx:v=.aL k a:=hx
  subst hx
  split at h
  ·rename_i k' b
   have hy:u=.aL k' b:=hy
   subst hy
   obtain ⟨e,h⟩:=eQ h
   obtain ⟨z,ys,h1,h2,h3⟩:=Vb (ι:=ι) (rows:=rows) h
   refine ⟨z,ys,?_,h2,h3⟩
   cases a<;>cases b<;>cases op<;>simp only [fW]<;>rw [if_pos e]<;>exact h1
  ·cases h
 ·rename_i a
  have hx:v=.string a:=hx
  subst hx
  split at h
  ·rename_i b
   have hy:u=.string b:=hy
   subst hy
   obtain ⟨z,ys,h1,h2,h3⟩:=Oj (ι:=ι) (rows:=rows) h
   exact ⟨z,ys,by cases op<;>exact h1,h2,h3⟩
  ·cases h
 ·rename_i a
  have hx:v=.bool a:=hx
  subst hx
  split at h
  ·rename_i b
   have hy:u=.bool b:=hy
   subst hy
   exact qv h
  ·cases h
 ·cases h
end
end Go.Abs
end
noncomputable section
namespace Go.Abs
def nW (rows:Rows) (r aW:Nat):Bool:=
 match sg rows r with
 | some (_,v,_,_)=>Nat.beq aW v
 | none=>false
def we (rows:Rows):S1->Bool
 | .top=>false
 | .own r aW _=>nW rows r aW
 | .gk r aW _=>nW rows r aW
 | .sub r aW _ _ _=>nW rows r aW
 | .fX r _ _ _=>(sg rows r).isNone
 | .ptr r _=>(sg rows r).isNone
 | .yield r=>(sg rows r).isNone
 | .mp r=>(sg rows r).isNone
 | .raw x=>x.one
 | _=>true
def U8 (rows:Rows):S2->Bool
 | .b x=>we rows x
 | .fn _ _ _=>true
def wg (rows:Rows):SV->Option (List S2)
 | .s (.o x)=>match U8 rows x with
  | true=>some [x]
  | false=>none
 | .s (.agg cs)=>match cs.all (U8 rows) with
  | true=>some cs
  | false=>none
 | _=>none
def RN:List S2->Nat->List S2->List S2
 | cs,_,[]=>cs
 | cs,off,x::xs=>RN (cs.set off x) (off+1) xs
def toCell:S2->Option AV
 | .b x=>E5 x
 | _=>none
def jH:List S2->Option (List AV)
 | []=>some []
 | x::xs=>match toCell x,jH xs with
  | some v,some vs=>some (v::vs)
  | _,_=>none
section
variable {C : cp} {ι : Nat → Nat} {rows : Rows} {H : af} {P : Program} {R : Type} {r : R}
theorem dR {q aW:Nat} (h:nW rows q aW=true):∃ nb aA n,sg rows q=some (nb,aW,aA,n):=by
 unfold nW at h
 split at h
 ·rename_i nb v aA n hs
  have:=Nat.eq_of_beq_eq_true h
  subst this
  exact ⟨nb,aA,n,hs⟩
 ·cases h
theorem RO {x:S1} {v:AV} (hx:R1 ι rows x v) (h:we rows x=true):v.one=true:=by
 cases x with
 | top=>cases h
 | own q aW aA=>
  obtain ⟨nb,e,n,hs⟩:=dR h
  obtain ⟨_,hv⟩:=(hx.2 _ _ _ _ hs).2 rfl
  rw [hv];unfold dc;split<;>rfl
 | gk q aW off=>
  obtain ⟨nb,e,n,hs⟩:=dR h
  rw [(hx.2 _ _ _ _ hs).2 rfl];rfl
 | sub q aW off n aA=>
  obtain ⟨nb,e,m,hs⟩:=dR h
  obtain ⟨_,hv⟩:=hx.2 _ _ _ _ hs
  obtain ⟨_,_,hv⟩:=hv rfl
  unfold mS at hv
  split at hv
  ·rw [hv];rfl
  ·rcases hv with hv | ⟨_,hv⟩<;>rw [hv]<;>rfl
 | fX q off n aA=>
  rw [hx.2 (by simpa [we] using h)];rfl
 | ptr q off=>
  rw [hx.2 (by simpa [we] using h)];rfl
 | yield q=>
  rw [hx.2 (by simpa [we] using h)];rfl
 | mp q=>
  rw [hx.2 (by simpa [we] using h)];rfl
 | raw x=>
  have hx:v=x:=hx
  rw [hx];exact h
 | bool b=>have hx:v=_:=hx;rw [hx];rfl
 | int k n=>have hx:v=_:=hx;rw [hx];rfl
 | aL k o=>have hx:v=_:=hx;rw [hx];cases o<;>rfl
 | string s=>have hx:v=_:=hx;rw [hx];rfl
 | list n cs=>rw [hx.1];rfl
 | nl n cs=>rw [hx.1];rfl
 | fm cs off=>rw [hx.1];rfl
theorem HE {x:S2} {v:AV} (hx:R2 ι rows x v) (h:U8 rows x=true):v.one=true:=by
 cases x with
 | b x=>exact RO hx h
 | fn f a b=>obtain ⟨_,_,e,_⟩:=hx;rw [e];rfl
theorem Of {v:AV} (h:v.one=true):v.known=true/\v.cells=[v]:=by
 cases v<;>first | exact ⟨rfl,rfl⟩ | simp [AV.one] at h
theorem RP {cs:List S2} {dE:List AV} (h:aQ (R2 ι rows) cs dE) (hc:cs.all (U8 rows)=true):dE.all AV.one=true:=by
 induction h with
 | nil=>rfl
 | cons h _ ih=>
  simp only [List.all_cons,Bool.and_eq_true] at hc ⊢
  exact ⟨HE h hc.1,ih hc.2⟩
theorem qu {x:SV} {v:AV} {cs:List S2} (hx:RV ι rows x v) (h:wg rows x=some cs):v.known=true/\aQ (R2 ι rows) cs v.cells/\v.cells.all AV.one=true:=by
 unfold wg at h
 split at h
 ·rename_i y
  split at h
  ·rename_i hc
   simp only [Option.some.injEq] at h;subst h
   have h1:v.one=true:=HE hx hc
   obtain ⟨h2,h3⟩:=Of h1
   rw [h3]
   exact ⟨h2,.cons hx .nil,by simp [h1]⟩
  ·cases h
 ·split at h
  ·rename_i hc
   simp only [Option.some.injEq] at h;subst h
   obtain ⟨dE,e,ha⟩:=hx
   subst e
   exact ⟨rfl,ha,RP ha hc⟩
  ·cases h
 ·cases h
theorem BD:∀ (xs:List S2) (vs:List AV) (cs:List S2) (dE:List AV) (off:Nat),aQ (R2 ι rows) xs vs->aQ (R2 ι rows) cs dE->aQ (R2 ι rows) (RN cs off xs) (ag dE off vs)
 | [],[],cs,dE,off,_,h=>h
 | x::xs,v::vs,cs,dE,off,.cons h t,hc=>BD xs vs _ _ (off+1) t (hc.set h off)
theorem Kq {x:S2} {v u:AV} (hx:R2 ι rows x v) (h:toCell x=some u):v=u/\Cell u:=by
 cases x with
 | b x=>exact ib hx h
 | fn=>cases h
theorem eP:∀ {xs:List S2} {vs us:List AV},aQ (R2 ι rows) xs vs->jH xs=some us->vs=us/\∀ u∈us,Cell u
 | [],[],us,_,h=>by simp only [jH,Option.some.injEq] at h;subst h;exact ⟨rfl,fun u hu=>by cases hu⟩
 | x::xs,v::vs,us,.cons hx ht,h=>by
  simp only [jH] at h
  split at h
  ·rename_i a as h1 h2
   simp only [Option.some.injEq] at h;subst h
   obtain ⟨e1,c1⟩:=Kq hx h1
   obtain ⟨e2,c2⟩:=eP ht h2
   refine ⟨by rw [e1,e2],fun u hu=>?_⟩
   rcases List.mem_cons.1 hu with rfl | hu
   ·exact c1
   ·exact c2 u hu
  ·cases h
end
inductive CK where
 | int (k:IntKind)
 | bool
 | float (k:FloatKind)
 | string
 | list
 | nl
def asInt (k:IntKind):AV->Option Int
 | .int k' n=>if k'=k then some n else none
 | _=>none
def asBool:AV->Option Bool
 | .bool b=>some b
 | _=>none
def aq (k:FloatKind):AV->Option (Option Nat)
 | .aL k' o=>if k'=k then some o else none
 | _=>none
def asString:AV->Option ByteArray
 | .string s=>some s
 | _=>none
def cZ:AV->Option (Nat × List AV)
 | .list n cs=>some (n,cs)
 | _=>none
def aaG:AV->Option (Nat × List AV)
 | .nl n cs=>some (n,cs)
 | _=>none
def kindOf (P:Program) (t:TypeId):Option CK:=
 match P.underlying t with
 | some (.int k)=>some (.int k)
 | some .bool=>some .bool
 | some (.float k)=>some (.float k)
 | some .string=>some .string
 | some (.slice e)=>match P.underlying e with
  | some (.int .u64)=>some .nl
  | _=>some .list
 | _=>none
def yA (P:Program):Nat->TypeId->Option (List CK)
 | 0,_=>none
 | d+1,t=>match P.underlying t with
  | some (.struct fs)=>L9 P (yA P d) fs.toList
  | some (.array n e)=>match yA P d e with
   | some ks=>some ((List.range n).flatMap fun _=>ks)
   | none=>none
  | _=>match kindOf P t with
   | some k=>some [k]
   | none=>none
 where L9 (P:Program) (f:TypeId->Option (List CK)):List Field->Option (List CK)
 | []=>some []
 | fd::fs=>match f fd.type,L9 P f fs with
  | some a,some b=>some (a++b)
  | _,_=>none
section
variable {R : Type}
def E8 (k:CK) (v:AV) (K:S2->Option R):Option R:=
 match k with
 | .int k=>bO (asInt k v) fun n=>K (.b (.int k n))
 | .bool=>bO (asBool v) fun b=>K (.b (.bool b))
 | .float k=>bO (aq k v) fun n=>K (.b (.aL k n))
 | .string=>bO (asString v) fun s=>K (.b (.string s))
 | .list=>bO (cZ v) fun p=>K (.b (.list p.1 p.2))
 | .nl=>bO (aaG v) fun p=>K (.b (.nl p.1 p.2))
def U9:List CK->List AV->Nat->(List S2->Option R)->Option R
 | [],_,_,K=>K []
 | k::ks,cs,off,K=>E8 k (cs.getD off .top) fun c=>U9 ks cs (off+1) fun l=>K (c::l)
def me:TypeDesc->Bool
 | .struct _ | .array _ _=>true
 | _=>false
def L_ (P:Program) (t:TypeId) (d:TypeDesc) (size:Nat) (cs:List AV) (off:Nat) (K:SV->Option R):Option R:=
 match me d with
 | true=>match yA P 8 t with
  | some ks=>match Nat.beq ks.length size with
   | true=>gO (S_ (decide (off+size<=cs.length))) (U9 ks cs off fun l=>K (.s (.agg l)))
   | false=>none
  | none=>none
 | false=>match kindOf P t with
  | some k=>E8 k (cs.getD off .top) fun c=>K (.s (.o c))
  | none=>none
def L2 (P:Program) (rows:Rows) (t:TypeId) (x:S1) (K:SV->Option R):Option R:=
 match P.underlying t,P.info? t with
 | some d,some i=>match x with
  | .ptr r off=>match rows[r]? with
   | some (some (.lit cs))=>match me d with
    | true=>gO (decide (off+i.size<=cs.length)) (K (.s (.agg ((cs.drop off).take i.size))))
    | false=>match cs[off]? with
     | some c=>K (.s (.o c))
     | none=>none
   | _=>none
  | .gk r aW off=>match rows[r]? with
   | some (some (.vec nb v aA n cs))=>match Nat.beq aW v with
    | true=>gO (S_ (!(nb&&Nat.beq n 0))) (L_ P t d i.size cs off K)
    | false=>none
   | _=>none
  | .fm cs off=>L_ P t d i.size cs off K
  | _=>none
 | _,_=>none
end
section
variable {C : cp} {ι : Nat → Nat} {rows : Rows} {H : af} {P : Program} {R : Type} {r : R}
theorem E9 {k:CK} {v:AV} {K:S2->Option R} (h:E8 k v K=some r) (hp:Cell v):∃ c,R2 ι rows c v/\K c=some r/\v≠.top:=by
 cases k with
 | int k=>
  obtain ⟨n,h1,h2⟩:=bE h
  unfold asInt at h1
  split at h1
  ·split at h1
   ·rename_i e;subst e
    simp only [Option.some.injEq] at h1;subst h1
    exact ⟨.b (.int _ _),(rfl:R1 ι rows (.int _ _) _),h2,by simp⟩
   ·cases h1
  ·cases h1
 | bool=>
  obtain ⟨n,h1,h2⟩:=bE h
  unfold asBool at h1
  split at h1
  ·simp only [Option.some.injEq] at h1;subst h1
   exact ⟨.b (.bool _),(rfl:R1 ι rows (.bool _) _),h2,by simp⟩
  ·cases h1
 | float k=>
  obtain ⟨n,h1,h2⟩:=bE h
  unfold aq at h1
  split at h1
  ·split at h1
   ·rename_i e;subst e
    simp only [Option.some.injEq] at h1;subst h1
    exact ⟨.b (.aL _ _),(rfl:R1 ι rows (.aL _ _) _),h2,by simp⟩
   ·cases h1
  ·cases h1
 | string=>
  obtain ⟨n,h1,h2⟩:=bE h
  unfold asString at h1
  split at h1
  ·simp only [Option.some.injEq] at h1;subst h1
   exact ⟨.b (.string _),(rfl:R1 ι rows (.string _) _),h2,by simp⟩
  ·cases h1
 | list=>
  obtain ⟨n,h1,h2⟩:=bE h
  unfold cZ at h1
  split at h1
  ·simp only [Option.some.injEq] at h1;subst h1
   cases hp with
   | list _ _ hc=>exact ⟨.b (.list _ _),(⟨rfl,hc⟩:R1 ι rows (.list _ _) _),h2,by simp⟩
  ·cases h1
 | nl=>
  obtain ⟨n,h1,h2⟩:=bE h
  unfold aaG at h1
  split at h1
  ·simp only [Option.some.injEq] at h1;subst h1
   cases hp with
   | nl _ _ hc=>exact ⟨.b (.nl _ _),(⟨rfl,hc⟩:R1 ι rows (.nl _ _) _),h2,by simp⟩
  ·cases h1
theorem getD_some {cs:List AV} {off:Nat} (h:cs.getD off .top≠.top):cs[off]?=some (cs.getD off .top):=by
 rw [List.getD_eq_getElem?_getD] at h ⊢
 cases hc:cs[off]? with
 | none=>rw [hc] at h;exact absurd rfl h
 | some v=>rfl
theorem Dr {cs:List AV} (hp:∀ x∈cs,Cell x) {off:Nat} (h:cs.getD off .top≠.top):Cell (cs.getD off .top):=by
 rw [List.getD_eq_getElem?_getD] at h ⊢
 cases hc:cs[off]? with
 | none=>rw [hc] at h;exact absurd rfl h
 | some v=>exact hp v (List.mem_of_getElem? hc)
theorem HF {k:CK} {K:S2->Option R} (h:E8 k .top K=some r):False:=by
 cases k<;>simp [E8,asInt,asBool,aq,asString,cZ,aaG,bO] at h
theorem Ma:∀ (ks:List CK) (cs:List AV) (off:Nat) (K:List S2->Option R),U9 ks cs off K=some r->(∀ x∈cs,Cell x)->
  ∃ l,aQ (R2 ι rows) l ((cs.drop off).take ks.length)/\K l=some r
 | [],cs,off,K,h,_=>⟨[],by simp;exact .nil,h⟩
 | k::ks,cs,off,K,h,hp=>by
  have hnt:cs.getD off .top≠.top:=by
   intro e;rw [U9,e] at h;exact HF h
  obtain ⟨c,h1,h2,h3⟩:=E9 (ι:=ι) (rows:=rows) h (Dr hp hnt)
  obtain ⟨l,h4,h5⟩:=Ma ks cs (off+1) _ h2 hp
  refine ⟨c::l,?_,h5⟩
  have hg:=getD_some h3
  have cC:off<cs.length:=(List.getElem?_eq_some_iff.1 hg).1
  have e:cs.drop off=cs.getD off .top::cs.drop (off+1):=by
   rw [List.drop_eq_getElem_cons cC]
   congr 1
   have:=(List.getElem?_eq_some_iff.1 hg).2
   exact this
  rw [e,List.length_cons,List.take_succ_cons]
  exact .cons h1 h4
theorem BE {d:TypeDesc} {n off:Nat} {cs:List AV} (h:me d=true) (hl:off+n<=cs.length):nf d n cs off=some (.agg ((cs.drop off).take n)):=by
 cases d<;>first | (simp [me] at h;done) | (simp only [nf];rw [if_pos hl])
theorem xq {d:TypeDesc} {n off:Nat} {cs:List AV} (h:me d=false):nf d n cs off=cs[off]?:=by
 cases d<;>first | (simp [me] at h;done) | rfl
theorem HG {t:TypeId} {d:TypeDesc} {size:Nat} {cs:List AV} {off:Nat} {K:SV->Option R} (h:L_ P t d size cs off K=some r) (hp:∀ x∈cs,Cell x):
  ∃ y ys,nf d size cs off=some y/\RV ι rows ys y/\K ys=some r:=by
 unfold L_ at h
 split at h
 ·rename_i ha
  split at h
  ·rename_i ks hk
   split at h
   ·rename_i hn
    have hn:=Nat.eq_of_beq_eq_true hn
    obtain ⟨h1,h2⟩:=aO h
    obtain ⟨l,h3,h4⟩:=Ma (ι:=ι) (rows:=rows) ks cs off _ h2 hp
    exact ⟨_,.s (.agg l),BE ha h1,⟨_,rfl,by rw [hn] at h3;exact h3⟩,h4⟩
   ·cases h
  ·cases h
 ·rename_i ha
  split at h
  ·rename_i k hk
   have hnt:cs.getD off .top≠.top:=by
    intro e;rw [e] at h;exact HF h
   obtain ⟨c,h1,h2,h3⟩:=E9 (ι:=ι) (rows:=rows) h (Dr hp hnt)
   exact ⟨_,.s (.o c),by rw [xq ha];exact getD_some h3,h1,h2⟩
  ·cases h
theorem fG {q:Nat} {cs:List AV} (h:H.get q=some (.cells cs)):rowOf H q=some cs:=by
 unfold rowOf;rw [h]
theorem Ds (hE:aE C ι rows H) {q:Nat} {nb:Bool} {aW aA n:Nat} {cs:List AV} (h:rows[q]?=some (some (.vec nb aW aA n cs))) (hn:(!(nb&&Nat.beq n 0))=true):
  H.get (ι q)=some (.cells cs)/\(∀ x∈cs,Cell x)/\cs.length=n*aA/\¬ (nb=true/\n=0):=by
 obtain ⟨h1,h2,h3⟩:=hE.row q _ h
 have hn':¬ (nb=true/\n=0):=by
  rintro ⟨rfl,rfl⟩
  simp at hn
 exact ⟨h3 hn',h2,h1,hn'⟩
theorem dk {q:Nat} {nb:Bool} {aW aA n:Nat} {cs:List AV} (h:rows[q]?=some (some (.vec nb aW aA n cs))):sg rows q=some (nb,aW,aA,n):=by
 unfold sg;rw [h]
theorem iP {q:Nat} {cs:List S2} (h:rows[q]?=some (some (.lit cs))):sg rows q=none:=by
 unfold sg;rw [h]
theorem Hy (hE:aE C ι rows H) {t:TypeId} {x:S1} {v:AV} {K:SV->Option R} (hx:R1 ι rows x v) (h:L2 P rows t x K=some r):
  ∃ y ys,nN P H t v=some y/\RV ι rows ys y/\K ys=some r:=by
 unfold L2 at h
 split at h
 ·rename_i d i hd hi
  unfold nN
  rw [hd,hi]
  split at h
  ·rename_i q off
   split at h
   ·rename_i cs aG
    have hv:=hx.2 (iP aG)
    subst hv
    obtain ⟨dE,h1,h2⟩:=hE.row _ _ aG
    simp only [fG h1]
    split at h
    ·rename_i ha
     obtain ⟨h3,h4⟩:=eQ h
     exact ⟨_,.s (.agg _),BE ha (by rw [←h2.length];exact h3),⟨_,rfl,(h2.drop off).take i.size⟩,h4⟩
    ·rename_i ha
     split at h
     ·rename_i c hc
      obtain ⟨y,hy,hr⟩:=h2.get hc
      exact ⟨y,.s (.o c),by rw [xq ha];exact hy,hr,h⟩
     ·cases h
   ·cases h
  ·rename_i q aW off
   split at h
   ·rename_i nb v' aA n cs aG
    split at h
    ·rename_i ef
     have:=Nat.eq_of_beq_eq_true ef
     subst this
     obtain ⟨hn,h⟩:=aD h
     rw [ab] at hn
     obtain ⟨h1,h2,h3,_⟩:=Ds hE aG hn
     have hv:=(hx.2 _ _ _ _ (dk aG)).2 rfl
     subst hv
     simp only [fG h1]
     exact HG h h2
    ·cases h
   ·cases h
  ·rename_i cs off
   obtain ⟨hv,hp⟩:=hx
   subst hv
   exact HG h hp
  ·cases h
 ·cases h
end
end Go.Abs
end
noncomputable section
namespace Go.Abs
section
variable {R : Type}
def sN (P:Program) (s:TypeId) (x:S1) (f:Nat) (K:S1->Option R):Option R:=
 match P.underlying s with
 | some (.struct fs)=>match fs[f]? with
  | some fd=>match P.info? fd.type with
   | some i=>match Nat.beq i.size 0 with
    | true=>none
    | false=>match x with
     | .ptr r off=>K (.ptr r (off+fd.offset))
     | .gk r aW off=>K (.gk r aW (off+fd.offset))
     | .fm cs off=>K (.fm cs (off+fd.offset))
     | _=>none
   | none=>none
  | none=>none
 | _=>none
def sO (P:Program) (rows:Rows) (t:TypeId) (x ix:S1) (K:S1->Option R):Option R:=
 match ix with
 | .int _ n=>match P.underlying t with
  | some (.slice e)=>match P.info? e with
   | some i=>match x with
    | .own r aW aA=>match rows[r]? with
     | some (some (.vec nb v es len cs))=>match Nat.beq aW v with
      | true=>gO (S_ (decide (0<=n/\n<len))) (K (.gk r aW (n.toNat*i.size)))
      | false=>none
     | _=>none
    | .list len cells=>gO (S_ (decide (0<=n/\n<len/\0<cells.length))) (K (.fm cells (n.toNat*i.size)))
    | .sub r aW off len aA=>gO (S_ (decide (0<=n/\n<len))) (K (.gk r aW (off*aA+n.toNat*i.size)))
    | .fX r off len aA=>gO (S_ (decide (0<=n/\n<len))) (K (.ptr r (off+n.toNat*i.size)))
    | _=>none
   | none=>none
  | some (.array len e)=>match P.info? e with
   | some i=>match x with
    | .ptr r off=>gO (S_ (decide (0<=n/\n<len))) (K (.ptr r (off+n.toNat*i.size)))
    | .gk r aW off=>gO (S_ (decide (0<=n/\n<len))) (K (.gk r aW (off+n.toNat*i.size)))
    | .fm cells off=>gO (S_ (decide (0<=n/\n<len))) (K (.fm cells (off+n.toNat*i.size)))
    | _=>none
   | none=>none
  | _=>none
 | _=>none
def Kr (P:Program) (rows:Rows) (t:TypeId) (x:S1) (y:SV) (K:Rows->Option R):Option R:=
 match P.info? t with
 | some inf=>match wg rows y with
  | some ys=>match Nat.beq ys.length inf.size with
   | true=>match x with
    | .ptr r off=>match rows[r]? with
     | some (some (.lit cs))=>gO (decide (off+ys.length<=cs.length)) (K (rows.set r (some (.lit (RN cs off ys)))))
     | _=>none
    | .gk r aW off=>match rows[r]? with
     | some (some (.vec nb v aA n cs))=>match Nat.beq aW v with
      | true=>match jH ys with
       | some vs=>gO (S_ (!(nb&&Nat.beq n 0))) (gO (S_ (decide (off+ys.length<=cs.length))) (K (rows.set r (some (.vec nb v aA n (ag cs off vs))))))
       | none=>none
      | false=>none
     | _=>none
    | _=>none
   | false=>none
  | none=>none
 | none=>none
end
def RQ (P:Program) (t:TypeId):Option Nat:=
 match P.underlying t with
 | some (.slice e)=>match P.info? e with
  | some i=>some i.size
  | none=>none
 | _=>none
def BF (P:Program) (t:TypeId):List (Option Nat):=
 match P.underlying t with
 | some (.slice _)=>[RQ P t]
 | some (.struct fs)=>fs.toList.flatMap fun f=>match P.info? f.type with
  | some i=>match Nat.beq i.size 1 with
   | true=>[RQ P f.type]
   | false=>List.replicate i.size none
  | none=>[]
 | _=>[]
def mU:AV->S1
 | .bool b=>.bool b
 | .int k n=>.int k n
 | .aL k o=>.aL k o
 | .string s=>.string s
 | .nl 0 []=>.nl 0 []
 | x=>.raw x
def U':List (Option Nat)->Option Nat
 | some e::_=>some e
 | _=>none
def jI:List AV->List (Option Nat)->Rows->List S2 × Rows
 | [],_,rows=>([],rows)
 | z::zs,gs,rows=>match z,U' gs with
  | .av,some e=>match jI zs gs.tail (rows++[some (.vec true 0 e 0 [])]) with
   | (cs,ah)=>(.b (.own rows.length 0 e)::cs,ah)
  | z,_=>match jI zs gs.tail rows with
   | (cs,ah)=>(.b (mU z)::cs,ah)
def BA (rows:Rows) (place:Nat->Option (Nat × Nat)):List S2->List (Nat × SV)->Option (List S2)
 | cs,[]=>some cs
 | cs,(k,x)::rest=>
  match place k with
  | none=>none
  | some (off,size)=>match wg rows x with
   | some xs=>match Nat.beq xs.length size&&decide (off+size<=cs.length) with
    | true=>BA rows place (RN cs off xs) rest
    | false=>none
   | none=>none
def Ks (P:Program) (rows:Rows) (t:TypeId) (parts:List (Nat × SV)):Option SV:=
 match P.underlying t,zeroOf P t with
 | some (.struct fs),some z=>match Cu P fs.toList with
  | some l=>match BA rows (fun k=>l[k]?) (z.cells.map fun v=>.b (mU v)) parts with
   | some cs=>some (.s (.agg cs))
   | none=>none
  | none=>none
 | some (.array _ e),some z=>match P.info? e with
  | some inf=>match BA rows (fun k=>some (k*inf.size,inf.size)) (z.cells.map fun v=>.b (mU v)) parts with
   | some cs=>some (.s (.agg cs))
   | none=>none
  | none=>none
 | _,_=>none
section
variable {C : cp} {ι : Nat → Nat} {rows : Rows} {H : af} {P : Program} {R : Type} {r : R}
theorem Cm {s:TypeId} {x:S1} {v:AV} {f:Nat} {K:S1->Option R} (hx:R1 ι rows x v) (h:sN P s x f K=some r) (hc:we rows x=true):
  ∃ y ys,gq P s v f=some y/\R1 ι rows ys y/\K ys=some r:=by
 unfold sN at h
 unfold gq
 split at h
 ·rename_i fs hu
  rw [hu]
  split at h
  ·rename_i fd hf
   simp only [hf]
   split at h
   ·rename_i i hi
    simp only [hi]
    split at h
    ·cases h
    ·rename_i h0
     rw [if_neg (by intro e;rw [e] at h0;cases h0)]
     split at h
     ·rename_i q off
      have hs:sg rows q=none:=by simpa [we] using hc
      rw [hx.2 hs]
      exact ⟨_,.ptr _ _,rfl,⟨hx.1,fun _=>rfl⟩,h⟩
     ·rename_i q aW off
      obtain ⟨nb,e,n,hs⟩:=dR (rows:=rows) hc
      rw [(hx.2 _ _ _ _ hs).2 rfl]
      refine ⟨_,.gk _ _ _,rfl,⟨hx.1,fun m5 v' e' n' et=>?_⟩,h⟩
      rw [hs] at et;cases et
      exact ⟨Nat.le_refl _,fun _=>rfl⟩
     ·rename_i cs off
      rw [hx.1]
      exact ⟨_,.fm _ _,rfl,⟨rfl,hx.2⟩,h⟩
     ·cases h
   ·cases h
  ·cases h
 ·cases h
theorem Cn (hE:aE C ι rows H) {t:TypeId} {x ix:S1} {v iv:AV} {K:S1->Option R} (hx:R1 ι rows x v) (hi:R1 ι rows ix iv) (h:sO P rows t x ix K=some r) (hc:we rows x=true):
  ∃ y ys,gr P t v iv=some y/\R1 ι rows ys y/\K ys=some r:=by
 unfold sO at h
 unfold gr
 split at h
 ·rename_i k n
  have hi:iv=.int k n:=hi
  subst hi
  simp only
  split at h
  ·rename_i e hu
   split at h
   ·rename_i i bt
    split at h
    ·rename_i q aW aA
     split at h
     ·rename_i nb v' es len cs aG
      split at h
      ·rename_i ef
       have:=Nat.eq_of_beq_eq_true ef
       subst this
       obtain ⟨hb,h⟩:=aO h
       have hs:=dk aG
       obtain ⟨_,he,hv⟩:=(hx.2 _ _ _ _ hs).imp id fun k=>k rfl
       have hlen:len≠0:=by rintro rfl;omega
       have hv2:v=.slice (ι q) 0 len aA:=by
        rw [hv];unfold dc;rw [if_neg (by rintro ⟨_,e⟩;exact hlen e)]
       subst hv2
       simp only [hu,bt]
       rw [if_pos hb]
       refine ⟨_,.gk _ _ _,rfl,⟨hx.1,fun m5 v' e' n' et=>?_⟩,h⟩
       rw [hs] at et;cases et
       exact ⟨Nat.le_refl _,fun _=>by simp⟩
      ·cases h
     ·cases h
    ·rename_i len cells
     obtain ⟨hb,h⟩:=aO h
     have hv:=hx.1
     subst hv
     simp only [hu,bt]
     rw [if_pos hb]
     exact ⟨_,.fm _ _,rfl,⟨rfl,hx.2⟩,h⟩
    ·rename_i q aW off len aA
     obtain ⟨hb,h⟩:=aO h
     obtain ⟨nb,e2,m,hs⟩:=dR (rows:=rows) hc
     obtain ⟨e3,hle,hv⟩:=(hx.2 _ _ _ _ hs).2 rfl
     unfold mS at hv
     have hm:¬ (nb=true/\m=0):=fun hm=>by omega
     rw [if_neg hm] at hv
     rcases hv with hv | ⟨n9,_⟩
     ·subst hv
      simp only [hu,bt]
      rw [if_pos hb]
      refine ⟨_,.gk _ _ _,rfl,⟨hx.1,fun m5 v' e' n' et=>?_⟩,h⟩
      rw [hs] at et;cases et
      exact ⟨Nat.le_refl _,fun _=>rfl⟩
     ·omega
    ·rename_i q off len aA
     obtain ⟨hb,h⟩:=aO h
     have hs:sg rows q=none:=by simpa [we] using hc
     rw [hx.2 hs]
     simp only [hu,bt]
     rw [if_pos hb]
     exact ⟨_,.ptr _ _,rfl,⟨hx.1,fun _=>rfl⟩,h⟩
    ·cases h
   ·cases h
  ·rename_i len e hu
   split at h
   ·rename_i i bt
    split at h
    ·rename_i q off
     obtain ⟨hb,h⟩:=aO h
     have hs:sg rows q=none:=by simpa [we] using hc
     rw [hx.2 hs]
     simp only [hu,bt]
     rw [if_pos hb]
     exact ⟨_,.ptr _ _,rfl,⟨hx.1,fun _=>rfl⟩,h⟩
    ·rename_i q aW off
     obtain ⟨hb,h⟩:=aO h
     obtain ⟨nb,e,n,hs⟩:=dR (rows:=rows) hc
     rw [(hx.2 _ _ _ _ hs).2 rfl]
     simp only [hu,bt]
     rw [if_pos hb]
     refine ⟨_,.gk _ _ _,rfl,⟨hx.1,fun m5 v' e' n' et=>?_⟩,h⟩
     rw [hs] at et;cases et
     exact ⟨Nat.le_refl _,fun _=>rfl⟩
    ·rename_i cells off
     obtain ⟨hb,h⟩:=aO h
     rw [hx.1]
     simp only [hu,bt]
     rw [if_pos hb]
     exact ⟨_,.fm _ _,rfl,⟨rfl,hx.2⟩,h⟩
    ·cases h
   ·cases h
  ·cases h
 ·cases h
theorem wk (hE:aE C ι rows H) {q:Nat} {cs:List AV} (h:H.get q=some (.cells cs)):iy H q=some cs:=by
 unfold iy;rw [if_pos (by rw [hE.fH];exact Nat.zero_le _)];exact fG h
theorem nG:∀ (xs cs:List AV) (off:Nat) (x:AV),x∈ag cs off xs->x∈cs\/x∈xs
 | [],cs,off,x,h=>.inl h
 | y::ys,cs,off,x,h=>by
  rcases nG ys _ _ x h with h | h
  ·rcases List.mem_or_eq_of_mem_set h with h | h
   ·exact .inl h
   ·exact .inr (by rw [h];exact List.mem_cons_self)
  ·exact .inr (List.mem_cons_of_mem _ h)
theorem Og (hE:aE C ι rows H) {t:TypeId} {x:S1} {y:SV} {v u:AV} {K:Rows->Option R} (hx:R1 ι rows x v) (hy:RV ι rows y u) (h:Kr P rows t x y K=some r):
  ∃ H' ah,n5 P H t v u=some H'/\aE C ι ah H'/\Le ι rows ι ah/\K ah=some r:=by
 unfold Kr at h
 unfold n5
 split at h
 ·rename_i inf bt
  split at h
  ·rename_i ys hys
   obtain ⟨k1,k2,k3⟩:=qu hy hys
   split at h
   ·rename_i hl
    have hl:=Nat.eq_of_beq_eq_true hl
    have hul:u.cells.length=inf.size:=by rw [←k2.length,hl]
    split at h
    ·rename_i q off
     split at h
     ·rename_i cs aG
      obtain ⟨hb,h⟩:=eQ h
      have hv:=hx.2 (iP aG)
      subst hv
      obtain ⟨dE,g1,g2⟩:=hE.row _ _ aG
      simp only [wk hE g1,bt]
      rw [if_pos (by simp [k1,hul,k3];rw [←g2.length,←hl];exact hb)]
      have:=hE.Rp aG trivial (.lit (RN cs off ys)) (.cells (ag dE off u.cells)) (by
       unfold sg;rw [List.getElem?_set_self (bQ aG),aG]) fun le=>by
        refine ⟨_,?_,BD _ _ _ _ _ (k2.mono fun _ _=>le.r2) (g2.mono fun _ _=>le.r2)⟩
        rw [af.iS hE.ok _ (af.cT g1),if_pos rfl]
      exact ⟨_,_,rfl,this.1,this.2,h⟩
     ·cases h
    ·rename_i q aW off
     split at h
     ·rename_i nb v' aA n cs aG
      split at h
      ·rename_i ef
       have:=Nat.eq_of_beq_eq_true ef
       subst this
       split at h
       ·rename_i vs jJ
        obtain ⟨hn,h⟩:=aD h
        rw [ab] at hn
        obtain ⟨hb,h⟩:=aO h
        obtain ⟨g1,g2,g3,g4⟩:=Ds hE aG hn
        have hv:=(hx.2 _ _ _ _ (dk aG)).2 rfl
        subst hv
        obtain ⟨e1,e2⟩:=eP k2 jJ
        simp only [wk hE g1,bt]
        rw [if_pos (by simp [k1,hul,k3];rw [←hl];exact hb)]
        rw [e1]
        have:=hE.Rp aG g4 (.vec nb aW aA n (ag cs off vs)) (.cells (ag cs off vs)) (by
         unfold sg;rw [List.getElem?_set_self (bQ aG),aG]) fun le=>by
          refine ⟨by rw [df];exact g3,fun z hz=>?_,fun _=>?_⟩
          ·rcases nG _ _ _ _ hz with hz | hz
           ·exact g2 z hz
           ·exact e2 z hz
          ·rw [af.iS hE.ok _ (af.cT g1),if_pos rfl]
        exact ⟨_,_,rfl,this.1,this.2,h⟩
       ·cases h
      ·cases h
     ·cases h
    ·cases h
   ·cases h
  ·cases h
 ·cases h
theorem mV (x:AV):R1 ι rows (mU x) x:=by
 unfold mU
 split<;>first | rfl | exact ⟨rfl,fun x h=>by cases h⟩
theorem sP:∀ (zs:List AV) (gs:List (Option Nat)) (rows:Rows),aE C ι rows H->
  aE C ι (jI zs gs rows).2 H/\Le ι rows ι (jI zs gs rows).2/\aQ (R2 ι (jI zs gs rows).2) (jI zs gs rows).1 zs
 | [],gs,rows,hE=>⟨hE,Le.refl _ _,.nil⟩
 | z::zs,gs,rows,hE=>by
  unfold jI
  split
  ·rename_i e he
   have h1:=hE.ghost e
   have Cc:=nE ι rows (some (.vec true 0 e 0 []))
   obtain ⟨h2,h3,h4⟩:=sP zs gs.tail _ h1
   refine ⟨h2,Cc.trans h3,.cons (h3.r2 (x:=.b (.own rows.length 0 e)) ⟨by simp,fun nb v e' n hs=>?_⟩) h4⟩
   unfold sg at hs
   rw [List.getElem?_append_right (Nat.le_refl _)] at hs
   simp only [Nat.sub_self,List.getElem?_cons_zero,Option.some.injEq,Prod.mk.injEq] at hs
   obtain ⟨rfl,rfl,rfl,rfl⟩:=hs
   exact ⟨Nat.le_refl _,fun _=>⟨rfl,by simp [dc]⟩⟩
  ·obtain ⟨h2,h3,h4⟩:=sP zs gs.tail rows hE
   exact ⟨h2,h3,.cons (mV _) h4⟩
theorem uj {place:Nat->Option (Nat × Nat)}:∀ (ps:List (Nat × SV)) (mi:List (Nat × AV)) (cs out:List S2) (dE:List AV),BA rows place cs ps=some out->
  aQ (fun p q=>p.1=q.1/\RV ι rows p.2 q.2) ps mi->aQ (R2 ι rows) cs dE->∃ adm,gd place dE mi=some adm/\aQ (R2 ι rows) out adm
 | [],[],cs,out,dE,h,_,hc=>by simp only [BA,Option.some.injEq] at h;subst h;exact ⟨dE,rfl,hc⟩
 | (k,x)::ps,(k',v)::mi,cs,out,dE,h,.cons hp ht,hc=>by
  obtain ⟨e,hv⟩:=hp
  simp only at e hv
  subst e
  simp only [BA] at h
  simp only [gd]
  split at h
  ·cases h
  ·rename_i off size Mw
   simp only [Mw]
   split at h
   ·rename_i xs W5
    split at h
    ·rename_i hb
     simp only [Bool.and_eq_true,decide_eq_true_eq] at hb
     obtain ⟨k1,k2,k3⟩:=qu hv W5
     have hl:v.cells.length=size:=by rw [←k2.length];exact Nat.eq_of_beq_eq_true hb.1
     rw [if_pos (by simp [k1,hl];rw [←hc.length];exact hb.2)]
     exact uj ps mi _ out _ h ht (BD _ _ _ _ _ k2 hc)
    ·cases h
   ·cases h
theorem Oh {t:TypeId} {parts:List (Nat × SV)} {k_:List (Nat × AV)} {y:SV} (hp:aQ (fun p q=>p.1=q.1/\RV ι rows p.2 q.2) parts k_) (h:Ks P rows t parts=some y):
  ∃ z,yS P t k_=some z/\RV ι rows y z:=by
 unfold Ks at h
 unfold yS
 have zc:∀ (z:AV),aQ (R2 ι rows) (z.cells.map fun v=>.b (mU v)) z.cells:=by
  intro z
  have:=aQ.of_map (R:=R2 ι rows) (fun v=>.b (mU v)) id z.cells fun v _=>mV v
  simpa using this
 split at h
 ·rename_i fs z hu hz
  split at h
  ·rename_i l hl
   split at h
   ·rename_i cs te
    simp only [Option.some.injEq] at h;subst h
    obtain ⟨out,h1,h2⟩:=uj parts k_ _ _ _ te hp (zc z)
    exact ⟨.agg out,by simp only [hu,hz,hl,h1];rfl,_,rfl,h2⟩
   ·cases h
  ·cases h
 ·rename_i n e z hu hz
  split at h
  ·rename_i inf bt
   split at h
   ·rename_i cs te
    simp only [Option.some.injEq] at h;subst h
    obtain ⟨out,h1,h2⟩:=uj parts k_ _ _ _ te hp (zc z)
    exact ⟨.agg out,by simp only [hu,hz,bt,h1];rfl,_,rfl,h2⟩
   ·cases h
  ·cases h
 ·cases h
end
end Go.Abs
end
noncomputable section
namespace Go.Abs
def Ww : AV → Bool
  | .bool _ | .int _ _ | .aL _ _ | .string _ | .list _ _ | .nl 0 [] => true
  | _ => false
def mW (rows : Rows) : List (Nat × SV) → Option (List (Nat × List AV))
  | [] => some []
  | (k, x) :: ps => match wg rows x with
    | some ys => match jH ys, mW rows ps with
      | some vs, some l => some ((k, vs) :: l)
      | _, _ => none
    | none => none
def HU (place : Nat → Option (Nat × Nat)) : List AV → List (Nat × List AV) → Option (List AV)
  | cs, [] => some cs
  | cs, (k, x) :: rest =>
    match place k with
    | none => none
    | some (off, size) => match Nat.beq x.length size && decide (off + size ≤ cs.length) with
      | true => HU place (ag cs off x) rest
      | false => none
section
variable {R : Type}
def lV (P : Program) (rows : Rows) (t : TypeId) (len : Nat) (parts : List (Nat × SV)) (K : S1 → Rows → Option R) : Option R :=
  match P.underlying t with
  | some (.slice e) => match P.info? e, zeroOf P e with
    | some inf, some z => match decide (len * inf.size ≤ 16777216) && z.cells.length == inf.size with
      | true => match mW rows parts with
        | some ps => match HU (fun k => some (k * inf.size, inf.size)) (aX z.cells (len * inf.size)) ps with
          | some cs => match cs.all Ww && Nat.beq cs.length (len * inf.size) with
            | true => K (.own rows.length 0 inf.size) (rows ++ [some (.vec false 0 inf.size len cs)])
            | false => none
          | none => none
        | none => none
      | false => none
    | _, _ => none
  | _ => none
def sR (P : Program) (rows : Rows) (t : TypeId) (l c : S1) (K : S1 → Rows → Option R) : Option R :=
  match l, c with
  | .int _ l, .int _ c => match P.underlying t with
    | some (.slice e) => match P.info? e, zeroOf P e with
      | some inf, some z => match (z.cells.all Ww && Nat.beq z.cells.length inf.size) && !z.cells.isEmpty with
        | true => gO (S_ (decide (0 ≤ l ∧ l ≤ c ∧ c ≤ 281474976710656 ∧ inf.bytes * c ≤ 281474976710656)))
            (K (.own rows.length 0 inf.size) (rows ++ [some (.vec false 0 inf.size l.toNat (aX z.cells (l.toNat * inf.size)))]))
        | false => none
      | _, _ => none
    | _ => none
  | _, _ => none
def Se : Option S1 → Option Int
  | none => some 0
  | some (.int _ n) => some n
  | _ => none
def Wx (len : Nat) : Option S1 → Option Int
  | none => some len
  | some (.int _ n) => some n
  | _ => none
def Vm (P : Program) (rows : Rows) (e : TypeId) (n : Nat) (x : S1) (lo hi : Option S1) (K : S1 → Option R) : Option R :=
  match P.info? e with
  | some inf => match x with
    | .ptr r off => match lo, hi with
      | none, none => match rows[r]? with
        | some (some (.lit cs)) => gO (decide (off + n * inf.size ≤ cs.length)) (K (.fX r off n inf.size))
        | _ => none
      | _, _ => none
    | .fm cs off => match Se lo, Wx n hi with
      | some l, some h => gO (S_ (decide (0 ≤ l ∧ l ≤ h ∧ h ≤ (n : Int)))) (gO (S_ (decide (off + n * inf.size ≤ cs.length))) (K (.list (h.toNat - l.toNat) ((cs.drop (off + l.toNat * inf.size)).take ((h.toNat - l.toNat) * inf.size)))))
      | _, _ => none
    | _ => none
  | none => none
def KI (P : Program) (rows : Rows) (t : TypeId) (x : S1) (lo hi : Option S1) (K : S1 → Option R) : Option R :=
  match P.underlying t with
  | some .string => match x with
    | .string s => match Se lo, Wx s.data.toList.length hi with
      | some l, some h => gO (S_ (decide (0 ≤ l ∧ l ≤ h ∧ h ≤ (s.data.toList.length : Int)))) (K (.string ⟨((s.data.toList.drop l.toNat).take (h.toNat - l.toNat)).toArray⟩))
      | _, _ => none
    | _ => none
  | some (.slice e) => match P.info? e with
    | some inf => match x with
      | .list len cs => match Se lo, Wx len hi with
        | some l, some h => gO (S_ (decide (0 ≤ l ∧ l ≤ h ∧ h ≤ (len : Int)))) (gO (S_ (decide (len * inf.size = cs.length))) (match Nat.beq inf.size 0 with | true => none | false => K (.list (h.toNat - l.toNat) ((cs.drop (l.toNat * inf.size)).take ((h.toNat - l.toNat) * inf.size)))))
        | _, _ => none
      | .own r aW _ => match sg rows r with
        | some (_, v, es, m) => match Nat.beq aW v && Nat.beq es inf.size with
          | true => match Se lo, Wx m hi with
            | some l, some h => gO (S_ (decide (0 ≤ l ∧ l ≤ h ∧ h ≤ (m : Int)))) (K (.sub r aW l.toNat (h.toNat - l.toNat) es))
            | _, _ => none
          | false => none
        | none => none
      | .sub r aW off n es => match nW rows r aW && Nat.beq es inf.size with
        | true => match Se lo, Wx n hi with
          | some l, some h => gO (S_ (decide (0 ≤ l ∧ l ≤ h ∧ h ≤ (n : Int)))) (K (.sub r aW (off + l.toNat) (h.toNat - l.toNat) es))
          | _, _ => none
        | false => none
      | _ => none
    | none => none
  | some (.pointer a) => match P.underlying a with
    | some (.array n e) => Vm P rows e n x lo hi K
    | _ => none
  | some (.array n e) => Vm P rows e n x lo hi K
  | _ => none
def Fq (P : Program) (t : TypeId) (x : S1) (lo : Option S1) (hi mx : S1) (K : S1 → Option R) : Option R :=
  match P.underlying t with
  | some (.slice e) => match P.info? e with
    | some inf => match x with
      | .list len cs => match Se lo, hi, mx with
        | some l, .int _ h, .int _ m => gO (S_ (decide (0 ≤ l ∧ l ≤ h ∧ h ≤ m ∧ m ≤ (len : Int)))) (gO (S_ (decide (len * inf.size = cs.length))) (match Nat.beq inf.size 0 with | true => none | false => K (.list (h.toNat - l.toNat) ((cs.drop (l.toNat * inf.size)).take ((h.toNat - l.toNat) * inf.size)))))
        | _, _, _ => none
      | _ => none
    | none => none
  | _ => none
def aaS (P : Program) (rows : Rows) (t : TypeId) (x : S1) (K : S1 → Option R) : Option R :=
  match P.underlying t with
  | some .string => match x with
    | .string s => K (.int .i64 s.data.toList.length)
    | _ => none
  | some (.array n _) => K (.int .i64 n)
  | some (.slice _) => match x with
    | .raw .av => K (.int .i64 0)
    | .own r aW _ => match sg rows r with
      | some (_, v, _, n) => match Nat.beq aW v with
        | true => K (.int .i64 n)
        | false => none
      | none => none
    | .list n _ => K (.int .i64 n)
    | .nl n _ => K (.int .i64 n)
    | .sub r aW _ n _ => match nW rows r aW with
      | true => K (.int .i64 n)
      | false => none
    | .fX r _ n _ => match (sg rows r).isNone with
      | true => K (.int .i64 n)
      | false => none
    | _ => none
  | some (.pointer a) => match P.underlying a with
    | some (.array n _) => K (.int .i64 n)
    | _ => none
  | _ => none
def Vn (rows : Rows) (size : Nat) (x : S1) (K : Nat → List AV → Option R) : Option R :=
  match x with
  | .raw .av => K 0 []
  | .own r aW aA => match rows[r]? with
    | some (some (.vec _ v es n cs)) => match Nat.beq aW v && Nat.beq es size with
      | true => K n cs
      | false => none
    | _ => none
  | .sub r aW off n aA => match rows[r]? with
    | some (some (.vec _ v es m cs)) => match Nat.beq aW v && Nat.beq es size with
      | true => K n ((cs.drop (off * size)).take (n * size))
      | false => none
    | _ => none
  | .fX r off n aA => match rows[r]? with
    | some (some (.lit cs)) => match Nat.beq aA size with
      | true => match jH cs with
        | some us => gO (decide (off + n * size ≤ us.length)) (K n ((us.drop off).take (n * size)))
        | none => none
      | false => none
    | _ => none
  | .list n cs => gO (S_ (decide (cs.length = n * size))) (K n cs)
  | .string s => match Nat.beq size 1 with
    | true => K s.data.toList.length (fJ s)
    | false => none
  | _ => none
def KJ (P : Program) (rows : Rows) (xT : TypeId) (inf : TypeInfo) (z : AV) (x : S1) (K : Nat → List AV → Option R) : Option R :=
  match P.underlying xT with
  | some (.int _) => match x with
    | .int _ n => match z.cells.all Ww && Nat.beq z.cells.length inf.size && !z.cells.isEmpty && Nat.ble inf.bytes 1048576 with
      | true => gO (S_ (decide (0 ≤ n ∧ n ≤ 1048576))) (K n.toNat (aX z.cells (n.toNat * inf.size)))
      | false => none
    | _ => none
  | some _ => Vn rows inf.size x K
  | none => none
def Sf (P : Program) (rows : Rows) (dT : TypeId) (d s : S1) (K : S1 → Rows → Option R) : Option R :=
  match P.underlying dT with
  | some (.slice e) => match P.info? e with
    | some inf => Vn rows inf.size s fun n2 ys => match d with
      | .own r aW _ => match rows[r]? with
        | some (some (.vec nb v es m cs)) => match Nat.beq aW v && Nat.beq es inf.size with
          | true => K (.int .i64 (S_ ((Nat.min n2 m : Nat) : Int))) (rows.set r (some (.vec nb v es m (ag cs 0 (ys.take (Nat.min n2 m * inf.size))))))
          | false => none
        | _ => none
      | .sub r aW off k _ => match rows[r]? with
        | some (some (.vec nb v es m cs)) => match Nat.beq aW v && Nat.beq es inf.size with
          | true => K (.int .i64 (S_ ((Nat.min n2 k : Nat) : Int))) (rows.set r (some (.vec nb v es m (ag cs (off * inf.size) (ys.take (Nat.min n2 k * inf.size))))))
          | false => none
        | _ => none
      | _ => none
    | none => none
  | _ => none
def KK (P : Program) (rows : Rows) (t : TypeId) (x : S1) (K : Rows → Option R) : Option R :=
  match x with
  | .own r aW _ => match P.underlying t with
    | some (.slice e) => match P.info? e, zeroOf P e with
      | some inf, some z => match rows[r]? with
        | some (some (.vec nb v es m cs)) => match Nat.beq aW v && Nat.beq es inf.size && (z.cells.all Ww && Nat.beq z.cells.length inf.size && !z.cells.isEmpty) with
          | true => K (rows.set r (some (.vec nb v es m (aX z.cells (m * inf.size)))))
          | false => none
        | _ => none
      | _, _ => none
    | _ => none
  | _ => none
def Fs (P : Program) (rows : Rows) (sT xT : TypeId) (s x : S1) (K : S1 → Rows → Option R) : Option R :=
  match P.underlying sT with
  | some (.slice e) => match P.info? e, zeroOf P e with
    | some inf, some z => match z.cells.length == inf.size with
      | true => KJ P rows xT inf z x fun n2 ys => match s with
        | .own r aW _ => match rows[r]? with
          | some (some (.vec nb v es n cs)) => match Nat.beq aW v && Nat.beq es inf.size with
            | true => gO (S_ (decide ((n + n2) * (inf.bytes + 1) ≤ 549755813888))) (K (.own r (aW + 1) es) (rows.set r (some (.vec nb (aW + 1) es (n + n2) (cs ++ ys)))))
            | false => none
          | _ => none
        | .raw .av => gO (S_ (decide (n2 * (inf.bytes + 1) ≤ 549755813888))) (K (.own rows.length 0 inf.size) (rows ++ [some (.vec true 0 inf.size n2 ys)]))
        | _ => none
      | false => none
    | _, _ => none
  | _ => none
end
section
variable {C : cp} {ι : Nat → Nat} {rows : Rows} {H : af} {P : Program} {R : Type} {r : R}
theorem uy : ∀ {ps : List (Nat × SV)} {mi : List (Nat × AV)} {l : List (Nat × List AV)}, aQ (fun p q => p.1 = q.1 ∧ RV ι rows p.2 q.2) ps mi → mW rows ps = some l →
    aQ (fun (p : Nat × List AV) (q : Nat × AV) => p.1 = q.1 ∧ q.2.known = true ∧ q.2.cells = p.2 ∧ ∀ x ∈ p.2, Cell x) l mi
  | [], [], l, _, h => by simp only [mW, Option.some.injEq] at h; subst h; exact .nil
  | (k, x) :: ps, (k', v) :: mi, l, .cons hp ht, h => by
    simp only [mW] at h
    split at h
    · rename_i ys hys
      split at h
      · rename_i vs l' h1 h2
        simp only [Option.some.injEq] at h; subst h
        obtain ⟨k1, k2, _⟩ := qu hp.2 hys
        obtain ⟨e1, e2⟩ := eP k2 h1
        exact .cons ⟨hp.1, k1, e1, e2⟩ (uy ht h2)
      · cases h
    · cases h
theorem HV {place : Nat → Option (Nat × Nat)} : ∀ {ps : List (Nat × List AV)} {mi : List (Nat × AV)} {cs out : List AV},
    aQ (fun (p : Nat × List AV) (q : Nat × AV) => p.1 = q.1 ∧ q.2.known = true ∧ q.2.cells = p.2 ∧ ∀ x ∈ p.2, Cell x) ps mi → HU place cs ps = some out →
    gd place cs mi = some out ∧ ∀ x ∈ out, x ∈ cs ∨ Cell x
  | [], [], cs, out, _, h => by simp only [HU, Option.some.injEq] at h; subst h; exact ⟨rfl, fun x hx => .inl hx⟩
  | (k, xs) :: ps, (k', v) :: mi, cs, out, .cons hp ht, h => by
    obtain ⟨e, hk, hc, cP⟩ := hp
    simp only at e hk hc cP
    subst e
    simp only [HU] at h
    simp only [gd]
    split at h
    · cases h
    · rename_i off size Mw
      simp only [Mw]
      split at h
      · rename_i hb
        simp only [Bool.and_eq_true, decide_eq_true_eq] at hb
        have hl : xs.length = size := Nat.eq_of_beq_eq_true hb.1
        rw [if_pos (by simp [hk, hc, hl]; exact hb.2), hc]
        obtain ⟨h1, h2⟩ := HV ht h
        refine ⟨h1, fun x hx => ?_⟩
        rcases h2 x hx with hx | hx
        · rcases nG _ _ _ _ hx with hx | hx
          · exact .inl hx
          · exact .inr (cP x hx)
        · exact .inr hx
      · cases h
theorem xy (v : Value) (n : Nat) (cs : List AV) : qE v ≠ .list n cs := by
  unfold qE
  repeat' split
  all_goals simp
theorem KL (v : Value) : (qE v).cells = [qE v] := by
  unfold qE
  repeat' split
  all_goals rfl
theorem KM (v : Value) (n : Nat) (cs : List AV) : ∀ x ∈ (cM v).cells, x ≠ .list n cs := by
  intro x hx
  have h1 : ∀ v : Value, x ∈ (qE v).cells → x ≠ .list n cs := by
    intro v hx
    rw [KL] at hx
    simp only [List.mem_singleton] at hx
    subst hx
    exact xy v n cs
  cases v with
  | agg vs =>
    simp only [cM, AV.cells, List.mem_map] at hx
    obtain ⟨a, _, rfl⟩ := hx
    exact xy a n cs
  | tuple vs => rw [show (cM (.tuple vs)).cells = [cM (.tuple vs)] from rfl] at hx; simp at hx; subst hx; simp [cM]
  | iface t v => rw [show (cM (.iface t v)).cells = [cM (.iface t v)] from rfl] at hx; simp at hx; subst hx; simp [cM]
  | _ => simp only [cM] at hx; exact h1 _ hx
theorem wv {x : AV} : ∀ (fs : List Bool) (cs : List AV), x ∈ wC fs cs → x ∈ cs ∨ x = .nl 0 []
  | [], cs, h => by cases cs <;> exact .inl h
  | f :: fs, [], h => by rw [Cr] at h; cases h
  | f :: fs, c :: cs, h => by
    unfold wC at h
    split at h
    · rename_i e1 e2
      simp only [List.cons.injEq] at e1 e2
      obtain ⟨rfl, rfl⟩ := e1
      obtain ⟨rfl, rfl⟩ := e2
      rcases List.mem_cons.1 h with h | h
      · exact .inr h
      · rcases wv fs cs h with h | h
        · exact .inl (List.mem_cons_of_mem _ h)
        · exact .inr h
    · rename_i e1 e2
      simp only [List.cons.injEq] at e1 e2
      obtain ⟨rfl, rfl⟩ := e1
      obtain ⟨rfl, rfl⟩ := e2
      rcases List.mem_cons.1 h with h | h
      · exact .inl (by rw [h]; exact List.mem_cons_self)
      · rcases wv fs cs h with h | h
        · exact .inl (List.mem_cons_of_mem _ h)
        · exact .inr h
    · exact .inl h
theorem KN {P : Program} {t : TypeId} {x z : AV} (h : x ∈ (uK P t z).cells) : x ∈ z.cells ∨ x = .nl 0 [] := by
  unfold uK at h
  split at h
  · exact wv _ _ h
  · split at h
    · exact .inr (by simpa [AV.cells] using h)
    · exact .inl h
  · exact .inl h
theorem jl {t : TypeId} {z : AV} (h : zeroOf P t = some z) (n : Nat) (cs : List AV) : ∀ x ∈ z.cells, x ≠ .list n cs := by
  unfold zeroOf at h
  split at h
  · split at h
    · split at h
      · simp only [Option.some.injEq] at h; subst h
        intro x hx
        rcases KN hx with hx | rfl
        · exact KM _ n cs x hx
        · simp
      · cases h
    · cases h
  · cases h
theorem pI {x : AV} (h : Ww x = true) (hl : ∀ n cs, x ≠ .list n cs) : Cell x := by
  cases x <;> first
    | (simp [Ww] at h; done)
    | exact .bool _
    | exact .int _ _
    | exact .aL _ _
    | exact .string _
    | exact absurd rfl (hl _ _)
    | (rename_i n cs
       simp only [Ww] at h
       split at h <;> first
         | (cases h; done)
         | (rename_i e; first | (cases e; exact .nl 0 [] fun x h => by cases h) | cases e))
theorem lp {z : List AV} {n : Nat} (hz : z ≠ []) : ∀ x ∈ aX z n, x ∈ z := by
  intro x hx
  simp only [aX, List.mem_map, List.mem_range] at hx
  obtain ⟨j, _, rfl⟩ := hx
  have hp : 0 < z.length := List.length_pos_iff.2 hz
  have := Nat.mod_lt j hp
  rw [List.getElem?_eq_getElem this]
  exact List.getElem_mem this
theorem lW (z : List AV) (n : Nat) : (aX z n).length = n := by simp [aX]
theorem yr {b : Nat} {nb : Bool} {aA n : Nat} {cs : List AV} : R1 (put ι rows.length b) (rows ++ [some (.vec nb 0 aA n cs)]) (.own rows.length 0 aA) (dc b nb aA n) := by
  refine ⟨by simp, fun m5 v' e' n' hs => ?_⟩
  unfold sg at hs
  rw [List.getElem?_append_right (Nat.le_refl _)] at hs
  simp only [Nat.sub_self, List.getElem?_cons_zero, Option.some.injEq, Prod.mk.injEq] at hs
  obtain ⟨rfl, rfl, rfl, rfl⟩ := hs
  exact ⟨Nat.le_refl _, fun _ => ⟨rfl, by rw [aH]⟩⟩
theorem ud (hE : aE C ι rows H) {nb : Bool} {aA n : Nat} {cs : List AV} (hl : cs.length = n * aA) (hc : ∀ x ∈ cs, Cell x) :
    aE C (put ι rows.length H.n) (rows ++ [some (.vec nb 0 aA n cs)]) (H.push (.cells cs)) :=
  hE.push _ _ ⟨hl, hc, fun _ => by rw [aH]; exact af.cD⟩
theorem pJ (hE : aE C ι rows H) {t : TypeId} {len : Nat} {parts : List (Nat × SV)} {k_ : List (Nat × AV)} {K : S1 → Rows → Option R} (hp : aQ (fun p q => p.1 = q.1 ∧ RV ι rows p.2 q.2) parts k_)
    (h : lV P rows t len parts K = some r) :
    ∃ y H' ys ah ι', bC P H t len k_ = some (y, H') ∧ aE C ι' ah H' ∧ R1 ι' ah ys y ∧ Le ι rows ι' ah ∧ K ys ah = some r := by
  unfold lV at h
  unfold bC
  split at h
  · rename_i e hu
    split at h
    · rename_i inf z bt hz
      split at h
      · rename_i hc
        split at h
        · rename_i ps hps
          split at h
          · rename_i cs te
            split at h
            · rename_i bw
              simp only [Bool.and_eq_true, List.all_eq_true] at bw
              obtain ⟨f1, f2⟩ := HV (uy hp hps) te
              have hlen := Nat.eq_of_beq_eq_true bw.2
              have cP : ∀ x ∈ cs, Cell x := by
                intro x hx
                rcases f2 x hx with h2 | h2
                · by_cases KW : z.cells = []
                  · rw [KW] at h2
                    simp only [aX, List.mem_map] at h2
                    obtain ⟨j, _, rfl⟩ := h2
                    exact absurd (bw.1 _ hx) (by simp [Ww])
                  · exact pI (bw.1 x hx) fun n c => jl hz n c x (lp KW x h2)
                · exact h2
              refine ⟨_, _, _, _, _, by simp only [hu, bt, hz]; rw [if_pos hc, f1]; rfl, ud hE (nb := false) hlen cP, ?_, jr _ _ _ _, h⟩
              have := yr (ι := ι) (rows := rows) (b := H.n) (nb := false) (aA := inf.size) (n := len) (cs := cs)
              simpa [dc] using this
            · cases h
          · cases h
        · cases h
      · cases h
    · cases h
  · cases h
theorem Co (hE : aE C ι rows H) {t : TypeId} {l c : S1} {lv cv : AV} {K : S1 → Rows → Option R} (hl : R1 ι rows l lv) (hc : R1 ι rows c cv) (h : sR P rows t l c K = some r) :
    ∃ y H' ys ah ι', dY P H t lv cv = some (y, H') ∧ aE C ι' ah H' ∧ R1 ι' ah ys y ∧ Le ι rows ι' ah ∧ K ys ah = some r := by
  unfold sR at h
  unfold dY
  split at h
  · rename_i k l k' c
    have hl : lv = .int k l := hl
    have hc : cv = .int k' c := hc
    subst hl; subst hc
    split at h
    · rename_i e hu
      split at h
      · rename_i inf z bt hz
        split at h
        · rename_i bw
          simp only [Bool.and_eq_true, List.all_eq_true, Bool.not_eq_true', List.isEmpty_eq_false_iff] at bw
          obtain ⟨⟨h1, h2⟩, h3⟩ := bw
          obtain ⟨hb, h⟩ := aO h
          have h2 := Nat.eq_of_beq_eq_true h2
          have cP : ∀ x ∈ aX z.cells (l.toNat * inf.size), Cell x := fun x hx => pI (h1 x (lp h3 x hx)) fun n c => jl hz n c x (lp h3 x hx)
          refine ⟨_, _, _, _, _, by simp only [hu, bt, hz]; rw [if_pos ⟨hb.1, hb.2.1, hb.2.2.1, hb.2.2.2, h2⟩], ud hE (nb := false) (lW _ _) cP, ?_, jr _ _ _ _, h⟩
          have := yr (ι := ι) (rows := rows) (b := H.n) (nb := false) (aA := inf.size) (n := l.toNat) (cs := aX z.cells (l.toNat * inf.size))
          simpa [dc] using this
        · cases h
      · cases h
    · cases h
  · cases h
def Vo (ι : Nat → Nat) (rows : Rows) : Option S1 → Option AV → Prop
  | none, none => True
  | some x, some v => R1 ι rows x v
  | _, _ => False
theorem mX {len : Nat} {lo hi : Option S1} {jW fR : Option AV} {l h : Int} (lq : Vo ι rows lo jW)
    (m8 : Vo ι rows hi fR) (el : Se lo = some l) (eh : Wx len hi = some h) (hb : 0 ≤ l ∧ l ≤ h ∧ h ≤ (len : Int)) :
    iT len jW fR = some (l.toNat, h.toNat) := by
  have hL : (jW = none ∧ l = 0) ∨ ∃ k, jW = some (.int k l) := by
    cases lo with
    | none =>
      cases jW with
      | none => simp only [Se, Option.some.injEq] at el; exact .inl ⟨rfl, el.symm⟩
      | some v => exact lq.elim
    | some x =>
      cases jW with
      | none => exact lq.elim
      | some v =>
        cases x <;> simp only [Se, reduceCtorEq, Option.some.injEq] at el
        subst el
        have lq : v = .int _ _ := lq
        exact .inr ⟨_, by rw [lq]⟩
  have hH : (fR = none ∧ h = len) ∨ ∃ k, fR = some (.int k h) := by
    cases hi with
    | none =>
      cases fR with
      | none => simp only [Wx, Option.some.injEq] at eh; exact .inl ⟨rfl, eh.symm⟩
      | some v => exact m8.elim
    | some x =>
      cases fR with
      | none => exact m8.elim
      | some v =>
        cases x <;> simp only [Wx, reduceCtorEq, Option.some.injEq] at eh
        subst eh
        have m8 : v = .int _ _ := m8
        exact .inr ⟨_, by rw [m8]⟩
  unfold iT
  rcases hL with ⟨rfl, rfl⟩ | ⟨k, rfl⟩ <;> rcases hH with ⟨rfl, rfl⟩ | ⟨k', rfl⟩ <;> simp only
  · simp
  · rw [if_pos (by omega)]; simp only; rw [if_pos (by omega)]; rfl
  · rw [if_pos hb.1]; simp only [Int.toNat_natCast]; rw [if_pos (by omega)]
  · rw [if_pos hb.1, if_pos (by omega)]; simp only; rw [if_pos (by omega)]
theorem Mg (hE : aE C ι rows H) {e : TypeId} {n : Nat} {x : S1} {v : AV} {lo hi : Option S1} {jW fR : Option AV} {K : S1 → Option R} (hx : R1 ι rows x v) (lq : Vo ι rows lo jW)
    (m8 : Vo ι rows hi fR) (h : Vm P rows e n x lo hi K = some r) :
    ∃ y ys, Ir P e v n jW fR H = some y ∧ R1 ι rows ys y ∧ K ys = some r := by
  unfold Vm at h
  split at h
  · rename_i inf bt
    split at h
    · rename_i q off
      split at h
      · split at h
        · rename_i cs aG
          obtain ⟨hg, h⟩ := eQ h
          have hv := hx.2 (iP aG)
          subst hv
          obtain ⟨dE, g1, g2⟩ := hE.row _ _ aG
          have afU : jW = none := by cases jW with | none => rfl | some v => exact lq.elim
          have afV : fR = none := by cases fR with | none => rfl | some v => exact m8.elim
          subst afU; subst afV
          refine ⟨.slice (ι q) off n inf.size, .fX q off n inf.size, ?_, ⟨hx.1, fun _ => rfl⟩, h⟩
          simp only [Ir, bt, iT]
          rw [if_pos ⟨Nat.zero_le _, Nat.le_refl _⟩]
          simp only [fG g1]
          rw [if_pos (by rw [← g2.length]; exact hg), if_neg (by omega)]
          simp
        · cases h
      · cases h
    · rename_i cs off
      obtain ⟨hv, cP⟩ := hx
      subst hv
      split at h
      · rename_i l h' el eh
        obtain ⟨Sg, h⟩ := aO h
        obtain ⟨hg, h⟩ := aO h
        have Mh := mX lq m8 el eh Sg
        refine ⟨.list _ _, .list _ _, ?_, ⟨rfl, fun x hx => cP x (List.mem_of_mem_drop (List.mem_of_mem_take hx))⟩, h⟩
        simp only [Ir, bt, Mh]
        rw [if_pos hg]
        by_cases e : l.toNat = h'.toNat
        · rw [if_pos e, e]; simp
        · rw [if_neg e]
      · cases h
    · cases h
  · cases h
theorem Ow (hE : aE C ι rows H) {t : TypeId} {x : S1} {v : AV} {lo hi : Option S1} {jW fR : Option AV} {K : S1 → Option R} (hx : R1 ι rows x v) (lq : Vo ι rows lo jW)
    (m8 : Vo ι rows hi fR) (h : KI P rows t x lo hi K = some r) :
    ∃ y ys, q_ P H t v jW fR = some y ∧ R1 ι rows ys y ∧ K ys = some r := by
  unfold KI at h
  unfold q_
  split at h
  · rename_i hu
    split at h
    · rename_i s
      have hx : v = .string s := hx
      subst hx
      split at h
      · rename_i l h' el eh
        obtain ⟨hb, h⟩ := aO h
        have := mX lq m8 el eh hb
        refine ⟨.string _, .string _, ?_, rfl, h⟩
        simp only [hu, this]
      · cases h
    · cases h
  · rename_i e hu
    split at h
    · rename_i inf bt
      split at h
      · rename_i len cs
        obtain ⟨hv, cP⟩ := hx
        subst hv
        split at h
        · rename_i l h' el eh
          obtain ⟨hb, h⟩ := aO h
          obtain ⟨hlen, h⟩ := aO h
          have KW : inf.size ≠ 0 := by
            intro e; rw [e] at h; cases h
          have h : K (.list (h'.toNat - l.toNat) ((cs.drop (l.toNat * inf.size)).take ((h'.toNat - l.toNat) * inf.size))) = some r := by
            split at h
            · cases h
            · exact h
          have Mh := mX lq m8 el eh hb
          refine ⟨.list _ _, .list _ _, ?_, ⟨rfl, fun x hx => cP x (List.mem_of_mem_drop (List.mem_of_mem_take hx))⟩, h⟩
          simp only [hu, bt, Mh]
          by_cases e : l.toNat = h'.toNat
          · rw [if_pos e, e]
            simp
          · rw [if_neg e]
            by_cases he : cs = []
            · subst he
              have ek : len ≠ 0 := by omega
              simp only [List.length_nil] at hlen
              rcases Nat.mul_eq_zero.1 hlen with h1 | h1
              · omega
              · exact absurd h1 KW
            · rw [if_pos ⟨hlen, he⟩]
        · cases h
      · rename_i q aW aA
        split at h
        · rename_i nb v' es m hs
          split at h
          · rename_i hb
            simp only [Bool.and_eq_true] at hb
            have e1 := Nat.eq_of_beq_eq_true hb.1
            have e2 := Nat.eq_of_beq_eq_true hb.2
            subst e1
            obtain ⟨_, hv⟩ := hx.2 _ _ _ _ hs
            obtain ⟨e3, hv⟩ := hv rfl
            split at h
            · rename_i l h' el eh
              obtain ⟨Sg, h⟩ := aO h
              have Mh := mX lq m8 el eh Sg
              have Ck : ∀ y, mS (ι q) nb es m l.toNat (h'.toNat - l.toNat) y → R1 ι rows (.sub q aW l.toNat (h'.toNat - l.toNat) es) y := fun y hy =>
                ⟨hx.1, fun KG v1 e1 m1 h1 => by rw [hs] at h1; cases h1; exact ⟨Nat.le_refl _, fun _ => ⟨rfl, by omega, hy⟩⟩⟩
              subst hv
              unfold dc
              by_cases hn : nb = true ∧ m = 0
              · rw [if_pos hn, ← hn.2]
                refine ⟨.av, _, by simp only [hu, bt, Mh], Ck _ (by unfold mS; rw [if_pos hn]), h⟩
              · rw [if_neg hn]
                simp only [hu, bt, Mh, e3, e2, if_true]
                by_cases e : l.toNat = h'.toNat ∧ 0 < l.toNat
                · exact ⟨.list 0 [], _, by rw [if_pos e], Ck _ (by unfold mS; rw [if_neg hn]; exact .inr ⟨by omega, rfl⟩), h⟩
                · exact ⟨.slice (ι q) (l.toNat * inf.size) (h'.toNat - l.toNat) inf.size, _, by rw [if_neg e, Nat.zero_add], Ck _ (by unfold mS; rw [if_neg hn, e2]; exact .inl rfl), h⟩
            · cases h
          · cases h
        · cases h
      · rename_i q aW off n es
        split at h
        · rename_i hb
          simp only [Bool.and_eq_true] at hb
          have e2 := Nat.eq_of_beq_eq_true hb.2
          obtain ⟨nb, cN, m, hs⟩ := dR hb.1
          obtain ⟨e3, hle, hv⟩ := (hx.2 _ _ _ _ hs).2 rfl
          subst e3
          split at h
          · rename_i l h' el eh
            obtain ⟨Sg, h⟩ := aO h
            have Mh := mX lq m8 el eh Sg
            have Ck : ∀ y, mS (ι q) nb es m (off + l.toNat) (h'.toNat - l.toNat) y → R1 ι rows (.sub q aW (off + l.toNat) (h'.toNat - l.toNat) es) y := fun y hy =>
              ⟨hx.1, fun KG v1 e1 m1 h1 => by rw [hs] at h1; cases h1; exact ⟨Nat.le_refl _, fun _ => ⟨rfl, by omega, hy⟩⟩⟩
            unfold mS at hv
            by_cases hn : nb = true ∧ m = 0
            · rw [if_pos hn] at hv
              subst hv
              have n9 : n = 0 := by omega
              rw [n9] at Mh
              exact ⟨.av, _, by simp only [hu, bt, Mh], Ck _ (by unfold mS; rw [if_pos hn]), h⟩
            · rw [if_neg hn] at hv
              rcases hv with hv | ⟨n9, hv⟩
              · subst hv
                simp only [hu, bt, Mh, e2, if_true]
                by_cases e : l.toNat = h'.toNat ∧ 0 < l.toNat
                · exact ⟨.list 0 [], _, by rw [if_pos e], Ck _ (by unfold mS; rw [if_neg hn]; exact .inr ⟨by omega, rfl⟩), h⟩
                · exact ⟨_, _, by rw [if_neg e], Ck _ (by unfold mS; rw [if_neg hn, Nat.add_mul, e2]; exact .inl rfl), h⟩
              · subst hv
                rw [n9] at Mh
                have : l.toNat = h'.toNat := by omega
                exact ⟨.list 0 [], _, by simp only [hu, bt, Mh]; rw [if_pos this], Ck _ (by unfold mS; rw [if_neg hn]; exact .inr ⟨by omega, rfl⟩), h⟩
          · cases h
        · cases h
      · cases h
    · cases h
  · rename_i a hu
    split at h
    · rename_i n e WK
      simp only [hu, WK]
      exact Mg hE hx lq m8 h
    · cases h
  · rename_i n e hu
    simp only [hu]
    exact Mg hE hx lq m8 h
  · cases h
theorem KO (hE : aE C ι rows H) {t : TypeId} {x : S1} {v : AV} {lo : Option S1} {hi mx : S1} {jW : Option AV} {fR O1 : AV} {K : S1 → Option R} (hx : R1 ι rows x v) (lq : Vo ι rows lo jW)
    (m8 : R1 ι rows hi fR) (Vz : R1 ι rows mx O1) (h : Fq P t x lo hi mx K = some r) :
    ∃ y ys, s4 P t v jW fR O1 = some y ∧ R1 ι rows ys y ∧ K ys = some r := by
  unfold Fq at h
  unfold s4
  split at h
  · rename_i e hu
    split at h
    · rename_i inf bt
      split at h
      · rename_i len cs
        obtain ⟨hv, cP⟩ := hx
        subst hv
        split at h
        · rename_i l k1 h' k2 m el
          obtain ⟨hb, h⟩ := aO h
          obtain ⟨hlen, h⟩ := aO h
          have KW : inf.size ≠ 0 := by
            intro e; rw [e] at h; cases h
          have h : K (.list (h'.toNat - l.toNat) ((cs.drop (l.toNat * inf.size)).take ((h'.toNat - l.toNat) * inf.size))) = some r := by
            split at h
            · cases h
            · exact h
          have m8 : fR = .int _ _ := m8
          have Vz : O1 = .int _ _ := Vz
          subst m8; subst Vz
          have Mh : mq len jW (.int k1 h') (.int k2 m) = some (l.toNat, h'.toNat, m.toNat) := by
            have hL : (jW = none ∧ l = 0) ∨ ∃ k, jW = some (.int k l) := by
              cases lo with
              | none =>
                cases jW with
                | none => simp only [Se, Option.some.injEq] at el; exact .inl ⟨rfl, el.symm⟩
                | some v => exact lq.elim
              | some x =>
                cases jW with
                | none => exact lq.elim
                | some v =>
                  cases x <;> simp only [Se, reduceCtorEq, Option.some.injEq] at el
                  subst el
                  have lq : v = .int _ _ := lq
                  exact .inr ⟨_, by rw [lq]⟩
            unfold mq
            rcases hL with ⟨rfl, rfl⟩ | ⟨k, rfl⟩
            · simp only [It]; rw [if_pos (by omega), if_pos (by omega)]; simp only; rw [if_pos (by omega)]; rfl
            · simp only [It]; rw [if_pos hb.1, if_pos (by omega), if_pos (by omega)]; simp only; rw [if_pos (by omega)]
          refine ⟨.list _ _, .list _ _, ?_, ⟨rfl, fun x hx => cP x (List.mem_of_mem_drop (List.mem_of_mem_take hx))⟩, h⟩
          simp only [hu, bt, Mh]
          by_cases e : l.toNat = h'.toNat
          · rw [if_pos e, e]
            simp
          · rw [if_neg e]
            by_cases he : cs = []
            · subst he
              have ek : len ≠ 0 := by omega
              simp only [List.length_nil] at hlen
              rcases Nat.mul_eq_zero.1 hlen with h1 | h1
              · omega
              · exact absurd h1 KW
            · rw [if_pos ⟨hlen, he⟩]
        · cases h
      · cases h
    · cases h
  · cases h
theorem Vp {t : TypeId} {x : S1} {v : AV} {K : S1 → Option R} (hx : R1 ι rows x v) (h : aaS P rows t x K = some r) :
    ∃ y ys, Pn P t v = some y ∧ R1 ι rows ys y ∧ K ys = some r := by
  unfold aaS at h
  unfold Pn
  split at h
  · rename_i hu
    split at h
    · rename_i s
      have hx : v = .string s := hx
      subst hx
      exact ⟨.int _ _, .int _ _, by simp only [hu], rfl, h⟩
    · cases h
  · rename_i n e hu
    exact ⟨.int _ _, .int _ _, by simp only [hu], rfl, h⟩
  · rename_i e hu
    split at h
    · have hx : v = .av := hx
      subst hx
      exact ⟨.int _ _, .int _ _, by simp only [hu], rfl, h⟩
    · rename_i q aW aA
      split at h
      · rename_i nb v' es n hs
        split at h
        · rename_i ef
          have := Nat.eq_of_beq_eq_true ef
          subst this
          obtain ⟨_, hv⟩ := (hx.2 _ _ _ _ hs).2 rfl
          refine ⟨.int .i64 n, .int .i64 n, ?_, rfl, h⟩
          subst hv
          by_cases hn : nb = true ∧ n = 0
          · unfold dc; rw [if_pos hn]; simp only [hu, hn.2]; rfl
          · unfold dc; rw [if_neg hn]; simp only [hu]
        · cases h
      · cases h
    · rename_i n cs
      rw [hx.1]
      exact ⟨.int _ _, .int _ _, by simp only [hu], rfl, h⟩
    · rename_i n cs
      rw [hx.1]
      exact ⟨.int _ _, .int _ _, by simp only [hu], rfl, h⟩
    · rename_i q aW off n es
      split at h
      · rename_i hc
        obtain ⟨nb, cN, m, hs⟩ := dR hc
        obtain ⟨_, hv⟩ := hx.2 _ _ _ _ hs
        obtain ⟨e3, hle, hv⟩ := hv rfl
        refine ⟨.int .i64 n, .int .i64 n, ?_, rfl, h⟩
        unfold mS at hv
        split at hv
        · rename_i hn
          have : n = 0 := by omega
          subst hv; subst this; simp only [hu]; rfl
        · rcases hv with hv | ⟨n9, hv⟩
          · subst hv; simp only [hu]
          · subst hv; subst n9; simp only [hu]
      · cases h
    · rename_i q off n es
      split at h
      · rename_i hc
        have hv := hx.2 (by simpa using hc)
        subst hv
        exact ⟨.int .i64 n, .int .i64 n, by simp only [hu], rfl, h⟩
      · cases h
    · cases h
  · rename_i a hu
    split at h
    · rename_i n e WK
      exact ⟨.int _ _, .int _ _, by simp only [hu, WK], rfl, h⟩
    · cases h
  · cases h
theorem BU (s : ByteArray) : ∀ x ∈ fJ s, Cell x := by
  intro x hx
  simp only [fJ, List.mem_map] at hx
  obtain ⟨b, _, rfl⟩ := hx
  exact .int _ _
theorem Mi (hE : aE C ι rows H) {size : Nat} {x : S1} {v : AV} {K : Nat → List AV → Option R} (hx : R1 ι rows x v) (h : Vn rows size x K = some r) :
    ∃ n ys, cL H size v = some (n, ys) ∧ ys.length = n * size ∧ (∀ y ∈ ys, Cell y) ∧ K n ys = some r := by
  unfold Vn at h
  split at h
  · have hx : v = .av := hx
    subst hx
    exact ⟨0, [], rfl, by simp, fun y hy => (by cases hy), h⟩
  · rename_i q aW aA
    split at h
    · rename_i nb v' es n cs aG
      split at h
      · rename_i hb
        simp only [Bool.and_eq_true] at hb
        have e1 := Nat.eq_of_beq_eq_true hb.1
        have e2 := Nat.eq_of_beq_eq_true hb.2
        subst e1
        obtain ⟨_, hv⟩ := hx.2 _ _ _ _ (dk aG)
        obtain ⟨e3, hv⟩ := hv rfl
        obtain ⟨g1, g2, g3⟩ := hE.row _ _ aG
        rw [e2] at g1
        refine ⟨n, cs, ?_, g1, g2, h⟩
        subst hv
        unfold dc
        split
        · rename_i hn
          have : cs = [] := by rw [hn.2, Nat.zero_mul] at g1; exact List.eq_nil_of_length_eq_zero g1
          rw [hn.2, this]; rfl
        · rename_i hn
          simp only [cL, fG (g3 hn)]
          rw [if_pos ⟨by rw [e3, e2], by omega⟩]
          simp only [List.drop_zero]
          rw [List.take_of_length_le (by omega)]
      · cases h
    · cases h
  · rename_i q aW off n aA
    split at h
    · rename_i nb v' es m cs aG
      split at h
      · rename_i hb
        simp only [Bool.and_eq_true] at hb
        have e1 := Nat.eq_of_beq_eq_true hb.1
        have e2 := Nat.eq_of_beq_eq_true hb.2
        subst e1
        obtain ⟨_, hv⟩ := hx.2 _ _ _ _ (dk aG)
        obtain ⟨e3, hle, hv⟩ := hv rfl
        obtain ⟨g1, g2, g3⟩ := hE.row _ _ aG
        have hl : off * size + n * size ≤ cs.length := by
          rw [g1, e2, ← Nat.add_mul]; exact Nat.mul_le_mul_right _ hle
        refine ⟨n, _, ?_, by rw [List.length_take, List.length_drop]; omega, fun y hy => g2 y (List.mem_of_mem_drop (List.mem_of_mem_take hy)), h⟩
        unfold mS at hv
        split at hv
        · rename_i hn
          have : n = 0 := by omega
          subst hv; subst this; simp [cL]
        · rename_i hn
          rcases hv with hv | ⟨n9, hv⟩
          · subst hv
            simp only [cL, fG (g3 hn)]
            rw [e3, e2, if_pos ⟨rfl, hl⟩]
          · subst hv; subst n9; simp [cL]
      · cases h
    · cases h
  · rename_i q off n aA
    split at h
    · rename_i cs aG
      split at h
      · rename_i hb
        have e2 := Nat.eq_of_beq_eq_true hb
        split at h
        · rename_i us RD
          obtain ⟨hg, h⟩ := eQ h
          have hv := hx.2 (iP aG)
          subst hv
          obtain ⟨dE, g1, g2⟩ := hE.row _ _ aG
          obtain ⟨e, hc⟩ := eP g2 RD
          subst e
          refine ⟨n, _, ?_, by rw [List.length_take, List.length_drop]; omega, fun y hy => hc y (List.mem_of_mem_drop (List.mem_of_mem_take hy)), h⟩
          simp only [cL, fG g1]
          rw [e2, if_pos ⟨rfl, hg⟩]
        · cases h
      · cases h
    · cases h
  · rename_i n cs
    obtain ⟨hb, h⟩ := aO h
    obtain ⟨hv, hc⟩ := hx
    subst hv
    exact ⟨n, cs, by simp only [cL]; rw [if_pos hb], hb, hc, h⟩
  · rename_i s
    split at h
    · rename_i hb
      have hb := Nat.eq_of_beq_eq_true hb
      have hx : v = .string s := hx
      subst hx
      exact ⟨_, _, by simp only [cL]; rw [if_pos hb], by simp [fJ, hb], BU s, h⟩
    · cases h
  · cases h
theorem Ox (hE : aE C ι rows H) {xT e : TypeId} {inf : TypeInfo} {z : AV} (hz : zeroOf P e = some z) {x : S1} {v : AV} {K : Nat → List AV → Option R} (hx : R1 ι rows x v) (h : KJ P rows xT inf z x K = some r) :
    ∃ n ys, yE P H xT inf z v = some (n, ys) ∧ ys.length = n * inf.size ∧ (∀ y ∈ ys, Cell y) ∧ K n ys = some r := by
  unfold KJ at h
  unfold yE
  split at h
  · rename_i q hu
    split at h
    · rename_i k n
      split at h
      · rename_i hb
        simp only [Bool.and_eq_true, List.all_eq_true, Bool.not_eq_true', List.isEmpty_eq_false_iff, Nat.ble_eq] at hb
        obtain ⟨⟨⟨h1, h2⟩, h3⟩, h4⟩ := hb
        have h2 := Nat.eq_of_beq_eq_true h2
        obtain ⟨hg, h⟩ := aO h
        have hx : v = .int k n := hx
        subst hx
        refine ⟨n.toNat, aX z.cells (n.toNat * inf.size), ?_, lW _ _, fun y hy => pI (h1 y (lp h3 y hy)) fun n c => jl hz n c y (lp h3 y hy), h⟩
        simp only [hu]
        rw [if_pos ⟨hg.1, hg.2, h4, h2⟩]
      · cases h
    · cases h
  · rename_i d ek hu
    obtain ⟨n, ys, h1, h2, h3, h4⟩ := Mi hE hx h
    refine ⟨n, ys, ?_, h2, h3, h4⟩
    rw [hu]
    cases d <;> first | exact h1 | exact (ek _ rfl).elim
  · cases h
theorem uz {ys : List AV} (h : ∀ y ∈ ys, Cell y) : ys.all AV.one = true := List.all_eq_true.2 fun y hy => (h y hy).one
theorem wx {q : Nat} {xV : Bool} {aW es n0 : Nat} {cs0 : List AV} (h0 : rows[q]? = some (some (.vec xV aW es n0 cs0))) {b : Nat} {nb : Bool} {n : Nat} {cs : List AV} (ι' : Nat → Nat) (hb : ι' q = b) :
    R1 ι' (rows.set q (some (.vec nb (aW + 1) es n cs))) (.own q (aW + 1) es) (dc b nb es n) := by
  refine ⟨by simpa using bQ h0, fun m5 v' e' n' hs => ?_⟩
  unfold sg at hs
  rw [List.getElem?_set_self (bQ h0)] at hs
  simp only [Option.some.injEq, Prod.mk.injEq] at hs
  obtain ⟨rfl, rfl, rfl, rfl⟩ := hs
  exact ⟨Nat.le_refl _, fun _ => ⟨rfl, by rw [hb]⟩⟩
theorem aE.stay (hE : aE C ι rows H) {q : Nat} {aW aA : Nat} {cs : List AV} (h0 : rows[q]? = some (some (.vec true aW aA 0 cs))) :
    aE C ι (rows.set q (some (.vec true (aW + 1) aA 0 []))) H ∧ Le ι rows ι (rows.set q (some (.vec true (aW + 1) aA 0 []))) := by
  have cC := bQ h0
  have sg1 : sg (rows.set q (some (.vec true (aW + 1) aA 0 []))) q = some (true, aW + 1, aA, 0) := by
    unfold sg; rw [List.getElem?_set_self cC]
  have le : Le ι rows ι (rows.set q (some (.vec true (aW + 1) aA 0 []))) := Le.of (by simp) fun s hs => by
    by_cases e : q = s
    · subst e; exact .inr ⟨_, _, _, _, _, _, _, _, dk h0, sg1, Nat.lt_succ_self _⟩
    · exact .inl ⟨rfl, eK e⟩
  have split : ∀ s row, (rows.set q (some (.vec true (aW + 1) aA 0 [])))[s]? = some (some row) → (s = q ∧ row = .vec true (aW + 1) aA 0 []) ∨ (s ≠ q ∧ rows[s]? = some (some row)) := by
    intro s row h
    by_cases e : q = s
    · subst e
      rw [List.getElem?_set_self cC] at h
      simp only [Option.some.injEq] at h; exact .inl ⟨rfl, h.symm⟩
    · rw [List.getElem?_set_ne e] at h; exact .inr ⟨fun h => e h.symm, h⟩
  refine ⟨⟨fun s row h => ?_, fun s s' row cS h h' hr gL e => ?_, hE.ok, hE.fH⟩, le⟩
  · rcases split s row h with ⟨rfl, rfl⟩ | ⟨ek, h⟩
    · exact ⟨by simp, fun x hx => absurd hx (by simp), fun hn => absurd ⟨rfl, rfl⟩ hn⟩
    · refine (hE.row s row h).mono le (fun hr => ⟨rfl, fun ar ha => ha⟩) fun p hp ER => ⟨rfl, ?_⟩
      have e : p ≠ q := by intro h; rw [h, dk h0] at ER; cases ER
      rw [eK (fun h => e h.symm)]; exact ER
  · rcases split s row h with ⟨_, e1⟩ | ⟨ek, k⟩ <;> rcases split s' cS h' with ⟨_, e2⟩ | ⟨Mn, k'⟩
    · subst e1; exact absurd ⟨rfl, rfl⟩ hr
    · subst e1; exact absurd ⟨rfl, rfl⟩ hr
    · subst e2; exact absurd ⟨rfl, rfl⟩ gL
    · exact hE.inj _ _ _ _ k k' hr gL e
theorem KP (hE : aE C ι rows H) {sT xT : TypeId} {s x : S1} {sv xv : AV} {K : S1 → Rows → Option R} (hs : R1 ι rows s sv) (hx : R1 ι rows x xv) (h : Fs P rows sT xT s x K = some r) :
    ∃ y H' ys ah ι', jy P H sT xT sv xv = some (y, H') ∧ aE C ι' ah H' ∧ R1 ι' ah ys y ∧ Le ι rows ι' ah ∧ K ys ah = some r := by
  unfold Fs at h
  unfold jy
  split at h
  · rename_i e hu
    split at h
    · rename_i inf z bt hz
      split at h
      · rename_i hzl
        obtain ⟨n2, ys, h1, h2, h3, h⟩ := Ox hE hz hx h
        simp only [hu, bt, hz, h1]
        rw [if_pos (by simp [uz h3, hzl])]
        cases s with
        | own q aW aA =>
          simp only at h
          split at h
          · rename_i nb v' es n cs aG
            split at h
            · rename_i hb
              simp only [Bool.and_eq_true] at hb
              have e1 := Nat.eq_of_beq_eq_true hb.1
              have e2 := Nat.eq_of_beq_eq_true hb.2
              subst e1
              obtain ⟨hg, h⟩ := aO h
              obtain ⟨_, Wn⟩ := hs.2 _ _ _ _ (dk aG)
              obtain ⟨e3, hv⟩ := Wn rfl
              clear Wn
              obtain ⟨g1, g2, g3⟩ := hE.row _ _ aG
              subst e3
              subst hv
              have n7 : ∀ y ∈ cs ++ ys, Cell y := fun y hy => (List.mem_append.1 hy).elim (g2 y) (h3 y)
              have hlen : (cs ++ ys).length = (n + n2) * aA := by rw [List.length_append, g1, h2, e2, Nat.add_mul]
              by_cases hn : nb = true ∧ n = 0
              · obtain ⟨rfl, rfl⟩ := hn
                have te : cs = [] := by rw [Nat.zero_mul] at g1; exact List.eq_nil_of_length_eq_zero g1
                subst te
                simp only [dc, and_self, if_true]
                by_cases h0 : n2 = 0
                · subst h0
                  have hys : ys = [] := by rw [Nat.zero_mul] at h2; exact List.eq_nil_of_length_eq_zero h2
                  subst hys
                  obtain ⟨k1, k2⟩ := hE.stay aG
                  refine ⟨_, _, _, _, _, by rw [if_pos rfl], k1, ?_, k2, h⟩
                  have := wx aG (b := ι q) (nb := true) (n := 0) (cs := []) ι rfl
                  simpa [dc] using this
                · rw [if_neg h0, if_pos (by simpa using hg)]
                  obtain ⟨k1, k2⟩ := hE.move aG (m5 := true) (n' := 0 + n2) (dE := [] ++ ys) (by simp [h0]) hlen n7 H (by simp)
                  refine ⟨_, _, _, _, _, rfl, k1, ?_, k2, h⟩
                  have := wx aG (b := H.n) (nb := true) (n := 0 + n2) (cs := [] ++ ys) (Abs.put ι q H.n) aH
                  simpa [dc, h0, e2] using this
              · have hg3 := g3 hn
                have hov : dc (ι q) nb aA n = .slice (ι q) 0 n aA := by unfold dc; rw [if_neg hn]
                simp only [hov, wk hE hg3]
                rw [if_pos ⟨trivial, e2, by rw [g1, e2]; exact Nat.le_refl _, hg⟩]
                have ht : cs.take (n * inf.size) = cs := by rw [List.take_of_length_le]; rw [g1, e2]; exact Nat.le_refl _
                rw [ht]
                obtain ⟨k1, k2⟩ := hE.move aG (m5 := nb) (n' := n + n2) (dE := cs ++ ys) (by rintro ⟨h1, h2⟩; exact hn ⟨h1, by omega⟩) hlen n7 (H.kill (ι q)) (by rw [if_neg hn])
                refine ⟨_, _, _, _, _, rfl, k1, ?_, k2, h⟩
                have := wx aG (b := H.n) (nb := nb) (n := n + n2) (cs := cs ++ ys) (Abs.put ι q H.n) aH
                unfold dc at this
                rw [if_neg (by rintro ⟨h1, h2⟩; exact hn ⟨h1, by omega⟩)] at this
                rw [← e2]
                exact this
            · cases h
          · cases h
        | raw y =>
          have hs : sv = y := hs
          subst hs
          have oP : sv = .av := by
            cases sv <;> first | rfl | cases h
          subst oP
          obtain ⟨hg, h⟩ := aO h
          by_cases h0 : n2 = 0
          · subst h0
            have hys : ys = [] := by rw [Nat.zero_mul] at h2; exact List.eq_nil_of_length_eq_zero h2
            subst hys
            refine ⟨_, _, _, _, _, by rw [if_pos rfl], hE.ghost inf.size, ?_, nE _ _ _, h⟩
            refine ⟨by simp, fun m5 v' e' n' hs => ?_⟩
            unfold sg at hs
            rw [List.getElem?_append_right (Nat.le_refl _)] at hs
            simp only [Nat.sub_self, List.getElem?_cons_zero, Option.some.injEq, Prod.mk.injEq] at hs
            obtain ⟨rfl, rfl, rfl, rfl⟩ := hs
            exact ⟨Nat.le_refl _, fun _ => ⟨rfl, by simp [dc]⟩⟩
          · rw [if_neg h0, if_pos hg]
            refine ⟨_, _, _, _, _, rfl, ud hE (nb := true) h2 h3, ?_, jr _ _ _ _, h⟩
            have := yr (ι := ι) (rows := rows) (b := H.n) (nb := true) (aA := inf.size) (n := n2) (cs := ys)
            simpa [dc, h0] using this
        | _ => cases h
      · cases h
    · cases h
  · cases h
theorem aE.Ft (hE : aE C ι rows H) {q : Nat} {nb : Bool} {aW es m : Nat} {cs dE : List AV} (h0 : rows[q]? = some (some (.vec nb aW es m cs))) (hn : ¬ (nb = true ∧ m = 0)) (hl : dE.length = m * es) (hc : ∀ x ∈ dE, Cell x) :
    aE C ι (rows.set q (some (.vec nb aW es m dE))) (H.ij (ι q) (.cells dE)) ∧ Le ι rows ι (rows.set q (some (.vec nb aW es m dE))) := by
  refine hE.Rp h0 hn (.vec nb aW es m dE) (.cells dE) ?_ fun le => ⟨hl, hc, fun _ => ?_⟩
  · rw [dk h0]; exact dk (List.getElem?_set_self (bQ h0))
  · have := hE.lt h0 hn
    rw [af.iS hE.ok _ this, if_pos rfl]
theorem qx {q : Nat} {x : Option eJ} (h : rows[q]? = some x) : rows.set q x = rows := by
  obtain ⟨hl, he⟩ := List.getElem?_eq_some_iff.1 h
  rw [← he]; exact List.set_getElem_self hl
theorem mh (cs : List AV) (off : Nat) : ag cs off [] = cs := rfl
theorem Fu (hE : aE C ι rows H) {q : Nat} {cs : List AV} (h : H.get q = some (.cells cs)) : iy H q = some cs := by
  unfold iy
  rw [fG h, hE.fH]
  simp
theorem DC {cs ys : List AV} {off : Nat} (h1 : ∀ x ∈ cs, Cell x) (h2 : ∀ x ∈ ys, Cell x) : ∀ x ∈ ag cs off ys, Cell x := by
  induction ys generalizing cs off with
  | nil => exact h1
  | cons y ys ih =>
    simp only [ag]
    refine ih (fun x hx => ?_) fun x hx => h2 x (List.mem_cons_of_mem _ hx)
    rcases List.mem_or_eq_of_mem_set hx with hx | hx
    · exact h1 x hx
    · rw [hx]; exact h2 y List.mem_cons_self
theorem Si (hE : aE C ι rows H) {dT : TypeId} {d s : S1} {dv sv : AV} {K : S1 → Rows → Option R} (hd : R1 ι rows d dv) (hs : R1 ι rows s sv) (h : Sf P rows dT d s K = some r) :
    ∃ y H' ys ah ι', yF P H dT dv sv = some (y, H') ∧ aE C ι' ah H' ∧ R1 ι' ah ys y ∧ Le ι rows ι' ah ∧ K ys ah = some r := by
  unfold Sf at h
  unfold yF
  split at h
  · rename_i e hu
    split at h
    · rename_i inf bt
      obtain ⟨n2, ys, h1, h2, h3, h⟩ := Mi hE hs h
      simp only [hu, bt, h1]
      have hty : ∀ k : Nat, ∀ y ∈ ys.take (k * inf.size), Cell y := fun k y hy => h3 y (List.mem_of_mem_take hy)
      split at h
      · rename_i q aW aA
        split at h
        · rename_i nb v' es m cs aG
          split at h
          · rename_i hb
            simp only [Bool.and_eq_true] at hb
            have e1 := Nat.eq_of_beq_eq_true hb.1
            have e2 := Nat.eq_of_beq_eq_true hb.2
            subst e1
            obtain ⟨_, hv⟩ := hd.2 _ _ _ _ (dk aG)
            obtain ⟨e3, hv⟩ := hv rfl
            obtain ⟨g1, g2, g3⟩ := hE.row _ _ aG
            subst hv
            unfold dc
            by_cases hn : nb = true ∧ m = 0
            · rw [if_pos hn]
              have hm : Nat.min n2 m = 0 := by rw [hn.2]; exact Nat.min_zero _
              rw [hm] at h
              simp only [Nat.zero_mul, List.take_zero, mh] at h
              rw [qx aG] at h
              exact ⟨_, H, _, rows, ι, rfl, hE, (by rw [ab]; exact (rfl : R1 ι rows (.int .i64 0) _)), Le.refl _ _, h⟩
            · rw [if_neg hn]
              simp only [Fu hE (g3 hn)]
              have ajl : min n2 m = Nat.min n2 m := rfl
              have hlen : (ag cs 0 (ys.take (Nat.min n2 m * inf.size))).length = m * es := by rw [df]; exact g1
              rw [if_pos ⟨by rw [e3, e2], by rw [g1, e2]; omega, uz (hty _)⟩]
              obtain ⟨t1, t2⟩ := hE.Ft aG hn hlen (DC g2 (hty _))
              exact ⟨_, _, _, _, ι, rfl, t1, (by rw [ab]; exact rfl), t2, h⟩
          · cases h
        · cases h
      · rename_i q aW off k aA _
        split at h
        · rename_i nb v' es m cs aG
          split at h
          · rename_i hb
            simp only [Bool.and_eq_true] at hb
            have e1 := Nat.eq_of_beq_eq_true hb.1
            have e2 := Nat.eq_of_beq_eq_true hb.2
            subst e1
            obtain ⟨_, hv⟩ := hd.2 _ _ _ _ (dk aG)
            obtain ⟨e3, hle, hv⟩ := hv rfl
            obtain ⟨g1, g2, g3⟩ := hE.row _ _ aG
            unfold mS at hv
            split at hv
            · rename_i hn
              have hk : k = 0 := by omega
              subst hv; subst hk
              have hm : Nat.min n2 0 = 0 := Nat.min_zero _
              rw [hm] at h
              simp only [Nat.zero_mul, List.take_zero, mh] at h
              rw [qx aG] at h
              exact ⟨_, H, _, rows, ι, rfl, hE, (by rw [ab]; exact (rfl : R1 ι rows (.int .i64 0) _)), Le.refl _ _, h⟩
            · rename_i hn
              rcases hv with hv | ⟨hk, hv⟩
              · subst hv
                simp only [Fu hE (g3 hn)]
                have hl : off * inf.size + k * inf.size ≤ cs.length := by
                  rw [g1, e2, ← Nat.add_mul]; exact Nat.mul_le_mul_right _ hle
                have hlen : (ag cs (off * inf.size) (ys.take (Nat.min n2 k * inf.size))).length = m * es := by rw [df]; exact g1
                rw [e3, e2, if_pos ⟨rfl, hl, uz (hty _)⟩]
                obtain ⟨t1, t2⟩ := hE.Ft aG hn hlen (DC g2 (hty _))
                rw [e2] at t1 t2 h
                exact ⟨_, _, _, _, ι, rfl, t1, (by rw [ab]; exact rfl), t2, h⟩
              · subst hv; subst hk
                have hm : Nat.min n2 0 = 0 := Nat.min_zero _
                rw [hm] at h
                simp only [Nat.zero_mul, List.take_zero, mh] at h
                rw [qx aG] at h
                exact ⟨_, H, _, rows, ι, rfl, hE, (by rw [ab]; exact (rfl : R1 ι rows (.int .i64 0) _)), Le.refl _ _, h⟩
          · cases h
        · cases h
      · cases h
    · cases h
  · cases h
theorem Oy (hE : aE C ι rows H) {t : TypeId} {x : S1} {v : AV} {K : Rows → Option R} (hx : R1 ι rows x v) (h : KK P rows t x K = some r) :
    (P.underlying t).isSome = true ∧ ∃ H' ah ι', qW P H t v = some H' ∧ aE C ι' ah H' ∧ Le ι rows ι' ah ∧ K ah = some r := by
  unfold KK at h
  split at h
  · rename_i q aW aA
    split at h
    · rename_i e hu
      refine ⟨by rw [hu]; rfl, ?_⟩
      split at h
      · rename_i inf z bt hz
        split at h
        · rename_i nb v' es m cs aG
          split at h
          · rename_i hb
            simp only [Bool.and_eq_true, List.all_eq_true, Bool.not_eq_true', List.isEmpty_eq_false_iff] at hb
            obtain ⟨⟨e1, e2⟩, ⟨h1, h2⟩, h3⟩ := hb
            have e1 := Nat.eq_of_beq_eq_true e1
            have e2 := Nat.eq_of_beq_eq_true e2
            have h2 := Nat.eq_of_beq_eq_true h2
            subst e1
            obtain ⟨_, hv⟩ := hx.2 _ _ _ _ (dk aG)
            obtain ⟨e3, hv⟩ := hv rfl
            obtain ⟨g1, g2, g3⟩ := hE.row _ _ aG
            subst hv
            have hzc : ∀ y ∈ aX z.cells (m * inf.size), Cell y := fun y hy => pI (h1 y (lp h3 y hy)) fun n c => jl hz n c y (lp h3 y hy)
            by_cases hm : m = 0
            · subst hm
              have te : cs = [] := by rw [Nat.zero_mul] at g1; exact List.eq_nil_of_length_eq_zero g1
              have H4 : aX z.cells (0 * inf.size) = [] := by rw [Nat.zero_mul]; rfl
              rw [H4, ← te, qx aG] at h
              refine ⟨H, rows, ι, ?_, hE, Le.refl _ _, h⟩
              unfold dc
              split <;> rfl
            · have hn : ¬ (nb = true ∧ m = 0) := fun hn => hm hn.2
              unfold dc
              rw [if_neg hn]
              obtain ⟨m', rfl⟩ : ∃ m', m = m' + 1 := ⟨m - 1, by omega⟩
              have gI : ag cs 0 (aX z.cells ((m' + 1) * inf.size)) = aX z.cells ((m' + 1) * inf.size) := by
                have := nX (aX z.cells ((m' + 1) * inf.size)) [] cs (by rw [lW, g1, e2])
                simpa using this
              obtain ⟨t1, t2⟩ := hE.Ft aG hn (dE := aX z.cells ((m' + 1) * inf.size)) (by rw [lW, e2]) hzc
              refine ⟨_, _, ι, ?_, t1, t2, h⟩
              simp only [qW, hu, bt, hz, Fu hE (g3 hn)]
              rw [if_pos ⟨by rw [e3, e2], h2, by rw [g1, e2]; omega, uz (fun y hy => pI (h1 y hy) fun n c => jl hz n c y hy), by omega, h3⟩, gI]
          · cases h
        · cases h
      · cases h
    · cases h
  · cases h
end
end Go.Abs
end
noncomputable section
namespace Go.Abs
section
variable {R : Type}
def U5 (rows:Rows) (x:S1) (K:S1->Rows->Option R):Option R:=
 match x with
 | .own r aW _=>match rows[r]? with
  | some (some (.vec nb v aA n cs))=>match Nat.beq aW v with
   | true=>K (.list n cs) (rows.set r (some (.jR nb v aA n)))
   | false=>none
  | _=>none
 | .raw .av=>K (.list 0 []) rows
 | .bool b=>K (.bool b) rows
 | .int k n=>K (.int k n) rows
 | .aL k o=>K (.aL k o) rows
 | .string s=>K (.string s) rows
 | .list n cs=>K (.list n cs) rows
 | .nl n cs=>K (.nl n cs) rows
 | _=>none
def aaE:Rows->List S2->(List S2->Rows->Option R)->Option R
 | rows,[],K=>K [] rows
 | rows,.b x::xs,K=>U5 rows x fun y ah=>aaE ah xs fun ys vZ=>K (.b y::ys) vZ
 | _,.fn _ _ _::_,_=>none
def aaF (rows:Rows) (x:SV) (K:SV->Rows->Option R):Option R:=
 match x with
 | .s (.agg cs)=>aaE rows cs fun ys ah=>K (.s (.agg ys)) ah
 | .s (.o (.b x))=>U5 rows x fun y ah=>K (.aT y) ah
 | _=>none
def RK:Rows->List (Nat × SV)->(List (Nat × SV)->Rows->Option R)->Option R
 | rows,[],K=>K [] rows
 | rows,(k,x)::ps,K=>aaF rows x fun y ah=>RK ah ps fun qs vZ=>K ((k,y)::qs) vZ
end
def v_ {R:Type} (P:Program) (rows:Rows) (t:TypeId) (len:Nat) (parts:List (Nat × SV)) (K:S1->Rows->Option R):Option R:=
 match P.underlying t with
 | some (.slice e)=>match P.info? e,zeroOf P e with
  | some inf,some z=>match decide (len*inf.size<=16777216)&&z.cells.length==inf.size with
   | true=>match BA rows (fun k=>some (k*inf.size,inf.size)) ((aX z.cells (len*inf.size)).map fun c=>.b (mU c)) parts with
    | some cs=>K (.fX rows.length 0 len inf.size) (rows++[some (.lit cs)])
    | none=>none
   | false=>none
  | _,_=>none
 | _=>none
def afJ (P:Program) (t:TypeId):Bool:=
 match P.underlying t with
 | some (.slice e)=>match P.underlying e with
  | some (.func _ _ _)=>true
  | _=>false
 | _=>false
section
variable {C : cp} {ι : Nat → Nat} {rows : Rows} {H : af} {P : Program} {R : Type} {r : R}
theorem Fg (hE:aE C ι rows H) {t:TypeId} {len:Nat} {parts:List (Nat × SV)} {k_:List (Nat × AV)} {K:S1->Rows->Option R} (hp:aQ (fun p q=>p.1=q.1/\RV ι rows p.2 q.2) parts k_)
  (h:v_ P rows t len parts K=some r):
  ∃ y H' ys ah ι',bC P H t len k_=some (y,H')/\aE C ι' ah H'/\R1 ι' ah ys y/\Le ι rows ι' ah/\K ys ah=some r:=by
 unfold v_ at h
 unfold bC
 split at h
 ·rename_i e hu
  split at h
  ·rename_i inf z bt hz
   split at h
   ·rename_i hc
    split at h
    ·rename_i cs te
     have h0:aQ (R2 ι rows) ((aX z.cells (len*inf.size)).map fun c=>.b (mU c)) (aX z.cells (len*inf.size)):=by
      have:=aQ.of_map (R:=R2 ι rows) (fun c=>.b (mU c)) id (aX z.cells (len*inf.size)) fun v _=>mV v
      simpa using this
     obtain ⟨out,h1,h2⟩:=uj parts k_ _ _ _ te hp h0
     have le:=jr ι rows (some (.lit cs)) H.n
     refine ⟨_,_,_,_,put ι rows.length H.n,by simp only [hu,bt,hz];rw [if_pos hc,h1];rfl,hE.push (.lit cs) (.cells out) ⟨out,by rw [aH];exact af.cD,h2.mono fun _ _=>le.r2⟩,?_,le,h⟩
     exact ⟨by simp,fun _=>by rw [aH]⟩
    ·cases h
   ·cases h
  ·cases h
 ·cases h
theorem Kn {q:Nat} {nb:Bool} {aW aA n:Nat} {cs:List AV} (h0:rows[q]?=some (some (.vec nb aW aA n cs))):Le ι rows ι (rows.set q (some (.jR nb aW aA n))):=by
 have hq:=bQ h0
 refine Le.of (by simp) fun s hs=>.inl ⟨rfl,?_⟩
 by_cases e:q=s
 ·subst e
  unfold sg
  rw [h0,List.getElem?_set_self hq]
 ·exact eK e
theorem aE.jR (hE:aE C ι rows H) {q:Nat} {nb:Bool} {aW aA n:Nat} {cs:List AV} (h0:rows[q]?=some (some (.vec nb aW aA n cs))) {H':af} (bw:H'.rev.length=H'.n) (dm:H'.fH=0)
  (hk:∀ s row,s≠q->rows[s]?=some (some row)->row.real->∀ ar,H.get (ι s)=some ar->H'.get (ι s)=some ar):aE C ι (rows.set q (some (.jR nb aW aA n))) H':=by
 have hq:=bQ h0
 have le:=Kn (ι:=ι) h0
 have cn:∀ s row,(rows.set q (some (.jR nb aW aA n)))[s]?=some (some row)->(s=q/\row=.jR nb aW aA n)\/(s≠q/\rows[s]?=some (some row)):=by
  intro s row hs
  by_cases e:q=s
  ·subst e
   rw [List.getElem?_set_self hq] at hs
   exact .inl ⟨rfl,by simpa using hs.symm⟩
  ·rw [List.getElem?_set_ne e] at hs
   exact .inr ⟨fun h=>e h.symm,hs⟩
 refine ⟨fun s row hs=>?_,fun s s' a b ha hb ra rb e=>?_,bw,dm⟩
 ·rcases cn s row hs with ⟨rfl,rfl⟩ | ⟨ek,et⟩
  ·trivial
  ·exact (hE.row s row et).mono le (fun hr=>⟨rfl,hk s row ek et hr⟩) fun t ht h=>⟨rfl,(le.st t ht h).1⟩
 ·rcases cn s a ha with ⟨rfl,rfl⟩ | ⟨_,ha'⟩
  ·exact ra.elim
  ·rcases cn s' b hb with ⟨rfl,rfl⟩ | ⟨_,DJ⟩
   ·exact rb.elim
   ·exact hE.inj s s' a b ha' DJ ra rb e
theorem L4 (hE:aE C ι rows H) {x:S1} {v:AV} {K:S1->Rows->Option R} (hx:R1 ι rows x v) (h:U5 rows x K=some r):
  ∃ y ah,aE C ι ah (B1 H v).2/\R1 ι ah y (B1 H v).1/\Le ι rows ι ah/\K y ah=some r/\(∀ cs,v≠.agg cs):=by
 unfold U5 at h
 split at h
 ·rename_i q aW es
  split at h
  ·rename_i nb v' aA n cs aG
   split at h
   ·rename_i ef
    have ef:=Nat.eq_of_beq_eq_true ef
    subst ef
    have hx:R1 ι rows (.own q aW es) v:=hx
    obtain ⟨e,hv⟩:=(hx.2 _ _ _ _ (dk aG)).2 rfl
    obtain ⟨g1,g2,g3⟩:=hE.row _ _ aG
    subst e
    subst hv
    unfold dc
    by_cases hn:nb=true/\n=0
    ·rw [if_pos hn]
     have hc:cs=[]:=by rw [hn.2,Nat.zero_mul] at g1;exact List.eq_nil_of_length_eq_zero g1
     refine ⟨.list n cs,_,hE.jR aG hE.ok hE.fH fun _ _ _ _ _ _ h=>h,?_,Kn aG,h,fun _ h=>by cases h⟩
     rw [hc,hn.2]
     exact ⟨rfl,fun x hx=>by cases hx⟩
    ·rw [if_neg hn]
     have hg:=g3 hn
     have hf:B1 H (.slice (ι q) 0 n es)=(.list n cs,H.kill (ι q)):=by simp only [B1,hg]
     rw [hf]
     refine ⟨.list n cs,_,hE.jR aG (by simp [af.kill,hE.ok]) hE.fH ?_,⟨rfl,g2⟩,Kn aG,h,fun _ h=>by cases h⟩
     intro s row ek hs hr ar har
     rw [af.fa hE.ok (af.cT hg)]
     rw [if_neg fun e=>ek (hE.inj s q row _ hs aG hr hn e)]
     exact har
   ·cases h
  ·cases h
 ·have hx:v=.av:=hx
  subst hx
  exact ⟨.list 0 [],_,hE,⟨rfl,fun x hx=>by cases hx⟩,Le.refl _ _,h,fun _ h=>by cases h⟩
 ·have hx:v=_:=hx
  subst hx
  exact ⟨.bool _,_,hE,rfl,Le.refl _ _,h,fun _ h=>by cases h⟩
 ·have hx:v=_:=hx
  subst hx
  exact ⟨.int _ _,_,hE,rfl,Le.refl _ _,h,fun _ h=>by cases h⟩
 ·have hx:v=_:=hx
  subst hx
  exact ⟨.aL _ _,_,hE,rfl,Le.refl _ _,h,fun _ h=>by cases h⟩
 ·have hx:v=_:=hx
  subst hx
  exact ⟨.string _,_,hE,rfl,Le.refl _ _,h,fun _ h=>by cases h⟩
 ·obtain ⟨e,hc⟩:=(show _/\_ from hx)
  subst e
  exact ⟨.list _ _,_,hE,⟨rfl,hc⟩,Le.refl _ _,h,fun _ h=>by cases h⟩
 ·obtain ⟨e,hc⟩:=(show _/\_ from hx)
  subst e
  exact ⟨.nl _ _,_,hE,⟨rfl,hc⟩,Le.refl _ _,h,fun _ h=>by cases h⟩
 ·cases h
theorem L5:∀ {xs:List S2} {vs:List AV} {rows:Rows} {H:af} {K:List S2->Rows->Option R},aE C ι rows H->aQ (R2 ι rows) xs vs->aaE rows xs K=some r->
  ∃ ys ah,aE C ι ah (OG H vs).2/\aQ (R2 ι ah) ys (OG H vs).1/\Le ι rows ι ah/\K ys ah=some r
 | [],_,rows,H,K,hE,.nil,h=>⟨[],rows,hE,.nil,Le.refl _ _,h⟩
 | .b x::xs,_,rows,H,K,hE,.cons hx hs,h=>by
  obtain ⟨y,ff,k1,k2,k3,k4,_⟩:=L4 hE (show R1 ι rows x _ from hx) h
  obtain ⟨ys,o8,k5,k6,k7,k8⟩:=L5 k1 (hs.mono fun _ _=>k3.r2) k4
  exact ⟨_,o8,k5,.cons (k7.r2 (x:=.b y) k2) k6,k3.trans k7,k8⟩
 | .fn _ _ _::_,_,rows,H,K,hE,_,h=>by cases h
theorem U6 (hE:aE C ι rows H) {x:SV} {v:AV} {K:SV->Rows->Option R} (hx:RV ι rows x v) (h:aaF rows x K=some r):
  ∃ y ah,aE C ι ah (FB H v).2/\RV ι ah y (FB H v).1/\Le ι rows ι ah/\K y ah=some r:=by
 unfold aaF at h
 split at h
 ·obtain ⟨vs,e,hs⟩:=hx
  subst e
  obtain ⟨ys,ff,k1,k2,k3,k4⟩:=L5 hE hs h
  exact ⟨.s (.agg ys),ff,k1,⟨_,rfl,k2⟩,k3,k4⟩
 ·rename_i x
  obtain ⟨y,ff,k1,k2,k3,k4,k5⟩:=L4 hE (show R1 ι rows x v from hx) h
  have e:FB H v=B1 H v:=by
   unfold FB
   split
   ·exact absurd rfl (k5 _)
   ·rfl
  rw [e]
  exact ⟨.aT y,ff,k1,k2,k3,k4⟩
 ·cases h
theorem HA:∀ {ps:List (Nat × SV)} {qs:List (Nat × AV)} {rows:Rows} {H:af} {K:List (Nat × SV)->Rows->Option R},aE C ι rows H->
  aQ (fun (p:Nat × SV) (q:Nat × AV)=>p.1=q.1/\RV ι rows p.2 q.2) ps qs->RK rows ps K=some r->
  ∃ mi ah,aE C ι ah (ox H qs).2/\aQ (fun (p:Nat × SV) (q:Nat × AV)=>p.1=q.1/\RV ι ah p.2 q.2) mi (ox H qs).1/\Le ι rows ι ah/\K mi ah=some r
 | [],_,rows,H,K,hE,.nil,h=>⟨[],rows,hE,.nil,Le.refl _ _,h⟩
 | (k,x)::ps,(k',v)::qs,rows,H,K,hE,.cons hx hs,h=>by
  obtain ⟨e,hx⟩:=hx
  have e:k=k':=e
  subst e
  obtain ⟨y,ff,k1,k2,k3,k4⟩:=U6 hE hx h
  obtain ⟨ys,o8,k5,k6,k7,k8⟩:=HA k1 (hs.mono fun _ _ hp=>⟨hp.1,k3.rv hp.2⟩) k4
  exact ⟨_,o8,k5,.cons ⟨rfl,k7.rv k2⟩ k6,k3.trans k7,k8⟩
end
end Go.Abs
end
noncomputable section
namespace Go.Abs
section
variable (P : Program)
def qo (eq:TypeId->AV->AV->Option Bool) (xs ys:List AV):List Field->Option Bool
 | []=>some true
 | f :: fs => match decide (f.name = "_") with
  | true=>none
  | false=>match apart P f.type xs f.offset,apart P f.type ys f.offset with
   | some a,some b=>match eq f.type a b with
    | some p=>match qo eq xs ys fs with
     | some q=>some (p&&q)
     | none=>none
    | none=>none
   | _,_=>none
def seqItems (eq:TypeId->AV->AV->Option Bool) (e:TypeId) (c:Nat) (xs ys:List AV):List Nat->Option Bool
 | []=>some true
 | i::is=>match apart P e xs (i*c),apart P e ys (i*c) with
  | some a,some b=>match eq e a b with
   | some p=>match seqItems eq e c xs ys is with
    | some q=>some (p&&q)
    | none=>none
   | none=>none
  | _,_=>none
def seq:Nat->TypeId->AV->AV->Option Bool
 | 0,_,_,_=>none
 | d+1,t,x,y=>
  match P.underlying t with
  | some .bool=>match x,y with
   | .bool a,.bool b=>some (S_ (a==b))
   | _,_=>none
  | some (.int _)=>match x,y with
   | .int k a,.int k' b=>match decide (k=k') with
    | true=>some (S_ (a==b))
    | false=>none
   | _,_=>none
  | some (.float _)=>match x,y with
   | .aL k a,.aL k' b=>match decide (k=k') with
    | true=>some (S_ (aM k a b==some .eq))
    | false=>none
   | _,_=>none
  | some .string=>match x,y with
   | .string a,.string b=>some (S_ (a.data.toList==b.data.toList))
   | _,_=>none
  | some (.struct fs)=>match x,y with
   | .agg xs,.agg ys=>match P.stoodInHeld t with
    | true=>none
    | false=>qo P (seq d) xs ys fs.toList
   | _,_=>none
  | some (.array n e)=>match x,y,P.info? e with
   | .agg xs,.agg ys,some i=>seqItems P (seq d) e i.size xs ys (List.range n)
   | _,_,_=>none
  | _=>none
def qp:List S2->Option (List AV)
 | []=>some []
 | .b x::xs=>match E5 x,qp xs with
  | some a,some as=>some (a::as)
  | _,_=>none
 | _::_=>none
def E6 {R:Type} (op:BinOp) (t:TypeId) (xs ys:List S2) (K:S1->Option R):Option R:=
 match qp xs,qp ys with
 | some as,some bs=>match P.eqGuardType P.depth t with
  | true=>none
  | false=>match seq P 64 t (.agg as) (.agg bs) with
   | some r=>match op with
    | .eql=>K (.bool (S_ r))
    | .neq=>K (.bool (S_ (!r)))
    | _=>none
   | none=>none
 | _,_=>none
end
section
variable {P : Program} {ι : Nat → Nat} {rows : Rows}
theorem ub {f g:TypeId->AV->AV->Option Bool} (hf:∀ t x y b,f t x y=some b->g t x y=some b) {xs ys:List AV}:∀ {fs:List Field} {b:Bool},qo P f xs ys fs=some b->gB g P xs ys fs=some b
 | [],b,h=>h
 | fd::fs,b,h=>by
  simp only [qo] at h
  split at h
  ·cases h
  ·rename_i hn
   simp only [gB]
   rw [if_neg (of_decide_eq_false hn)]
   split at h
   ·rename_i a c h1 h2
    rw [h1,h2]
    split at h
    ·rename_i p hp
     split at h
     ·rename_i q hq
      simp only [Option.some.injEq] at h
      subst h
      have Ix:=hf _ _ _ _ hp
      simp only [Ix]
      cases p with
      | true=>simpa using ub hf hq
      | false=>rfl
     ·cases h
    ·cases h
   ·cases h
theorem xj {f g:TypeId->AV->AV->Option Bool} (hf:∀ t x y b,f t x y=some b->g t x y=some b) {e:TypeId} {c:Nat} {xs ys:List AV}:∀ {is:List Nat} {b:Bool},seqItems P f e c xs ys is=some b->jZ g P e c xs ys is=some b
 | [],b,h=>h
 | i::is,b,h=>by
  simp only [seqItems] at h
  simp only [jZ]
  split at h
  ·rename_i a d h1 h2
   rw [h1,h2]
   split at h
   ·rename_i p hp
    split at h
    ·rename_i q hq
     simp only [Option.some.injEq] at h
     subst h
     have Ix:=hf _ _ _ _ hp
     simp only [Ix]
     cases p with
     | true=>simpa using xj hf hq
     | false=>rfl
    ·cases h
   ·cases h
  ·cases h
theorem RF:∀ (d:Nat) (t:TypeId) (x y:AV) (b:Bool),seq P d t x y=some b->wO P d t x y=some b
 | 0,t,x,y,b,h=>by cases h
 | d+1,t,x,y,b,h=>by
  have ih:=RF d
  unfold seq at h
  unfold wO
  split at h
  ·rename_i ht
   rw [ht]
   split at h
   ·rw [ab] at h;exact h
   ·cases h
  ·rename_i k0 ht
   rw [ht]
   split at h
   ·split at h
    ·rename_i hk
     rw [ab] at h
     simp only [of_decide_eq_true hk,if_true]
     exact h
    ·cases h
   ·cases h
  ·rename_i k0 ht
   rw [ht]
   split at h
   ·rename_i k a k' c
    split at h
    ·rename_i hk
     have hk:=of_decide_eq_true hk
     subst hk
     rw [ab] at h
     cases a with
     | none=>cases c with
      | none=>simpa [aM] using h
      | some c=>simpa [aM] using h
     | some a=>cases c with
      | none=>simpa [aM] using h
      | some c=>simpa [aM] using h
    ·cases h
   ·cases h
  ·rename_i ht
   rw [ht]
   split at h
   ·rw [ab] at h;exact h
   ·cases h
  ·rename_i fs ht
   rw [ht]
   split at h
   ·split at h
    ·cases h
    ·rename_i hs
     simp only [hs,Bool.false_eq_true,if_false]
     exact ub ih h
   ·cases h
  ·rename_i n e ht
   rw [ht]
   split at h
   ·rename_i i hi
    simp only [hi]
    exact xj ih h
   ·cases h
  ·cases h
theorem pk:∀ {xs:List S2} {vs us:List AV},aQ (R2 ι rows) xs vs->qp xs=some us->vs=us
 | [],[],us,_,h=>by simp only [qp,Option.some.injEq] at h;exact h
 | x::xs,v::vs,us,.cons hx ht,h=>by
  cases x with
  | b x=>
   simp only [qp] at h
   split at h
   ·rename_i a as h1 h2
    simp only [Option.some.injEq] at h
    subst h
    rw [(ib (show R1 ι rows x v from hx) h1).1,pk ht h2]
   ·cases h
  | fn f a b=>cases h
theorem Kf {R:Type} {r:R} {op:BinOp} {t:TypeId} {cx cy:Bool} {xs ys:List S2} {v u:AV} {K:S1->Option R} (h:E6 P op t xs ys K=some r)
  (hx:RV ι rows (.s (.agg xs)) v) (hy:RV ι rows (.s (.agg ys)) u):∃ z ys,fW P op t cx cy v u=some z/\R1 ι rows ys z/\K ys=some r:=by
 obtain ⟨vs,rfl,hx⟩:=hx
 obtain ⟨us,rfl,hy⟩:=hy
 unfold E6 at h
 split at h
 ·rename_i as bs h1 h2
  have e1:=pk hx h1
  have e2:=pk hy h2
  subst e1;subst e2
  split at h
  ·cases h
  ·rename_i hg
   split at h
   ·rename_i q hq
    have hq':=RF _ _ _ _ _ hq
    have key:∀ o:BinOp,fW P o t cx cy (.agg vs) (.agg us)=match o,some q with
      | .eql,some r=>some (.bool r)
      | .neq,some r=>some (.bool !r)
      | _,_=>none:=by
     intro o
     cases o<;>simp only [fW,fL,lC,lD,hg,hq']<;>simp
    split at h
    ·rw [ab] at h
     exact ⟨_,_,key .eql,(show R1 ι rows (.bool q) (.bool q) from rfl),h⟩
    ·rw [ab] at h
     exact ⟨_,_,key .neq,(show R1 ι rows (.bool (!q)) (.bool (!q)) from rfl),h⟩
    ·cases h
   ·cases h
 ·cases h
end
end Go.Abs
end
noncomputable section
namespace Go.Abs
def sM:SV->Option AV
 | .s (.o (.b x))=>E5 x
 | .s (.agg cs)=>match jH cs with
  | some l=>some (.agg l)
  | none=>none
 | _=>none
def iq (P:Program) (kt e:TypeId) (k:AV) (es:List (AV × AV × Nat)):Option (Bool × AV):=
 match cb P kt k es 0 with
 | some (some p)=>some (true,p.2)
 | some none=>match zeroOf P e with
  | some z=>some (false,z)
  | none=>none
 | none=>none
def GW (P:Program) (kt:TypeId) (k v:AV) (es:List (AV × AV × Nat)) (clock:Nat):Option (List (AV × AV × Nat) × Nat):=
 match cb P kt k es 0 with
 | some (some p)=>match es[p.1]? with
  | some e=>match dW 64 e.1 k with
   | true=>some (es.set p.1 (k,v,e.2.2),clock)
   | false=>none
  | none=>none
 | some none=>some (es++[(k,v,clock)],clock+1)
 | none=>none
def RL (P:Program) (kt el:TypeId) (k:AV) (es:List (AV × AV × Nat)) (clock:Nat):Option (AV × Nat × List (AV × AV × Nat) × Nat):=
 match cb P kt k es 0 with
 | some (some p)=>match es[p.1]? with
  | some e=>match dW 64 e.1 k with
   | true=>some (p.2,e.2.2,es.set p.1 (k,e.2.1,e.2.2),clock)
   | false=>none
  | none=>none
 | some none=>match zeroOf P el with
  | some z=>some (z,clock,es++[(k,z,clock)],clock+1)
  | none=>none
 | none=>none
def RM (b:Int) (v:AV) (es:List (AV × AV × Nat)):Option (List (AV × AV × Nat)):=
 match pT b es 0 with
 | some i=>match es[i]? with
  | some e=>some (es.set i (e.1,v,e.2.2))
  | none=>none
 | none=>none
def Fh:CK->Bool
 | .list | .nl=>false
 | _=>true
def asAgg:AV->Option (List AV)
 | .agg cs=>some cs
 | _=>none
section
variable {R : Type}
def U7:List CK->List AV->(List S2->Option R)->Option R
 | [],_,K=>K []
 | k::ks,cs,K=>E8 k (cs.getD 0 .top) fun c=>U7 ks cs.tail fun l=>K (c::l)
def yz (P:Program) (t:TypeId) (v:AV) (K:S3->Option R):Option R:=
 match P.underlying t with
 | some d=>match me d with
  | true=>match yA P 8 t with
   | some ks=>match ks.all Fh with
    | true=>bO (asAgg v) fun cs=>gO (S_ (decide (cs.length=ks.length))) (U7 ks cs fun l=>K (.agg l))
    | false=>none
   | none=>none
  | false=>match kindOf P t with
   | some k=>match Fh k with
    | true=>E8 k v fun c=>K (.o c)
    | false=>none
   | none=>none
 | none=>none
def L6:Option SV->Bool
 | none=>true
 | some x=>match x.b1 with
  | .int _ _=>true
  | _=>false
def BB (P:Program) (rows:Rows) (t:TypeId) (hint:Option SV) (K:S1->Rows->Option R):Option R:=
 match P.underlying t with
 | some (.map _ _)=>match L6 hint with
  | true=>K (.mp rows.length) (rows++[some (.dM [] 0)])
  | false=>none
 | _=>none
def Ko (P:Program) (rows:Rows) (t:TypeId) (x:S1) (k:SV) (ok:Bool) (K:SV->Option R):Option R:=
 match P.underlying t with
 | some (.map kt e)=>match x,sM k with
  | .mp r,some kv=>match rows[r]? with
   | some (some (.dM es _))=>match qD P 64 kt kv with
    | true=>bO (iq P kt e kv es) fun p=>yz P e p.2 fun y=>K (match ok with
     | true=>.tuple [y,.o (.b (.bool p.1))]
     | false=>.s y)
    | false=>none
   | _=>none
  | _,_=>none
 | _=>none
def L7 (P:Program) (rows:Rows) (t:TypeId) (m:S1) (k x:SV) (K:Rows->Option R):Option R:=
 match P.underlying t with
 | some (.map kt _)=>match m,sM k,sM x with
  | .mp r,some kv,some xv=>match rows[r]? with
   | some (some (.dM es clock))=>match qD P 64 kt kv with
    | true=>bO (GW P kt kv xv es clock) fun p=>K (rows.set r (some (.dM p.1 p.2)))
    | false=>none
   | _=>none
  | _,_,_=>none
 | _=>none
def Kp (P:Program) (rows:Rows) (t:TypeId) (m:S1) (k:SV) (K:SV->Rows->Option R):Option R:=
 match P.underlying t with
 | some (.map kt e)=>match m,sM k with
  | .mp r,some kv=>match rows[r]? with
   | some (some (.dM es clock))=>match qD P 64 kt kv with
    | true=>bO (RL P kt e kv es clock) fun p=>yz P e p.1 fun y=>K (.tuple [y,.o (.b (.int .i64 p.2.1))]) (rows.set r (some (.dM p.2.2.1 p.2.2.2)))
    | false=>none
   | _=>none
  | _,_=>none
 | _=>none
def wa (rows:Rows) (m s:S1) (x:SV) (K:Rows->Option R):Option R:=
 match m,s,sM x with
 | .mp r,.int _ b,some xv=>match rows[r]? with
  | some (some (.dM es clock))=>bO (RM b xv es) fun cN=>K (rows.set r (some (.dM cN clock)))
  | _=>none
 | _,_,_=>none
end
section
variable {C : cp} {ι : Nat → Nat} {rows : Rows} {H : af} {P : Program} {R : Type} {r : R}
theorem ld {x:SV} {v u:AV} (hx:RV ι rows x v) (h:sM x=some u):v=u:=by
 unfold sM at h
 split at h
 ·exact (ib hx h).1
 ·rename_i cs
  split at h
  ·rename_i l hl
   simp only [Option.some.injEq] at h;subst h
   obtain ⟨dE,e,h1⟩:=hx
   rw [e,(eP h1 hl).1]
  ·cases h
 ·cases h
theorem HB {k:CK} {v:AV} {K:S2->Option R} (hk:Fh k=true) (h:E8 k v K=some r):∃ c,R2 ι rows c v/\K c=some r:=by
 cases k with
 | list=>cases hk
 | nl=>cases hk
 | int k=>
  obtain ⟨n,h1,h2⟩:=bE h
  unfold asInt at h1
  split at h1
  ·split at h1
   ·rename_i e;subst e
    simp only [Option.some.injEq] at h1;subst h1
    exact ⟨.b (.int _ _),(rfl:R1 ι rows (.int _ _) _),h2⟩
   ·cases h1
  ·cases h1
 | bool=>
  obtain ⟨n,h1,h2⟩:=bE h
  unfold asBool at h1
  split at h1
  ·simp only [Option.some.injEq] at h1;subst h1
   exact ⟨.b (.bool _),(rfl:R1 ι rows (.bool _) _),h2⟩
  ·cases h1
 | float k=>
  obtain ⟨n,h1,h2⟩:=bE h
  unfold aq at h1
  split at h1
  ·split at h1
   ·rename_i e;subst e
    simp only [Option.some.injEq] at h1;subst h1
    exact ⟨.b (.aL _ _),(rfl:R1 ι rows (.aL _ _) _),h2⟩
   ·cases h1
  ·cases h1
 | string=>
  obtain ⟨n,h1,h2⟩:=bE h
  unfold asString at h1
  split at h1
  ·simp only [Option.some.injEq] at h1;subst h1
   exact ⟨.b (.string _),(rfl:R1 ι rows (.string _) _),h2⟩
  ·cases h1
theorem L8:∀ (ks:List CK) (cs:List AV) (K:List S2->Option R),ks.all Fh=true->cs.length=ks.length->U7 ks cs K=some r->∃ l,aQ (R2 ι rows) l cs/\K l=some r
 | [],[],K,_,_,h=>⟨[],.nil,h⟩
 | [],_::_,K,_,hl,h=>by simp at hl
 | k::ks,[],K,_,hl,h=>by simp at hl
 | k::ks,c::cs,K,hk,hl,h=>by
  simp only [List.all_cons,Bool.and_eq_true] at hk
  simp only [U7] at h
  obtain ⟨x,h1,h2⟩:=HB (ι:=ι) (rows:=rows) hk.1 h
  obtain ⟨l,h3,h4⟩:=L8 ks cs _ hk.2 (by simpa using hl) h2
  exact ⟨x::l,.cons (by simpa using h1) h3,h4⟩
theorem BC {t:TypeId} {v:AV} {K:S3->Option R} (h:yz P t v K=some r):∃ y,R3 ι rows y v/\K y=some r:=by
 unfold yz at h
 split at h
 ·split at h
  ·split at h
   ·split at h
    ·rename_i hk
     obtain ⟨cs,h1,h2⟩:=bE h
     obtain ⟨h3,h4⟩:=aO h2
     obtain ⟨l,h5,h6⟩:=L8 (ι:=ι) (rows:=rows) _ _ _ hk h3 h4
     unfold asAgg at h1
     split at h1
     ·simp only [Option.some.injEq] at h1;subst h1
      exact ⟨.agg l,⟨_,rfl,h5⟩,h6⟩
     ·cases h1
    ·cases h
   ·cases h
  ·split at h
   ·split at h
    ·rename_i hk
     obtain ⟨c,h1,h2⟩:=HB (ι:=ι) (rows:=rows) hk h
     exact ⟨.o c,h1,h2⟩
    ·cases h
   ·cases h
 ·cases h
theorem qt {q:Nat} {es:List (AV × AV × Nat)} {clock:Nat} (h:rows[q]?=some (some (.dM es clock))):sg rows q=none:=by
 unfold sg;rw [h]
theorem wb (hE:aE C ι rows H) {q:Nat} {es cN:List (AV × AV × Nat)} {clock jt:Nat} (h:rows[q]?=some (some (.dM es clock))):
  aE C ι (rows.set q (some (.dM cN jt))) (H.ij (ι q) (.map cN jt))/\Le ι rows ι (rows.set q (some (.dM cN jt))):=by
 have cC:=bQ h
 refine hE.Rp h trivial (.dM cN jt) (.map cN jt) ?_ fun _=>?_
 ·rw [qt h,qt (List.getElem?_set_self cC)]
 ·obtain ⟨ar,ha⟩:=(hE.row _ _ h).Fi trivial
  show (H.ij (ι q) _).get (ι q)=_
  rw [af.iS hE.ok _ (af.cT ha),if_pos rfl]
theorem HC (hE:aE C ι rows H) {t:TypeId} {hint:Option SV} {hint':Option AV} {K:S1->Rows->Option R} (hh:∀ x,hint=some x->∃ v,hint'=some v/\RV ι rows x v) (h0:hint=none->hint'=none)
  (h:BB P rows t hint K=some r):∃ y H' ys ah ι',jb P H t hint'=some (y,H')/\aE C ι' ah H'/\R1 ι' ah ys y/\Le ι rows ι' ah/\K ys ah=some r:=by
 unfold BB at h
 split at h
 ·rename_i kt e hu
  split at h
  ·rename_i hi
   have fR:isInt hint'=true:=by
    cases hint with
    | none=>rw [h0 rfl];rfl
    | some x=>
     obtain ⟨v,hv,hr⟩:=hh x rfl
     rw [hv]
     simp only [L6] at hi
     have hb:=bo hr
     split at hi
     ·rename_i k n hx
      rw [hx] at hb
      have hb:v=.int _ _:=hb
      rw [hb];rfl
     ·cases hi
   have le:=jr ι rows (some (.dM [] 0)) H.n
   refine ⟨.map H.n,H.push (.map [] 0),.mp rows.length,rows++[some (.dM [] 0)],put ι rows.length H.n,by simp only [jb,hu,fR],
    hE.push (.dM [] 0) (.map [] 0) ?_,⟨by simp,fun _=>by rw [aH]⟩,le,h⟩
   show (H.push (.map [] 0)).get (put ι rows.length H.n rows.length)=_
   rw [aH];exact af.cD
  ·cases h
 ·cases h
theorem uk (hE:aE C ι rows H) {q:Nat} {es:List (AV × AV × Nat)} {clock:Nat} (h:rows[q]?=some (some (.dM es clock))):H.get (ι q)=some (.map es clock):=hE.row _ _ h
theorem Od (hE:aE C ι rows H) {t:TypeId} {x:S1} {k:SV} {v kv:AV} {ok:Bool} {K:SV->Option R} (hx:R1 ι rows x v) (hk:RV ι rows k kv) (h:Ko P rows t x k ok K=some r):
  ∃ y ys,pS P H t v kv ok=some y/\RV ι rows ys y/\K ys=some r:=by
 unfold Ko at h
 split at h
 ·rename_i kt e hu
  split at h
  ·rename_i q u hf
   have:=ld hk hf
   subst this
   split at h
   ·rename_i es clock aG
    have hv:=hx.2 (qt aG)
    subst hv
    have hg:=uk hE aG
    split at h
    ·rename_i jc
     obtain ⟨p,h1,h2⟩:=bE h
     obtain ⟨y,h3,h4⟩:=BC (ι:=ι) (rows:=rows) h2
     have hl:∀ z,(match cb P kt kv es 0 with
       | some (some (_,v))=>some (if ok=true then AV.tuple [v,.bool true] else v)
       | some none=>match zeroOf P e with
        | some z=>some (if ok=true then AV.tuple [z,.bool false] else z)
        | none=>none
       | none=>none)=some z->pS P H t (.map (ι q)) kv ok=some z:=by
      intro z hz
      simp only [pS,hu,DU,hg,jc];exact hz
     have key:(match cb P kt kv es 0 with
       | some (some (_,v))=>some (if ok=true then AV.tuple [v,.bool true] else v)
       | some none=>match zeroOf P e with
        | some z=>some (if ok=true then AV.tuple [z,.bool false] else z)
        | none=>none
       | none=>none)=some (if ok=true then AV.tuple [p.2,.bool p.1] else p.2):=by
      unfold iq at h1
      split at h1
      ·rename_i p0 ER
       obtain ⟨i0,v0⟩:=p0
       simp only [Option.some.injEq] at h1;subst h1
       rw [ER]
      ·rename_i ER
       rw [ER]
       split at h1
       ·rename_i z hz
        simp only [Option.some.injEq] at h1;subst h1
        simp only [hz]
       ·cases h1
      ·cases h1
     refine ⟨_,_,hl _ key,?_,h4⟩
     cases ok with
     | true=>
      simp only [if_true]
      exact ⟨_,rfl,.cons h3 (.cons (rfl:R1 ι rows (.bool p.1) _) .nil)⟩
     | false=>exact h3
    ·cases h
   ·cases h
  ·cases h
 ·cases h
theorem HD (hE:aE C ι rows H) {t:TypeId} {m:S1} {k x:SV} {mv kv xv:AV} {K:Rows->Option R} (hm:R1 ι rows m mv) (hk:RV ι rows k kv) (hx:RV ι rows x xv) (h:L7 P rows t m k x K=some r):
  ∃ H' ah,fD P H t mv kv xv=some H'/\aE C ι ah H'/\Le ι rows ι ah/\K ah=some r:=by
 unfold L7 at h
 split at h
 ·rename_i kt e hu
  split at h
  ·rename_i q u w hf hw
   have:=ld hk hf
   subst this
   have:=ld hx hw
   subst this
   split at h
   ·rename_i es clock aG
    have hv:=hm.2 (qt aG)
    subst hv
    have hg:=uk hE aG
    split at h
    ·rename_i jc
     obtain ⟨p,h1,h2⟩:=bE h
     obtain ⟨a,b⟩:=wb hE (cN:=p.1) (jt:=p.2) aG
     refine ⟨H.ij (ι q) (.map p.1 p.2),_,?_,a,b,h2⟩
     have dm:decide (H.fH<=ι q)=true:=by rw [hE.fH];exact decide_eq_true (Nat.zero_le _)
     simp only [fD,hu,hg,jc,dm,Bool.and_self]
     unfold GW at h1
     split at h1
     ·rename_i p0 ER
      obtain ⟨i0,v0⟩:=p0
      rw [ER]
      simp only at h1 ⊢
      split at h1
      ·rename_i e0 he0
       split at h1
       ·rename_i hs
        simp only [Option.some.injEq] at h1;subst h1
        simp only [he0,hs]
       ·cases h1
      ·cases h1
     ·rename_i ER
      rw [ER]
      simp only [Option.some.injEq] at h1;subst h1
      rfl
     ·cases h1
    ·cases h
   ·cases h
  ·cases h
 ·cases h
theorem Oe (hE:aE C ι rows H) {t:TypeId} {m:S1} {k:SV} {mv kv:AV} {K:SV->Rows->Option R} (hm:R1 ι rows m mv) (hk:RV ι rows k kv) (h:Kp P rows t m k K=some r):
  ∃ y H' ys ah,iF P H t mv kv=some (y,H')/\aE C ι ah H'/\RV ι ah ys y/\Le ι rows ι ah/\K ys ah=some r:=by
 unfold Kp at h
 split at h
 ·rename_i kt e hu
  split at h
  ·rename_i q u hf
   have:=ld hk hf
   subst this
   split at h
   ·rename_i es clock aG
    have hv:=hm.2 (qt aG)
    subst hv
    have hg:=uk hE aG
    split at h
    ·rename_i jc
     obtain ⟨p,h1,h2⟩:=bE h
     obtain ⟨a,b⟩:=wb hE (cN:=p.2.2.1) (jt:=p.2.2.2) aG
     obtain ⟨y,h3,h4⟩:=BC (ι:=ι) (rows:=rows.set q (some (.dM p.2.2.1 p.2.2.2))) h2
     refine ⟨.tuple [p.1,.int .i64 p.2.1],H.ij (ι q) (.map p.2.2.1 p.2.2.2),_,_,?_,a,(show RV ι _ (.tuple [y,.o (.b (.int .i64 p.2.1))]) _ from ⟨_,rfl,.cons h3 (.cons (rfl:R1 ι _ (.int .i64 p.2.1) _) .nil)⟩),b,h4⟩
     have dm:decide (H.fH<=ι q)=true:=by rw [hE.fH];exact decide_eq_true (Nat.zero_le _)
     simp only [iF,hu,hg,jc,dm,Bool.and_self]
     unfold RL at h1
     split at h1
     ·rename_i p0 ER
      obtain ⟨i0,v0⟩:=p0
      rw [ER]
      simp only at h1 ⊢
      split at h1
      ·rename_i e0 he0
       split at h1
       ·rename_i hs
        simp only [Option.some.injEq] at h1;subst h1
        simp only [he0,hs]
       ·cases h1
      ·cases h1
     ·rename_i ER
      rw [ER]
      split at h1
      ·rename_i z hz
       simp only [Option.some.injEq] at h1;subst h1
       simp only [hz]
      ·cases h1
     ·cases h1
    ·cases h
   ·cases h
  ·cases h
 ·cases h
theorem Fj (hE:aE C ι rows H) {m s:S1} {x:SV} {mv sv xv:AV} {K:Rows->Option R} (hm:R1 ι rows m mv) (hs:R1 ι rows s sv) (hx:RV ι rows x xv) (h:wa rows m s x K=some r):
  ∃ H' ah,fE H mv sv xv=some H'/\aE C ι ah H'/\Le ι rows ι ah/\K ah=some r:=by
 unfold wa at h
 split at h
 ·rename_i q kk b w hw
  have:=ld hx hw
  subst this
  split at h
  ·rename_i es clock aG
   have hv:=hm.2 (qt aG)
   subst hv
   have hs:sv=.int _ _:=hs
   subst hs
   have hg:=uk hE aG
   obtain ⟨cN,h1,h2⟩:=bE h
   obtain ⟨a,c⟩:=wb hE (cN:=cN) (jt:=clock) aG
   refine ⟨H.ij (ι q) (.map cN clock),_,?_,a,c,h2⟩
   have dm:decide (H.fH<=ι q)=true:=by rw [hE.fH];exact decide_eq_true (Nat.zero_le _)
   simp only [fE,hg,dm]
   unfold RM at h1
   split at h1
   ·rename_i i0 hi0
    rw [hi0]
    split at h1
    ·rename_i e0 he0
     simp only [Option.some.injEq] at h1;subst h1
     simp only [he0]
    ·cases h1
   ·cases h1
  ·cases h
 ·cases h
end
end Go.Abs
end
noncomputable section
namespace Go.Abs
def Sj:AV->SV
 | .agg cs=>.s (.agg (cs.map fun c=>.b (mU c)))
 | .tuple []=>.tuple []
 | .func f [] []=>.s (.o (.fn f [] []))
 | x=>.aT (mU x)
def qT (tmps:List SV):Operand->SV
 | .tmp t=>(tmps[t]?).getD (.aT .top)
 | .const v=>Sj (cM v)
 | .global _=>.aT .top
 | .func f=>.s (.o (.fn f [] []))
def KQ:SV->Bool
 | .s (.o (.b (.raw .av)))=>true
 | _=>false
def Oz (rows:Rows):S1->Option Bool
 | .raw .bI=>some true
 | .ptr r _=>match (sg rows r).isNone with
  | true=>some false
  | false=>none
 | .fm _ _=>some false
 | _=>none
def Sk (rows:Rows):SV->Bool
 | .s (.o (.b (.ptr r _)))=>(sg rows r).isNone
 | .s (.o (.b (.gk r aW _)))=>nW rows r aW
 | .s (.o (.b (.fm _ _)))=>true
 | .s (.o (.fn _ _ _))=>true
 | _=>false
def adv (f:FloatKind) (o:Option Nat) (k:IntKind):Option Int:=
 match o with
 | some b=>floatToIntVal f b k
 | none=>none
def adw (f:FloatKind) (o:Option Nat) (k:FloatKind):Option Nat:=
 match o with
 | some b=>if f=k then some b else match f.decode b with
  | .number g m e=>if (k.decode (k.encode (.number g m e))).isInfinity then none else some (k.encode (.number g m e))
  | _=>none
 | none=>none
section
variable {R : Type}
def KR (P:Program) (op:BinOp) (t:TypeId) (a b:Bool) (K:S1->Option R):Option R:=
 match P.underlying t with
 | some (.pointer _)=>match a||b with
  | true=>match op with
   | .eql=>K (.bool (a&&b))
   | .neq=>K (.bool (!(a&&b)))
   | _=>none
  | false=>none
 | _=>none
def nlB:S1->S1->Option Nat
 | .nl n _,.raw .av=>some n
 | .raw .av,.nl n _=>some n
 | _,_=>none
def Sl (P:Program) (op:BinOp) (t:TypeId) (n:Nat) (K:S1->Option R):Option R:=
 match P.underlying t with
 | some (.slice _)=>match op with
  | .eql=>K (.bool (S_ (n==0)))
  | .neq=>K (.bool (S_ (!(n==0))))
  | _=>none
 | _=>none
def BV (P:Program) (rows:Rows) (t:TypeId) (x:S1) (K:S1->Option R):Option R:=
 match P.underlying t with
 | some (.array n _)=>match Nat.blt 0 n with
  | true=>match x with
   | .own r aW _=>match sg rows r with
    | some (_,v,_,m)=>match Nat.beq aW v with
     | true=>gO (S_ (decide (n<=m))) (K (.gk r aW 0))
     | false=>none
    | none=>none
   | .sub r aW off m aA=>match nW rows r aW with
    | true=>gO (S_ (decide (n<=m))) (K (.gk r aW (off*aA)))
    | false=>none
   | .list m cs=>gO (S_ (decide (n<=m/\0<cs.length))) (K (.fm cs 0))
   | _=>none
  | false=>none
 | _=>none
def BW (P:Program) (s d:TypeId) (x:S1) (K:S1->Option R):Option R:=
 match P.underlying s,P.underlying d with
 | some sd,some dd=>match dd with
  | .int k=>match x with
   | .int _ n=>K (.int k (S_ (k.wrap n)))
   | .aL f o=>bO (S_ (adv f o k)) fun n=>K (.int k n)
   | _=>none
  | .float k=>match x with
   | .int _ n=>K (.aL k (some (S_ (k.nearest n))))
   | .aL f o=>bO (S_ (adw f o k)) fun b=>K (.aL k (some b))
   | _=>none
  | .string=>match sd with
   | .string=>match x with
    | .string b=>K (.string b)
    | _=>none
   | _=>none
  | _=>none
 | _,_=>none
def KS (P:Program) (t:TypeId) (x:SV) (f:Nat) (K:SV->Option R):Option R:=
 match P.underlying t with
 | some (.struct fs)=>match x with
  | .s (.agg cs)=>match fs[f]? with
   | some fd=>match P.underlying fd.type,P.info? fd.type with
    | some d,some i=>match me d with
     | true=>gO (decide (fd.offset+i.size<=cs.length)) (K (.s (.agg ((cs.drop fd.offset).take i.size))))
     | false=>match cs[fd.offset]? with
      | some c=>K (.s (.o c))
      | none=>none
    | _,_=>none
   | none=>none
  | _=>none
 | _=>none
def wU (k k':FloatKind) (a b:Option Nat):Option (Option Nat):=
 match CL (.aL k a) (.aL k' b) with
 | some (.aL j o)=>match decide (j=k) with
  | true=>some o
  | false=>none
 | _=>none
def wV (k k':FloatKind) (a b:Option Nat):Option (Option Nat):=
 match CJ (.aL k a) (.aL k' b) with
 | some (.aL j o)=>match decide (j=k) with
  | true=>some o
  | false=>none
 | _=>none
def Wy (k:FloatKind) (a:Option Nat):Option (Option Nat):=
 match a with
 | some b=>some (some (Op.negFloat k b))
 | none=>none
theorem Sm {k k':FloatKind} {a b o:Option Nat} (h:wU k k' a b=some o):CL (.aL k a) (.aL k' b)=some (.aL k o):=by
 unfold wU at h
 split at h
 ·rename_i j o' e
  split at h
  ·rename_i hj
   have hj:=of_decide_eq_true hj
   subst hj
   simp only [Option.some.injEq] at h;subst h
   exact e
  ·cases h
 ·cases h
theorem Sn {k k':FloatKind} {a b o:Option Nat} (h:wV k k' a b=some o):CJ (.aL k a) (.aL k' b)=some (.aL k o):=by
 unfold wV at h
 split at h
 ·rename_i j o' e
  split at h
  ·rename_i hj
   have hj:=of_decide_eq_true hj
   subst hj
   simp only [Option.some.injEq] at h;subst h
   exact e
  ·cases h
 ·cases h
def BX (P:Program) (rows:Rows) (b:Builtin) (ts:List TypeId) (args:List SV) (K:SV->Rows->Option R):Option R:=
 match b with
 | .append=>match ts,args with
  | s::x::_,[sv,xv]=>Fs P rows s x sv.b1 xv.b1 fun y ah=>K (.aT y) ah
  | _,_=>none
 | .len=>match ts,args with
  | t::_,[x]=>aaS P rows t x.b1 fun y=>K (.aT y) rows
  | _,_=>none
 | .max=>match args with
  | [x,y]=>match x.b1,y.b1 with
   | .int k a,.int _ b=>K (.aT (.int k (S_ (if b>a then b else a)))) rows
   | .aL k a,.aL k' b=>bO (wV k k' a b) fun o=>K (.aT (.aL k o)) rows
   | _,_=>none
  | _=>none
 | .min=>match args with
  | [x,y]=>match x.b1,y.b1 with
   | .int k a,.int _ b=>K (.aT (.int k (S_ (if b<a then b else a)))) rows
   | .aL k a,.aL k' b=>bO (wU k k' a b) fun o=>K (.aT (.aL k o)) rows
   | _,_=>none
  | _=>none
 | .copy=>match ts,args with
  | t::_,[d,s]=>Sf P rows t d.b1 s.b1 fun y ah=>K (.aT y) ah
  | _,_=>none
 | .clear=>match ts,args with
  | t::_,[x]=>KK P rows t x.b1 fun ah=>K (.aT .top) ah
  | _,_=>none
 | _=>none
def KT (op:UnOp) (x:S1) (K:S1->Option R):Option R:=
 match op with
 | .not=>match x with
  | .bool b=>K (.bool (!b))
  | _=>none
 | .neg=>match x with
  | .aL k o=>bO (Wy k o) fun o=>K (.aL k o)
  | x=>match E5 x with
   | some v=>Kt (om .neg v) K
   | none=>none
 | op=>match E5 x with
  | some v=>Kt (om op v) K
  | none=>none
def opS (P:Program) (ρ:Operand->SV) (rows:Rows) (o:Oper) (K:SV->Rows->Option R):Option R:=
 match o.op with
 | .move x=>K (ρ x) rows
 | .assign x=>match KQ (ρ x) with
  | true=>match RQ P o.type with
   | some e=>K (.aT (.own rows.length 0 e)) (rows++[some (.vec true 0 e 0 [])])
   | none=>K (ρ x) rows
  | false=>K (ρ x) rows
 | .alloc t=>match zeroOf P t with
  | some z=>match jI z.cells (BF P t) rows with
   | (cs,ah)=>K (.aT (.ptr ah.length 0)) (ah++[some (.lit cs)])
  | none=>none
 | .box _ x=>match wg rows (ρ x) with
  | some cs=>K (.aT (.ptr rows.length 0)) (rows++[some (.lit cs)])
  | none=>none
 | .build t parts=>match Ks P rows t (parts.toList.map fun p=>(p.1,ρ p.2)) with
  | some y=>K y rows
  | none=>none
 | .buildSlice t n parts=>match DR P t with
  | true=>RK rows (parts.toList.map fun p=>(p.1,ρ p.2)) fun ps ff=>lV P ff t n ps fun y ah=>K (.aT y) ah
  | false=>match afJ P t with
   | true=>v_ P rows t n (parts.toList.map fun p=>(p.1,ρ p.2)) fun y ah=>K (.aT y) ah
   | false=>lV P rows t n (parts.toList.map fun p=>(p.1,ρ p.2)) fun y ah=>K (.aT y) ah
 | .load t a=>L2 P rows t (ρ a).b1 fun y=>K y rows
 | .store t a x=>Kr P rows t (ρ a).b1 (ρ x) fun ah=>K (.aT .top) ah
 | .nilCheck x=>match Sk rows (ρ x) with
  | true=>K (ρ x) rows
  | false=>none
 | .binOp op t x y _=>match ρ x,ρ y with
  | .s (.agg xs),.s (.agg ys)=>E6 P op t xs ys fun z=>K (.aT z) rows
  | u,v=>match Oz rows u.b1,Oz rows v.b1 with
   | some a,some b=>KR P op t a b fun z=>K (.aT z) rows
   | _,_=>match nlB u.b1 v.b1 with
    | some n=>Sl P op t n fun z=>K (.aT z) rows
    | none=>aaK P op t (isConst x) (isConst y) u.b1 v.b1 fun z=>K (.aT z) rows
 | .unOp op _ x=>KT op (ρ x).b1 fun z=>K (.aT z) rows
 | .convert s d x=>match my P s d with
  | true=>none
  | false=>BW P s d (ρ x).b1 fun y=>K (.aT y) rows
 | .makeFunc fn first cap=>match fn with
  | .func f=>K (.s (.o (.fn f (first.toList.map fun x=>(ρ x).b1) (cap.toList.map fun x=>(ρ x).b1)))) rows
  | _=>none
 | .makeSlice t l c=>sR P rows t (ρ l).b1 (ρ c).b1 fun y ah=>K (.aT y) ah
 | .sliceToArrayPointer t x=>BV P rows t (ρ x).b1 fun y=>K (.aT y) rows
 | .slice t x lo hi none=>KI P rows t (ρ x).b1 (lo.map fun x=>(ρ x).b1) (hi.map fun x=>(ρ x).b1) fun y=>K (.aT y) rows
 | .slice t x lo (some hi) (some mx)=>Fq P t (ρ x).b1 (lo.map fun x=>(ρ x).b1) (ρ hi).b1 (ρ mx).b1 fun y=>K (.aT y) rows
 | .fieldAddr s x f=>match we rows (ρ x).b1 with
  | true=>sN P s (ρ x).b1 f fun y=>K (.aT y) rows
  | false=>none
 | .field t x f=>KS P t (ρ x) f fun y=>K y rows
 | .indexAddr t x ix=>match we rows (ρ x).b1 with
  | true=>sO P rows t (ρ x).b1 (ρ ix).b1 fun y=>K (.aT y) rows
  | false=>none
 | .makeMap t hint=>BB P rows t (hint.map ρ) fun y ah=>K (.aT y) ah
 | .lookup t x k ok=>Ko P rows t (ρ x).b1 (ρ k) ok fun y=>K y rows
 | .mapUpdate t m k x=>L7 P rows t (ρ m).b1 (ρ k) (ρ x) fun ah=>K (.aT .top) ah
 | .insert t m k x=>L7 P rows t (ρ m).b1 (ρ k) (ρ x) fun ah=>K (.aT .top) ah
 | .mapEntry t m k=>Kp P rows t (ρ m).b1 (ρ k) fun y ah=>K y ah
 | .entryStore t m s x=>wa rows (ρ m).b1 (ρ s).b1 (ρ x) fun ah=>K (.aT .top) ah
 | .extract x k=>match ρ x with
  | .tuple xs=>match xs[k]? with
   | some y=>K (.s y) rows
   | none=>none
  | _=>none
 | .call { callee:=.builtin b,args,argTypes }=>BX P rows b argTypes.toList (args.toList.map ρ) K
 | _=>none
end
def bK {R:Type} (C:cp) (ι:Nat->Nat) (rows:Rows) (a:Option (AV × af)) (K:SV->Rows->Option R) (r:R):Prop:=
 ∃ y H' ys ah ι',a=some (y,H')/\aE C ι' ah H'/\RV ι' ah ys y/\Le ι rows ι' ah/\K ys ah=some r
section
variable {C : cp} {ι : Nat → Nat} {rows : Rows} {H : af} {P : Program} {R : Type} {r : R} {fs : fb}
theorem OA (x:AV):RV ι rows (Sj x) x:=by
 unfold Sj
 split
 ·rename_i cs
  refine ⟨cs,rfl,?_⟩
  have:=aQ.of_map (R:=R2 ι rows) (fun c=>.b (mU c)) id cs fun v _=>mV v
  simpa using this
 ·exact ⟨[],rfl,.nil⟩
 ·exact ⟨[],[],rfl,.nil,.nil⟩
 ·exact mV _
theorem dw {tmps:List SV} {bl:List AV} (h:aQ (RV ι rows) tmps bl) (x:Operand):RV ι rows (qT tmps x) (ev (fun _=>none) bl x):=by
 cases x with
 | tmp t=>
  simp only [qT,ev]
  cases hx:tmps[t]? with
  | none=>trivial
  | some y=>
   obtain ⟨v,hv,hr⟩:=h.get hx
   rw [hv]
   exact hr
 | const v=>exact OA _
 | global g=>trivial
 | func f=>exact ⟨[],[],rfl,.nil,.nil⟩
theorem bK.same {y:AV} {ys:SV} {K:SV->Rows->Option R} {a:Option (AV × af)} (hE:aE C ι rows H) (ha:a=some (y,H)) (hy:RV ι rows ys y) (h:K ys rows=some r):bK C ι rows a K r:=
 ⟨y,H,ys,rows,ι,ha,hE,hy,Le.refl _ _,h⟩
theorem HW {s d:TypeId} {x:S1} {v:AV} {K:S1->Option R} (hx:R1 ι rows x v) (h:BW P s d x K=some r):∃ y ys,oB P H s d v=some y/\R1 ι rows ys y/\K ys=some r:=by
 unfold BW at h
 unfold oB
 split at h
 ·rename_i sd dd hs hd
  simp only [hs,hd]
  split at h
  ·rename_i k
   split at h
   ·have hx:v=.int _ _:=hx
    subst hx
    exact ⟨.int _ _,.int _ _,rfl,(show R1 ι rows (.int _ (S_ _)) (.int _ _) by rw [ab];rfl),h⟩
   ·rename_i f o
    have hx:v=.aL f o:=hx
    subst hx
    rw [ab] at h
    obtain ⟨n,h1,h2⟩:=bE h
    cases o with
    | none=>cases h1
    | some b=>exact ⟨.int _ _,.int _ _,by simp only [adv] at h1;simp only [h1],rfl,h2⟩
   ·cases h
  ·rename_i k
   split at h
   ·have hx:v=.int _ _:=hx
    subst hx
    exact ⟨.float _ _,.aL _ _,rfl,(show R1 ι rows (.aL _ (some (S_ _))) (.float _ _) by rw [ab];rfl),h⟩
   ·rename_i f o
    have hx:v=.aL f o:=hx
    subst hx
    rw [ab] at h
    obtain ⟨n,h1,h2⟩:=bE h
    cases o with
    | none=>cases h1
    | some b=>
     refine ⟨.float _ _,.aL _ _,?_,rfl,h2⟩
     simp only [adw] at h1
     show (if f=k then some (AV.float k b) else match f.decode b with
      | .number g m e=>if (k.decode (k.encode (.number g m e))).isInfinity=true then none else some (AV.float k (k.encode (.number g m e)))
      | _=>none)=some (AV.float k n)
     by_cases e:f=k
     ·rw [if_pos e] at h1;rw [if_pos e];simp only [Option.some.injEq] at h1;rw [h1]
     ·rw [if_neg e] at h1;rw [if_neg e]
      split at h1
      ·split at h1
       ·cases h1
       ·rename_i h3
        simp only [Option.some.injEq] at h1
        rw [if_neg h3,h1]
      ·cases h1
   ·cases h
  ·split at h
   ·split at h
    ·have hx:v=.string _:=hx
     subst hx
     exact ⟨.string _,.string _,rfl,rfl,h⟩
    ·cases h
   ·cases h
  ·cases h
 ·cases h
theorem OB {t:TypeId} {x:SV} {v:AV} {f:Nat} {K:SV->Option R} (hx:RV ι rows x v) (h:KS P t x f K=some r):∃ y ys,rj P t v f=some y/\RV ι rows ys y/\K ys=some r:=by
 unfold KS at h
 unfold rj
 split at h
 ·rename_i fs hu
  split at h
  ·rename_i cs
   obtain ⟨dE,e,hc⟩:=hx
   subst e
   split at h
   ·rename_i fd hf
    simp only [hu,hf,apart]
    split at h
    ·rename_i d i hd hi
     simp only [hd,hi]
     split at h
     ·rename_i ha
      obtain ⟨hb,h⟩:=eQ h
      refine ⟨.agg ((dE.drop fd.offset).take i.size),.s (.agg _),?_,⟨_,rfl,(hc.drop fd.offset).take i.size⟩,h⟩
      rw [hc.length] at hb
      cases d<;>first | (simp [me] at ha;done) | (simp only [if_pos hb])
     ·rename_i ha
      split at h
      ·rename_i c hcc
       obtain ⟨y,hy,hr⟩:=hc.get hcc
       refine ⟨y,.s (.o c),?_,hr,h⟩
       cases d<;>first | (simp [me] at ha;done) | exact hy
      ·cases h
    ·cases h
   ·cases h
  ·cases h
 ·cases h
theorem So {x:SV} {v:AV} (hx:RV ι rows x v) (h:Sk rows x=true):jL v=some v:=by
 unfold Sk at h
 split at h
 ·have hx:_/\(sg rows _=none->v=.ptr _ _):=hx
  rw [hx.2 (by simpa using h)];rfl
 ·obtain ⟨nb,e,n,hs⟩:=dR h
  have hx:R1 ι rows (.gk _ _ _) v:=hx
  rw [(hx.2 _ _ _ _ hs).2 rfl];rfl
 ·have hx:R1 ι rows (.fm _ _) v:=hx
  rw [hx.1];rfl
 ·obtain ⟨a,b,e,_⟩:=hx
  rw [e];rfl
 ·cases h
theorem o6 {α:Type} {A:Type} {B:Type} {Q:A->B->Prop} {f:α->A} {g:α->B} (l:List α) (h:∀ x,Q (f x) (g x)):aQ Q (l.map f) (l.map g):=aQ.of_map f g l fun x _=>h x
theorem HX (hE:aE C ι rows H) {b:Builtin} {ts:List TypeId} {args:List SV} {ai:List AV} {K:SV->Rows->Option R} (ha:aQ (RV ι rows) args ai) (h:BX P rows b ts args K=some r):
  bK C ι rows (dn P H b ts ai) K r:=by
 unfold BX at h
 split at h
 ·split at h
  ·rename_i s x _ sv xv
   cases ha with
   | cons h1 ha=>cases ha with
    | cons h2 ha=>cases ha with
     | nil=>
      obtain ⟨y,H',ys,ah,ι',k1,k2,k3,k4,k5⟩:=KP hE (bo h1) (bo h2) h
      exact ⟨y,H',.aT ys,ah,ι',k1,k2,k3,k4,k5⟩
  ·cases h
 ·split at h
  ·rename_i t _ x
   cases ha with
   | cons h1 ha=>cases ha with
    | nil=>
     obtain ⟨y,ys,k1,k2,k3⟩:=Vp (bo h1) h
     exact bK.same hE (by simp only [dn,k1]) (ys:=.aT ys) k2 k3
  ·cases h
 ·split at h
  ·rename_i x y
   cases ha with
   | cons h1 ha=>cases ha with
    | cons h2 ha=>cases ha with
     | nil=>
      have h1:=bo h1
      have h2:=bo h2
      split at h
      ·rename_i k a k' b e1 e2
       rw [e1] at h1;rw [e2] at h2
       have h1:_=AV.int k a:=h1
       have h2:_=AV.int k' b:=h2
       subst h1;subst h2
       exact bK.same hE (y:=.int k (if b>a then b else a)) rfl (ys:=.aT (.int k (S_ (if b>a then b else a)))) (show R1 ι rows (.int _ (S_ _)) (.int _ _) by rw [ab];rfl) h
      ·rename_i k a k' b e1 e2
       rw [e1] at h1;rw [e2] at h2
       have h1:_=AV.aL k a:=h1
       have h2:_=AV.aL k' b:=h2
       subst h1;subst h2
       obtain ⟨o,h3,h4⟩:=bE h
       exact bK.same hE (y:=.aL k o) (by simp only [dn,wR,Sn h3]) (ys:=.aT (.aL k o)) rfl h4
      ·cases h
  ·cases h
 ·split at h
  ·rename_i x y
   cases ha with
   | cons h1 ha=>cases ha with
    | cons h2 ha=>cases ha with
     | nil=>
      have h1:=bo h1
      have h2:=bo h2
      split at h
      ·rename_i k a k' b e1 e2
       rw [e1] at h1;rw [e2] at h2
       have h1:_=AV.int k a:=h1
       have h2:_=AV.int k' b:=h2
       subst h1;subst h2
       exact bK.same hE (y:=.int k (if b<a then b else a)) rfl (ys:=.aT (.int k (S_ (if b<a then b else a)))) (show R1 ι rows (.int _ (S_ _)) (.int _ _) by rw [ab];rfl) h
      ·rename_i k a k' b e1 e2
       rw [e1] at h1;rw [e2] at h2
       have h1:_=AV.aL k a:=h1
       have h2:_=AV.aL k' b:=h2
       subst h1;subst h2
       obtain ⟨o,h3,h4⟩:=bE h
       exact bK.same hE (y:=.aL k o) (by simp only [dn,wR,Sm h3]) (ys:=.aT (.aL k o)) rfl h4
      ·cases h
  ·cases h
 ·split at h
  ·rename_i t _ d x
   cases ha with
   | cons h1 ha=>cases ha with
    | cons h2 ha=>cases ha with
     | nil=>
      obtain ⟨y,H',ys,ah,ι',k1,k2,k3,k4,k5⟩:=Si hE (bo h1) (bo h2) h
      exact ⟨y,H',.aT ys,ah,ι',k1,k2,k3,k4,k5⟩
  ·cases h
 ·split at h
  ·rename_i t _ x
   cases ha with
   | cons h1 ha=>cases ha with
    | nil=>
     obtain ⟨hu,H',ah,ι',k1,k2,k3,k4⟩:=Oy hE (bo h1) h
     exact ⟨.top,H',.aT .top,ah,ι',by simp only [dn,hu,if_true,k1],k2,trivial,k3,k4⟩
  ·cases h
 ·cases h
theorem KU {x:SV} {v:AV} (hx:RV ι rows x v) (h:KQ x=true):v=.av:=by
 unfold KQ at h
 split at h
 ·exact hx
 ·cases h
theorem OC {op:UnOp} {x:S1} {v:AV} {K:S1->Option R} (hx:R1 ι rows x v) (h:KT op x K=some r):∃ z ys,om op v=some z/\R1 ι rows ys z/\K ys=some r:=by
 unfold KT at h
 split at h
 ·split at h
  ·rename_i b
   have hx:v=.bool b:=hx
   subst hx
   exact ⟨.bool (!b),.bool (!b),rfl,rfl,h⟩
  ·cases h
 ·split at h
  ·rename_i k o
   have hx:v=.aL k o:=hx
   subst hx
   obtain ⟨o',h1,h2⟩:=bE h
   cases o with
   | none=>cases h1
   | some b=>
    simp only [Wy,Option.some.injEq] at h1
    subst h1
    exact ⟨.aL k (some (Op.negFloat k b)),.aL k (some (Op.negFloat k b)),rfl,rfl,h2⟩
  ·split at h
   ·rename_i u hu
    obtain ⟨e,_⟩:=ib hx hu
    obtain ⟨z,ys,k1,k2,k3⟩:=qv (ι:=ι) (rows:=rows) h
    exact ⟨z,ys,by rw [e];exact k1,k2,k3⟩
   ·cases h
 ·split at h
  ·rename_i u hu
   obtain ⟨e,_⟩:=ib hx hu
   obtain ⟨z,ys,k1,k2,k3⟩:=qv (ι:=ι) (rows:=rows) h
   exact ⟨z,ys,by rw [e];exact k1,k2,k3⟩
  ·cases h
theorem HY {x:S1} {v:AV} {b:Bool} (hx:R1 ι rows x v) (h:Oz rows x=some b):(b=true/\v=.bI)\/(b=false/\((∃ r o,v=.ptr r o)\/∃ cs o,v=.dK cs o)):=by
 unfold Oz at h
 split at h
 ·cases h;exact .inl ⟨rfl,hx⟩
 ·split at h
  ·rename_i hs
   cases h
   exact .inr ⟨rfl,.inl ⟨_,_,hx.2 (by simpa using hs)⟩⟩
  ·cases h
 ·cases h;exact .inr ⟨rfl,.inr ⟨_,_,hx.1⟩⟩
 ·cases h
theorem OD {op:BinOp} {t:TypeId} {cx cy:Bool} {x y:S1} {v u:AV} {a b:Bool} {K:S1->Option R} (hx:R1 ι rows x v) (hy:R1 ι rows y u) (ha:Oz rows x=some a) (hb:Oz rows y=some b)
  (h:KR P op t a b K=some r):∃ z zs,fW P op t cx cy v u=some z/\R1 ι rows zs z/\K zs=some r:=by
 unfold KR at h
 split at h
 ·rename_i p hp
  split at h
  ·rename_i OJ
   have e:wO P 64 t v u=some (a&&b)/\fL v=true/\fL u=true/\lC v u=false/\lD v u=false/\∀ op,fW P op t cx cy v u=if fL v&&fL u&&!(lC v u&&!(cx||cy))&&!(lD v u&&P.eqGuardType P.depth t) then
     match op,wO P 64 t v u with
     | .eql,some r=>some (.bool r)
     | .neq,some r=>some (.bool !r)
     | _,_=>none
    else none:=by
    rcases HY hx ha with ⟨rfl,rfl⟩ | ⟨rfl,⟨r1,o1,rfl⟩ | ⟨c1,o1,rfl⟩⟩<;>rcases HY hy hb with ⟨rfl,rfl⟩ | ⟨rfl,⟨r2,o2,rfl⟩ | ⟨c2,o2,rfl⟩⟩<;>first
     | (cases OJ;done)
     | exact ⟨by simp only [wO,hp];rfl,rfl,rfl,rfl,rfl,fun op=>by cases op<;>rfl⟩
   obtain ⟨e1,e2,e3,e4,e5,e6⟩:=e
   rw [e6,e1,e2,e3,e4,e5]
   split at h
   ·exact ⟨_,.bool (a&&b),rfl,rfl,h⟩
   ·exact ⟨_,.bool (!(a&&b)),rfl,rfl,h⟩
   ·cases h
  ·cases h
 ·cases h
theorem Sp {op:BinOp} {t:TypeId} {cx cy:Bool} {x y:S1} {v u:AV} {n:Nat} {K:S1->Option R} (hx:R1 ι rows x v) (hy:R1 ι rows y u) (hn:nlB x y=some n)
  (h:Sl P op t n K=some r):∃ z zs,fW P op t cx cy v u=some z/\R1 ι rows zs z/\K zs=some r:=by
 unfold Sl at h
 split at h
 ·rename_i p hp
  have e:wO P 64 t v u=some (n==0)/\fL v=true/\fL u=true/\lC v u=false/\lD v u=false/\∀ op,fW P op t cx cy v u=if fL v&&fL u&&!(lC v u&&!(cx||cy))&&!(lD v u&&P.eqGuardType P.depth t) then
    match op,wO P 64 t v u with
    | .eql,some r=>some (.bool r)
    | .neq,some r=>some (.bool !r)
    | _,_=>none
   else none:=by
   unfold nlB at hn
   split at hn
   ·simp only [Option.some.injEq] at hn;subst hn
    obtain ⟨rfl,_⟩:=(show _/\_ from hx)
    have hy:u=.av:=hy
    subst hy
    exact ⟨by simp only [wO,hp],rfl,rfl,rfl,rfl,fun op=>by cases op<;>rfl⟩
   ·simp only [Option.some.injEq] at hn;subst hn
    obtain ⟨rfl,_⟩:=(show _/\_ from hy)
    have hx:v=.av:=hx
    subst hx
    exact ⟨by simp only [wO,hp],rfl,rfl,rfl,rfl,fun op=>by cases op<;>rfl⟩
   ·cases hn
  obtain ⟨e1,e2,e3,e4,e5,e6⟩:=e
  rw [e6,e1,e2,e3,e4,e5]
  split at h
  ·rw [ab] at h;exact ⟨_,.bool (n==0),rfl,rfl,h⟩
  ·rw [ab] at h;exact ⟨_,.bool (!(n==0)),rfl,rfl,h⟩
  ·cases h
 ·cases h
theorem HZ {t:TypeId} {x:S1} {v:AV} {K:S1->Option R} (hx:R1 ι rows x v) (h:BV P rows t x K=some r):∃ y ys,oE P H t v=some y/\R1 ι rows ys y/\K ys=some r:=by
 unfold BV at h
 unfold oE
 split at h
 ·rename_i n e hu
  split at h
  ·rename_i n9
   rw [Nat.blt_eq] at n9
   split at h
   ·rename_i q aW es
    split at h
    ·rename_i nb v' cN m hs
     split at h
     ·rename_i ef
      have ef:=Nat.eq_of_beq_eq_true ef
      subst ef
      obtain ⟨hle,h⟩:=aO h
      have hx:R1 ι rows (.own q aW es) v:=hx
      obtain ⟨e1,hv⟩:=(hx.2 _ _ _ _ hs).2 rfl
      have hv:v=.slice (ι q) 0 m cN:=by
       rw [hv];unfold dc;rw [if_neg fun hc=>by omega];rw [←e1]
      subst hv
      refine ⟨.ptr (ι q) 0,.gk q aW 0,by simp only [hu];rw [if_pos hle],⟨hx.1,fun m5 v2 e2 n2 CE=>?_⟩,h⟩
      rw [hs] at CE;cases CE
      exact ⟨Nat.le_refl _,fun _=>rfl⟩
     ·cases h
    ·cases h
   ·rename_i q aW off m aA
    split at h
    ·rename_i lx
     obtain ⟨hle,h⟩:=aO h
     obtain ⟨nb,cN,m0,hs⟩:=dR lx
     have hx:R1 ι rows (.sub q aW off m aA) v:=hx
     obtain ⟨e1,e2,hv⟩:=(hx.2 _ _ _ _ hs).2 rfl
     subst e1
     unfold mS at hv
     rw [if_neg fun hc=>by omega] at hv
     rcases hv with hv | ⟨hv,_⟩
     ·subst hv
      refine ⟨.ptr (ι q) (off*aA),.gk q aW (off*aA),by simp only [hu];rw [if_pos hle],⟨hx.1,fun m5 v2 e3 n2 CE=>?_⟩,h⟩
      rw [hs] at CE;cases CE
      exact ⟨Nat.le_refl _,fun _=>rfl⟩
     ·omega
    ·cases h
   ·rename_i m cs
    obtain ⟨hle,h⟩:=aO h
    obtain ⟨e1,hc⟩:=(show _/\_ from hx)
    subst e1
    exact ⟨.dK cs 0,.fm cs 0,by simp only [hu];rw [if_pos hle],⟨rfl,hc⟩,h⟩
   ·cases h
  ·cases h
 ·cases h
theorem aaz (FD:fs.fz=DR P) (hE:aE C ι rows H) {ρs:Operand->SV} {ρ:Operand->AV} (hρ:∀ x,RV ι rows (ρs x) (ρ x)) {o:Oper} {K:SV->Rows->Option R} (h:opS P ρs rows o K=some r):bK C ι rows (bj P fs ρ H o) K r:=by
 unfold opS at h
 have parts:∀ ps:Array (Nat × Operand),aQ (fun (p:Nat × SV) (q:Nat × AV)=>p.1=q.1/\RV ι rows p.2 q.2) (ps.toList.map fun p=>(p.1,ρs p.2)) (ps.toList.map fun p=>(p.1,ρ p.2)):=
  fun ps=>o6 _ fun p=>⟨rfl,hρ p.2⟩
 split at h
 ·rename_i x ho
  exact bK.same hE (by simp only [bj,ho,fi]) (hρ x) h
 ·rename_i x ho
  split at h
  ·rename_i hn
   split at h
   ·rename_i e _
    have hv:=KU (hρ x) hn
    refine ⟨.av,H,_,_,ι,by simp only [bj,ho,fi,hv],hE.ghost e,?_,nE _ _ _,h⟩
    refine ⟨by simp,fun m5 v' e' n' hs=>?_⟩
    unfold sg at hs
    rw [List.getElem?_append_right (Nat.le_refl _)] at hs
    simp only [Nat.sub_self,List.getElem?_cons_zero,Option.some.injEq,Prod.mk.injEq] at hs
    obtain ⟨rfl,rfl,rfl,rfl⟩:=hs
    exact ⟨Nat.le_refl _,fun _=>⟨rfl,by simp [dc]⟩⟩
   ·exact bK.same hE (by simp only [bj,ho,fi]) (hρ x) h
  ·exact bK.same hE (by simp only [bj,ho,fi]) (hρ x) h
 ·rename_i t ho
  split at h
  ·rename_i z hz
   obtain ⟨k1,k2,k3⟩:=sP (ι:=ι) (H:=H) z.cells (BF P t) rows hE
   generalize jI z.cells (BF P t) rows=p at h k1 k2 k3
   obtain ⟨cs,ah⟩:=p
   simp only at h k1 k2 k3
   have le:=jr ι ah (some (.lit cs)) H.n
   have:=k1.push (.lit cs) (.cells z.cells) ⟨z.cells,by rw [aH];exact af.cD,k3.mono fun _ _=>le.r2⟩
   refine ⟨.ptr H.n 0,_,_,_,_,by simp only [bj,ho,fi,hz],this,?_,k2.trans le,h⟩
   exact ⟨by simp,fun _=>by rw [aH]⟩
  ·cases h
 ·rename_i t x ho
  split at h
  ·rename_i cs te
   obtain ⟨k1,k2,k3⟩:=qu (hρ x) te
   have le:=jr ι rows (some (.lit cs)) H.n
   have:=hE.push (.lit cs) (.cells (ρ x).cells) ⟨_,by rw [aH];exact af.cD,k2.mono fun _ _=>le.r2⟩
   refine ⟨.ptr H.n 0,_,_,_,_,by simp only [bj,ho,fi];rw [if_pos k1],this,?_,le,h⟩
   exact ⟨by simp,fun _=>by rw [aH]⟩
  ·cases h
 ·rename_i t ps ho
  split at h
  ·rename_i y hy
   obtain ⟨z,k1,k2⟩:=Oh (parts ps) hy
   exact bK.same hE (by simp only [bj,ho,fi,k1]) k2 h
  ·cases h
 ·rename_i t n ps ho
  split at h
  ·rename_i hb
   obtain ⟨qs,ff,k1,k2,k3,k4⟩:=HA hE (parts ps) h
   obtain ⟨y,H',ys,ah,ι',k5,k6,k7,k8,k9⟩:=pJ k1 k2 k4
   exact ⟨y,H',.aT ys,ah,ι',by simp only [bj,ho,FD,hb,if_true];exact k5,k6,k7,k3.trans k8,k9⟩
  ·rename_i hb
   split at h
   ·obtain ⟨y,H',ys,ah,ι',k1,k2,k3,k4,k5⟩:=Fg hE (parts ps) h
    exact ⟨y,H',.aT ys,ah,ι',by simp only [bj,ho,FD,hb,Bool.false_eq_true,if_false,fi];exact k1,k2,k3,k4,k5⟩
   ·obtain ⟨y,H',ys,ah,ι',k1,k2,k3,k4,k5⟩:=pJ hE (parts ps) h
    exact ⟨y,H',.aT ys,ah,ι',by simp only [bj,ho,FD,hb,Bool.false_eq_true,if_false,fi];exact k1,k2,k3,k4,k5⟩
 ·rename_i t a ho
  obtain ⟨y,ys,k1,k2,k3⟩:=Hy hE (bo (hρ a)) h
  exact bK.same hE (by simp only [bj,ho,fi,k1]) k2 k3
 ·rename_i t a x ho
  obtain ⟨H',ah,k1,k2,k3,k4⟩:=Og hE (bo (hρ a)) (hρ x) h
  exact ⟨.top,H',.aT .top,ah,ι,by simp only [bj,ho,fi,k1],k2,trivial,k3,k4⟩
 ·rename_i x ho
  split at h
  ·rename_i hp
   exact bK.same hE (by simp only [bj,ho,fi,So (hρ x) hp]) (hρ x) h
  ·cases h
 ·rename_i op t x y yt ho
  split at h
  ·rename_i xs ys e1 e2
   obtain ⟨z,zs,k1,k2,k3⟩:=Kf (cx:=isConst x) (cy:=isConst y) h (e1 ▸ hρ x) (e2 ▸ hρ y)
   exact bK.same hE (by simp only [bj,ho,fi,k1]) (ys:=.aT zs) k2 k3
  ·split at h
   ·rename_i e1 e2
    obtain ⟨z,zs,k1,k2,k3⟩:=OD (cx:=isConst x) (cy:=isConst y) (bo (hρ x)) (bo (hρ y)) e1 e2 h
    exact bK.same hE (by simp only [bj,ho,fi,k1]) (ys:=.aT zs) k2 k3
   ·split at h
    ·rename_i n e1
     obtain ⟨z,zs,k1,k2,k3⟩:=Sp (cx:=isConst x) (cy:=isConst y) (bo (hρ x)) (bo (hρ y)) e1 h
     exact bK.same hE (by simp only [bj,ho,fi,k1]) (ys:=.aT zs) k2 k3
    ·obtain ⟨z,ys,k1,k2,k3⟩:=Vc h (bo (hρ x)) (bo (hρ y))
     exact bK.same hE (by simp only [bj,ho,fi,k1]) (ys:=.aT ys) k2 k3
 ·rename_i op t x ho
  obtain ⟨z,ys,k1,k2,k3⟩:=OC (bo (hρ x)) h
  exact bK.same hE (by simp only [bj,ho,fi,k1]) (ys:=.aT ys) k2 k3
 ·rename_i s d x ho
  split at h
  ·cases h
  ·rename_i TA
   obtain ⟨y,ys,k1,k2,k3⟩:=HW (H:=H) (bo (hρ x)) h
   refine bK.same hE ?_ (ys:=.aT ys) k2 k3
   simp only [bj,ho]
   split
   ·rename_i b hb
    rw [if_neg (by rw [TA];simp)]
    simp only [fi,ho,k1]
   ·simp only [fi,ho,k1]
 ·rename_i fn first cap ho
  split at h
  ·rename_i f
   refine bK.same hE (y:=.func f (first.toList.map ρ) (cap.toList.map ρ)) (by simp only [bj,ho,fi]) ?_ h
   exact ⟨_,_,rfl,o6 _ fun x=>bo (hρ x),o6 _ fun x=>bo (hρ x)⟩
  ·cases h
 ·rename_i t l c ho
  obtain ⟨y,H',ys,ah,ι',k1,k2,k3,k4,k5⟩:=Co hE (bo (hρ l)) (bo (hρ c)) h
  exact ⟨y,H',.aT ys,ah,ι',by simp only [bj,ho,fi];exact k1,k2,k3,k4,k5⟩
 ·rename_i t x ho
  obtain ⟨y,ys,k1,k2,k3⟩:=HZ (H:=H) (bo (hρ x)) h
  exact bK.same hE (by simp only [bj,ho,fi,k1]) (ys:=.aT ys) k2 k3
 ·rename_i t x lo hi ho
  have Vq:∀ q:Option Operand,Vo ι rows (q.map fun x=>(ρs x).b1) (SG ρ q):=by
   intro q;cases q with
   | none=>trivial
   | some x=>exact bo (hρ x)
  obtain ⟨y,ys,k1,k2,k3⟩:=Ow hE (bo (hρ x)) (Vq lo) (Vq hi) h
  exact bK.same hE (by simp only [bj,ho,fi,k1]) (ys:=.aT ys) k2 k3
 ·rename_i t x lo hi mx ho
  have Vq:∀ q:Option Operand,Vo ι rows (q.map fun x=>(ρs x).b1) (SG ρ q):=by
   intro q;cases q with
   | none=>trivial
   | some x=>exact bo (hρ x)
  obtain ⟨y,ys,k1,k2,k3⟩:=KO hE (bo (hρ x)) (Vq lo) (bo (hρ hi)) (bo (hρ mx)) h
  exact bK.same hE (by simp only [bj,ho,fi,k1]) (ys:=.aT ys) k2 k3
 ·rename_i s x f ho
  split at h
  ·rename_i hc
   obtain ⟨y,ys,k1,k2,k3⟩:=Cm (bo (hρ x)) h hc
   exact bK.same hE (by simp only [bj,ho,fi,k1]) (ys:=.aT ys) k2 k3
  ·cases h
 ·rename_i t x f ho
  obtain ⟨y,ys,k1,k2,k3⟩:=OB (hρ x) h
  exact bK.same hE (by simp only [bj,ho,fi,k1]) k2 k3
 ·rename_i t x ix ho
  split at h
  ·rename_i hc
   obtain ⟨y,ys,k1,k2,k3⟩:=Cn hE (bo (hρ x)) (bo (hρ ix)) h hc
   exact bK.same hE (by simp only [bj,ho,fi,k1]) (ys:=.aT ys) k2 k3
  ·cases h
 ·rename_i t hint ho
  obtain ⟨y,H',ys,ah,ι',k1,k2,k3,k4,k5⟩:=HC hE (hint':=SG ρ hint) (fun x hx=>by
   cases hint with
   | none=>cases hx
   | some a=>
    simp only [Option.map_some,Option.some.injEq] at hx;subst hx
    exact ⟨_,rfl,hρ a⟩) (fun hx=>by
   cases hint with
   | none=>rfl
   | some a=>cases hx) h
  exact ⟨y,H',.aT ys,ah,ι',by simp only [bj,ho,fi];exact k1,k2,k3,k4,k5⟩
 ·rename_i t x k ok ho
  obtain ⟨y,ys,k1,k2,k3⟩:=Od hE (bo (hρ x)) (hρ k) h
  exact bK.same hE (by simp only [bj,ho,fi,k1]) k2 k3
 ·rename_i t m k x ho
  obtain ⟨H',ah,k1,k2,k3,k4⟩:=HD hE (bo (hρ m)) (hρ k) (hρ x) h
  exact ⟨.top,H',.aT .top,ah,ι,by simp only [bj,ho,fi,k1],k2,trivial,k3,k4⟩
 ·rename_i t m k x ho
  obtain ⟨H',ah,k1,k2,k3,k4⟩:=HD hE (bo (hρ m)) (hρ k) (hρ x) h
  exact ⟨.top,H',.aT .top,ah,ι,by simp only [bj,ho,fi,k1],k2,trivial,k3,k4⟩
 ·rename_i t m k ho
  obtain ⟨y,H',ys,ah,k1,k2,k3,k4,k5⟩:=Oe hE (bo (hρ m)) (hρ k) h
  exact ⟨y,H',ys,ah,ι,by simp only [bj,ho,fi];exact k1,k2,k3,k4,k5⟩
 ·rename_i t m s x ho
  obtain ⟨H',ah,k1,k2,k3,k4⟩:=Fj hE (bo (hρ m)) (bo (hρ s)) (hρ x) h
  exact ⟨.top,H',.aT .top,ah,ι,by simp only [bj,ho,fi,k1],k2,trivial,k3,k4⟩
 ·rename_i x k ho
  have hx:=hρ x
  split at h
  ·rename_i xs W5
   rw [W5] at hx
   obtain ⟨mY,e,cR⟩:=hx
   split at h
   ·rename_i y hy
    obtain ⟨v,hv,hr⟩:=cR.get hy
    exact bK.same hE (y:=v) (by simp only [bj,ho,fi,e,oo,hv]) (ys:=.s y) hr h
   ·cases h
  ·cases h
 ·rename_i b args O4 ho
  have:=HX hE (o6 (Q:=RV ι rows) args.toList hρ) h
  simpa only [bj,ho,fi] using this
 ·cases h
end
end Go.Abs
end
noncomputable section
namespace Go.Abs
inductive T1 where
  | dead
  | bool
  | int (k:IntKind)
  | aL (k:FloatKind)
  | string
  | list
  | nl
  | fm
  | own (r aA:Nat)
  | ptr (r off:Nat)
  | yield (r:Nat)
  | mp (r:Nat)
  | sub (r aA:Nat)
  | fX (r off n aA:Nat)
  | av
  | bI
  | nilFunc
inductive T2 where
  | b (x:T1)
  | fn (f:FuncId) (first cap:List T1)
inductive T3 where
  | o (x:T2)
  | agg (cs:List T2)
inductive TR where
  | dead
  | lit (cs:List T2)
  | vec (nb:Bool) (aA aW:Nat) (bump:Bool)
  | jR (nb:Bool) (aA aW:Nat)
  | dM
  | loop (L:Dc) (tmps:List T3)
  | deferred
structure Shape where
  tmps:List T3
  rows:List TR
  defers:List Nat
def sh1 (rows:Rows):S1->T1
  | .bool _=>.bool
  | .int k _=>.int k
  | .aL k _=>.aL k
  | .string _=>.string
  | .list _ _=>.list
  | .nl _ _=>.nl
  | .fm _ _=>.fm
  | .own r aW aA=>match nW rows r aW with
    | true=>.own r aA
    | false=>.dead
  | .ptr r off=>match (sg rows r).isNone with
    | true=>.ptr r off
    | false=>.dead
  | .yield r=>match (sg rows r).isNone with
    | true=>.yield r
    | false=>.dead
  | .mp r=>match (sg rows r).isNone with
    | true=>.mp r
    | false=>.dead
  | .sub r aW _ _ aA=>match nW rows r aW with
    | true=>.sub r aA
    | false=>.dead
  | .fX r off n aA=>match (sg rows r).isNone with
    | true=>.fX r off n aA
    | false=>.dead
  | .raw .av=>.av
  | .raw .bI=>.bI
  | .raw .nilFunc=>.nilFunc
  | _=>.dead
def sh2 (rows:Rows):S2->T2
  | .b x=>.b (sh1 rows x)
  | .fn f first cap=>.fn f (first.map (sh1 rows)) (cap.map (sh1 rows))
def sh3 (rows:Rows):S3->T3
  | .o x=>.o (sh2 rows x)
  | .agg cs=>.agg (cs.map (sh2 rows))
def shV (rows:Rows):SV->T3
  | .s x=>sh3 rows x
  | .tuple _=>.o (.b .dead)
def l9 (r:Nat):List Nat->Bool
  | []=>false
  | x::xs=>Nat.beq x r||l9 r xs
def shR (rows:Rows) (pF:List Nat) (r:Nat):Option eJ->TR
  | some (.lit cs)=>.lit (cs.map (sh2 rows))
  | some (.vec nb aW aA _ _)=>match l9 r pF with
    | true=>.vec nb aA (aW+1) true
    | false=>.vec nb aA aW false
  | some (.jR nb aW aA _)=>.jR nb aA aW
  | some (.dM _ _)=>.dM
  | some (.loop L)=>.loop L (L.tmps.map (shV rows))
  | some .deferred=>.deferred
  | none=>.dead
def mg (all:Rows) (pF:List Nat):Rows->Nat->List TR
  | [],_=>[]
  | x::xs,r=>shR all pF r x::mg all pF xs (r+1)
def R5 (rows:Rows):List SV->Nat->Nat->List T3
  | [],_,_=>[]
  | x::xs,live,j=>(match live.testBit j with
    | true=>shV rows x
    | false=>.o (.b .dead))::R5 rows xs live (j+1)
def KC:List S2->List Nat
  | []=>[]
  | .b (.own r _ _)::xs=>r::KC xs
  | _::xs=>KC xs
def BP:List SV->Nat->Nat->List Nat
  | [],_,_=>[]
  | x::xs,dL,j=>match dL.testBit j with
    | true=>(match x.b1 with | .own r _ _=>r::BP xs dL (j+1) | .sub r _ _ _ _=>r::BP xs dL (j+1) | _=>BP xs dL (j+1))
    | false=>BP xs dL (j+1)
def KD:Rows->List Nat
  | []=>[]
  | some (.lit cs)::xs=>KC cs++KD xs
  | _::xs=>KD xs
def shape (live dL:Nat) (s:bX):Shape:=⟨R5 s.rows s.tmps live 0,mg s.rows (BP s.tmps dL 0++KD s.rows) s.rows 0,s.defers⟩
def nS:List TR->Nat->Nat
  | [],_=>0
  | .vec _ _ v _::_,0=>v
  | .jR _ _ v::_,0=>v
  | _::_,0=>0
  | _::xs,r+1=>nS xs r
def Vh:T1->Type->Type
  | .bool,X=>Bool->X
  | .int _,X=>Int->X
  | .aL _,X=>Option Nat->X
  | .string,X=>ByteArray->X
  | .list,X=>Nat->List AV->X
  | .nl,X=>Nat->List AV->X
  | .fm,X=>List AV->Nat->X
  | .sub _ _,X=>Nat->Nat->X
  | _,X=>X
def aaN {X:Type} (vs:Nat->Nat):(t:T1)->(S1->X)->Vh t X
  | .bool,f=>fun b=>f (.bool b)
  | .int k,f=>fun n=>f (.int k n)
  | .aL k,f=>fun n=>f (.aL k n)
  | .string,f=>fun s=>f (.string s)
  | .list,f=>fun n cs=>f (.list n cs)
  | .nl,f=>fun n cs=>f (.nl n cs)
  | .fm,f=>fun cs off=>f (.fm cs off)
  | .own r aA,f=>f (.own r (vs r) aA)
  | .ptr r off,f=>f (.ptr r off)
  | .yield r,f=>f (.yield r)
  | .mp r,f=>f (.mp r)
  | .sub r aA,f=>fun off n=>f (.sub r (vs r) off n aA)
  | .fX r off n aA,f=>f (.fX r off n aA)
  | .av,f=>f (.raw .av)
  | .bI,f=>f (.raw .bI)
  | .nilFunc,f=>f (.raw .nilFunc)
  | .dead,f=>f .top
def Vi {X:Type} (rows:Rows) (n:Nat):(t:T1)->S1->Vh t X->Option X
  | .bool,.bool b,f=>some (f b)
  | .int k,.int k' n,f=>match decide (k'=k) with
    | true=>some (f n)
    | false=>none
  | .aL k,.aL k' n,f=>match decide (k'=k) with
    | true=>some (f n)
    | false=>none
  | .string,.string s,f=>some (f s)
  | .list,.list n cs,f=>some (f n cs)
  | .nl,.nl n cs,f=>some (f n cs)
  | .fm,.fm cs off,f=>some (f cs off)
  | .own r aA,.own r' aW dI,f=>match Nat.beq r' r&&Nat.beq dI aA&&nW rows r aW&&Nat.blt r n with
    | true=>some f
    | false=>none
  | .ptr r off,.ptr r' Kd,f=>match Nat.beq r' r&&Nat.beq Kd off&&(sg rows r).isNone&&Nat.blt r n with
    | true=>some f
    | false=>none
  | .yield r,.yield r',f=>match Nat.beq r' r&&(sg rows r).isNone&&Nat.blt r n with
    | true=>some f
    | false=>none
  | .mp r,.mp r',f=>match Nat.beq r' r&&(sg rows r).isNone&&Nat.blt r n with
    | true=>some f
    | false=>none
  | .sub r aA,.sub r' aW off k dI,f=>match Nat.beq r' r&&Nat.beq dI aA&&nW rows r aW&&Nat.blt r n with
    | true=>some (f off k)
    | false=>none
  | .fX r off k aA,.fX r' Kd k' dI,f=>match Nat.beq r' r&&Nat.beq Kd off&&(Nat.beq k' k&&Nat.beq dI aA)&&(sg rows r).isNone&&Nat.blt r n with
    | true=>some f
    | false=>none
  | .av,.raw .av,f=>some f
  | .bI,.raw .bI,f=>some f
  | .nilFunc,.raw .nilFunc,f=>some f
  | .dead,_,f=>some f
  | _,_,_=>none
def R6:List T1->Type->Type
  | [],X=>X
  | t::ts,X=>Vh t (R6 ts X)
def R7 {X:Type} (vs:Nat->Nat):(ts:List T1)->(List S1->X)->R6 ts X
  | [],f=>f []
  | t::ts,f=>aaN vs t fun x=>R7 vs ts fun xs=>f (x::xs)
def R8 {X:Type} (rows:Rows) (n:Nat):(ts:List T1)->List S1->R6 ts X->Option X
  | [],[],f=>some f
  | t::ts,x::xs,f=>match Vi rows n t x f with
    | some g=>R8 rows n ts xs g
    | none=>none
  | _,_,_=>none
def Vj:T2->Type->Type
  | .b t,X=>Vh t X
  | .fn _ first cap,X=>R6 first (R6 cap X)
def aaO {X:Type} (vs:Nat->Nat):(t:T2)->(S2->X)->Vj t X
  | .b t,f=>aaN vs t fun x=>f (.b x)
  | .fn g first cap,f=>R7 vs first fun xs=>R7 vs cap fun ys=>f (.fn g xs ys)
def Vk {X:Type} (rows:Rows) (n:Nat):(t:T2)->S2->Vj t X->Option X
  | .b t,.b x,f=>Vi rows n t x f
  | .fn g first cap,.fn g' xs ys,f=>match Nat.beq g' g with
    | true=>match R8 rows n first xs f with
      | some h=>R8 rows n cap ys h
      | none=>none
    | false=>none
  | .b .dead,_,f=>some f
  | _,_,_=>none
def HQ:List T2->Type->Type
  | [],X=>X
  | t::ts,X=>Vj t (HQ ts X)
def HR {X:Type} (vs:Nat->Nat):(ts:List T2)->(List S2->X)->HQ ts X
  | [],f=>f []
  | t::ts,f=>aaO vs t fun x=>HR vs ts fun xs=>f (x::xs)
def HS {X:Type} (rows:Rows) (n:Nat):(ts:List T2)->List S2->HQ ts X->Option X
  | [],[],f=>some f
  | t::ts,x::xs,f=>match Vk rows n t x f with
    | some g=>HS rows n ts xs g
    | none=>none
  | _,_,_=>none
def aaP:T3->Type->Type
  | .o t,X=>Vj t X
  | .agg ts,X=>HQ ts X
def adt {X:Type} (vs:Nat->Nat):(t:T3)->(SV->X)->aaP t X
  | .o t,f=>aaO vs t fun x=>f (.s (.o x))
  | .agg ts,f=>HR vs ts fun xs=>f (.s (.agg xs))
def aaQ {X:Type} (rows:Rows) (n:Nat):(t:T3)->SV->aaP t X->Option X
  | .o t,.s (.o x),f=>Vk rows n t x f
  | .agg ts,.s (.agg xs),f=>HS rows n ts xs f
  | .o (.b .dead),_,f=>some f
  | _,_,_=>none
def R9:List T3->Type->Type
  | [],X=>X
  | t::ts,X=>aaP t (R9 ts X)
def R_ {X:Type} (vs:Nat->Nat):(ts:List T3)->(List SV->X)->R9 ts X
  | [],f=>f []
  | t::ts,f=>adt vs t fun x=>R_ vs ts fun xs=>f (x::xs)
def Sa {X:Type} (rows:Rows) (n:Nat):(ts:List T3)->List SV->R9 ts X->Option X
  | [],[],f=>some f
  | t::ts,x::xs,f=>match aaQ rows n t x f with
    | some g=>Sa rows n ts xs g
    | none=>none
  | _,_,_=>none
def KE:TR->Type->Type
  | .lit cs,X=>HQ cs X
  | .vec _ _ _ _,X=>Nat->List AV->X
  | .jR _ _ _,X=>Nat->X
  | .dM,X=>List (AV × AV × Nat)->Nat->X
  | .loop _ ts,X=>R9 ts X
  | _,X=>X
def Sb {X:Type} (vs:Nat->Nat):(t:TR)->(Option eJ->X)->KE t X
  | .lit cs,f=>HR vs cs fun xs=>f (some (.lit xs))
  | .vec nb aA aW _,f=>fun n cs=>f (some (.vec nb aW aA n cs))
  | .jR nb aA aW,f=>fun n=>f (some (.jR nb aW aA n))
  | .dM,f=>fun es clock=>f (some (.dM es clock))
  | .loop L ts,f=>R_ vs ts fun xs=>f (some (.loop { state:=L.state,pending:=none,tmps:=xs,fn:=L.fn,path:=L.path,defers:=L.defers }))
  | .deferred,f=>f (some .deferred)
  | .dead,f=>f none
def pG:List Nat->List Nat->Bool
  | [],[]=>true
  | x::xs,y::ys=>Nat.beq x y&&pG xs ys
  | _,_=>false
def HT (rows:Rows) (n:Nat) (L L':Dc):Bool:=
  (match L'.state,L.state with | .ready,.ready=>true | .busy,.busy=>true | _,_=>false)&&(match L'.pending with | none=>true | _=>false)&&Nat.beq L'.fn L.fn&&pG L'.path L.path&&Nat.beq L'.defers L.defers&&(sg rows L'.defers).isNone&&Nat.blt L'.defers n
def KF {X:Type} (rows:Rows) (n:Nat):(t:TR)->Option eJ->KE t X->Option X
  | .lit cs,some (.lit xs),f=>HS rows n cs xs f
  | .vec nb aA aW bump,some (.vec m5 gz dI m cs),f=>match (m5==nb)&&Nat.beq dI aA&&(bump||Nat.beq gz aW) with
    | true=>some (f m cs)
    | false=>none
  | .jR nb aA aW,some (.jR m5 gz dI m),f=>match (m5==nb)&&Nat.beq dI aA&&Nat.beq gz aW with
    | true=>some (f m)
    | false=>none
  | .dM,some (.dM es clock),f=>some (f es clock)
  | .loop L ts,some (.loop L'),f=>match HT rows n L L' with
    | true=>Sa rows n ts L'.tmps f
    | false=>none
  | .deferred,some .deferred,f=>some f
  | .dead,_,f=>some f
  | _,_,_=>none
def yB:List TR->Type->Type
  | [],X=>X
  | t::ts,X=>KE t (yB ts X)
def ux {X:Type} (vs:Nat->Nat):(ts:List TR)->(Rows->X)->yB ts X
  | [],f=>f []
  | t::ts,f=>Sb vs t fun x=>ux vs ts fun xs=>f (x::xs)
def yC {X:Type} (rows:Rows) (n:Nat):(ts:List TR)->Rows->yB ts X->Option X
  | [],_,f=>some f
  | t::ts,x::xs,f=>match KF rows n t x f with
    | some g=>yC rows n ts xs g
    | none=>none
  | _,_,_=>none
def Shape.Cur (h:Shape) (X:Type):Type:=R9 h.tmps (yB h.rows X)
def Shape.lam {X:Type} (h:Shape) (f:bX->X):h.Cur X:=R_ (nS h.rows) h.tmps fun ts=>ux (nS h.rows) h.rows fun rs=>f ⟨ts,rs,h.defers⟩
def Shape.app {X:Type} (h:Shape) (s:bX) (f:h.Cur X):Option X:=
  match pG s.defers h.defers&&s.defers.all (fun r=>Nat.blt r h.rows.length) with
  | true=>match Sa s.rows h.rows.length h.tmps s.tmps f with
    | some g=>yC s.rows h.rows.length h.rows s.rows g
    | none=>none
  | false=>none
section
variable {ι : Nat → Nat} {rows ah : Rows} {n : Nat} {X : Type} {vs : Nat → Nat}
structure BQ (vs:Nat->Nat) (rows:Rows) (n:Nat) (ah:Rows):Prop where
  len:ah.length=n
  le:n<=rows.length
  sg:∀ r,r<n->(∀ nb aW aA m,sg ah r=some (nb,aW,aA,m)->aW=vs r/\∃ v,sg rows r=some (nb,v,aA,m))/\(sg rows r=none->sg ah r=none)
theorem Ou (hb:BQ vs rows n ah) {r aW:Nat} (h:nW rows r aW=true) (hr:r<n) {aA:Nat} {v:AV} (hx:R1 ι rows (.own r aW aA) v):R1 ι ah (.own r (vs r) aA) v:=by
  refine ⟨by rw [hb.len];exact hr,fun nb gz dI m hs=>?_⟩
  obtain ⟨h0,w,hw⟩:=(hb.sg r hr).1 _ _ _ _ hs
  subst h0
  obtain ⟨KG,e1,n1,h1⟩:=dR h
  rw [h1] at hw;cases hw
  obtain ⟨e,hv⟩:=(hx.2 _ _ _ _ h1).2 rfl
  exact ⟨Nat.le_refl _,fun _=>⟨e,hv⟩⟩
theorem KH (hb:BQ vs rows n ah) {r aW:Nat} (h:nW rows r aW=true) (hr:r<n) {aA off k:Nat} {v:AV} (hx:R1 ι rows (.sub r aW off k aA) v):R1 ι ah (.sub r (vs r) off k aA) v:=by
  refine ⟨by rw [hb.len];exact hr,fun nb gz dI m hs=>?_⟩
  obtain ⟨h0,w,hw⟩:=(hb.sg r hr).1 _ _ _ _ hs
  subst h0
  obtain ⟨KG,e1,n1,h1⟩:=dR h
  rw [h1] at hw;cases hw
  exact ⟨Nat.le_refl _,fun _=>(hx.2 _ _ _ _ h1).2 rfl⟩
theorem Md {t:T1} {x:S1} {f:S1->X} {g:X} (h:Vi rows n t x (aaN vs t f)=some g):∃ x',g=f x'/\∀ (ι:Nat->Nat) (ah:Rows),BQ vs rows n ah->∀ v,R1 ι rows x v->R1 ι ah x' v:=by
  unfold Vi at h
  split at h
  all_goals first
    | (exact ⟨_,(Option.some.inj h).symm,fun ι ah hb v hx=>hx⟩)
    | (cases h;done)
    | (split at h
       · rename_i e
         have e:=of_decide_eq_true e
         subst e
         exact ⟨_,(Option.some.inj h).symm,fun ι ah hb v hx=>hx⟩
       · cases h)
    | (split at h
       · rename_i e
         simp only [Bool.and_eq_true] at e
         obtain ⟨⟨⟨e1,e2⟩,e3⟩,e4⟩:=e
         have e1:=Nat.eq_of_beq_eq_true e1
         have e2:=Nat.eq_of_beq_eq_true e2
         subst e1;subst e2
         exact ⟨_,(Option.some.inj h).symm,fun ι ah hb v hx=>Ou hb e3 (by simpa [Nat.blt_eq] using e4) hx⟩
       · cases h)
    | (split at h
       · rename_i e
         simp only [Bool.and_eq_true] at e
         obtain ⟨⟨⟨e1,e2⟩,e3⟩,e4⟩:=e
         have e1:=Nat.eq_of_beq_eq_true e1
         have e2:=Nat.eq_of_beq_eq_true e2
         subst e1;subst e2
         rw [Nat.blt_eq] at e4
         exact ⟨.ptr _ _,(Option.some.inj h).symm,fun ι ah hb v hx=>⟨by rw [hb.len];exact e4,fun _=>hx.2 (by simpa using e3)⟩⟩
       · cases h)
    | (split at h
       · rename_i e
         simp only [Bool.and_eq_true] at e
         obtain ⟨⟨e1,e3⟩,e4⟩:=e
         have e1:=Nat.eq_of_beq_eq_true e1
         subst e1
         rw [Nat.blt_eq] at e4
         first
           | exact ⟨.yield _,(Option.some.inj h).symm,fun ι ah hb v hx=>⟨by rw [hb.len];exact e4,fun _=>hx.2 (by simpa using e3)⟩⟩
           | exact ⟨.mp _,(Option.some.inj h).symm,fun ι ah hb v hx=>⟨by rw [hb.len];exact e4,fun _=>hx.2 (by simpa using e3)⟩⟩
       · cases h)
    | (split at h
       · rename_i e
         simp only [Bool.and_eq_true] at e
         obtain ⟨⟨⟨e1,e2⟩,e3⟩,e4⟩:=e
         have e1:=Nat.eq_of_beq_eq_true e1
         have e2:=Nat.eq_of_beq_eq_true e2
         subst e1;subst e2
         exact ⟨.sub _ _ _ _ _,(Option.some.inj h).symm,fun ι ah hb v hx=>KH hb e3 (by simpa [Nat.blt_eq] using e4) hx⟩
       · cases h)
    | (split at h
       · rename_i e
         simp only [Bool.and_eq_true] at e
         obtain ⟨⟨⟨⟨e1,e2⟩,⟨e5,e6⟩⟩,e3⟩,e4⟩:=e
         have e1:=Nat.eq_of_beq_eq_true e1
         have e2:=Nat.eq_of_beq_eq_true e2
         have e5:=Nat.eq_of_beq_eq_true e5
         have e6:=Nat.eq_of_beq_eq_true e6
         subst e1;subst e2;subst e5;subst e6
         rw [Nat.blt_eq] at e4
         exact ⟨.fX _ _ _ _,(Option.some.inj h).symm,fun ι ah hb v hx=>⟨by rw [hb.len];exact e4,fun _=>hx.2 (by simpa using e3)⟩⟩
       · cases h)
    | (exact ⟨_,(Option.some.inj h).symm,fun ι ah hb v hx=>trivial⟩)
theorem Fo:∀ {ts:List T1} {X:Type} {xs:List S1} {f:List S1->X} {g:X},R8 rows n ts xs (R7 vs ts f)=some g->
    ∃ mY,g=f mY/\∀ (ι:Nat->Nat) (ah:Rows),BQ vs rows n ah->∀ vs,aQ (R1 ι rows) xs vs->aQ (R1 ι ah) mY vs
  | [],_,[],f,g,h=>⟨[],(Option.some.inj h).symm,fun ι ah hb vs hv=>by cases hv;exact .nil⟩
  | [],_,_::_,f,g,h=>by cases h
  | t::ts,_,[],f,g,h=>by cases h
  | t::ts,_,x::xs,f,g,h=>by
    simp only [R8,R7] at h
    split at h
    · rename_i k hk
      obtain ⟨x',e,h1⟩:=Md hk
      subst e
      obtain ⟨mY,e,h2⟩:=Fo h
      exact ⟨x'::mY,e,fun ι ah hb vs hv=>by cases hv with | cons a b=>exact .cons (h1 ι ah hb _ a) (h2 ι ah hb _ b)⟩
    · cases h
theorem Me {t:T2} {x:S2} {f:S2->X} {g:X} (h:Vk rows n t x (aaO vs t f)=some g):∃ x',g=f x'/\∀ (ι:Nat->Nat) (ah:Rows),BQ vs rows n ah->∀ v,R2 ι rows x v->R2 ι ah x' v:=by
  unfold Vk at h
  split at h
  · obtain ⟨x',e,h1⟩:=Md h
    exact ⟨.b x',e,h1⟩
  · split at h
    · rename_i e0
      have e0:=Nat.eq_of_beq_eq_true e0
      subst e0
      split at h
      · rename_i k hk
        obtain ⟨mY,e,h1⟩:=Fo hk
        subst e
        obtain ⟨ys',e,h2⟩:=Fo h
        exact ⟨.fn _ mY ys',e,fun ι ah hb v ⟨a,b,e1,e2,e3⟩=>⟨a,b,e1,h1 ι ah hb _ e2,h2 ι ah hb _ e3⟩⟩
      · cases h
    · cases h
  · exact ⟨.b .top,(Option.some.inj h).symm,fun ι ah hb v hx=>trivial⟩
  · cases h
theorem BR:∀ {ts:List T2} {X:Type} {xs:List S2} {f:List S2->X} {g:X},HS rows n ts xs (HR vs ts f)=some g->
    ∃ mY,g=f mY/\∀ (ι:Nat->Nat) (ah:Rows),BQ vs rows n ah->∀ vs,aQ (R2 ι rows) xs vs->aQ (R2 ι ah) mY vs
  | [],_,[],f,g,h=>⟨[],(Option.some.inj h).symm,fun ι ah hb vs hv=>by cases hv;exact .nil⟩
  | [],_,_::_,f,g,h=>by cases h
  | t::ts,_,[],f,g,h=>by cases h
  | t::ts,_,x::xs,f,g,h=>by
    simp only [HS,HR] at h
    split at h
    · rename_i k hk
      obtain ⟨x',e,h1⟩:=Me hk
      subst e
      obtain ⟨mY,e,h2⟩:=BR h
      exact ⟨x'::mY,e,fun ι ah hb vs hv=>by cases hv with | cons a b=>exact .cons (h1 ι ah hb _ a) (h2 ι ah hb _ b)⟩
    · cases h
theorem Vl {t:T3} {x:SV} {f:SV->X} {g:X} (h:aaQ rows n t x (adt vs t f)=some g):∃ x',g=f x'/\∀ (ι:Nat->Nat) (ah:Rows),BQ vs rows n ah->∀ v,RV ι rows x v->RV ι ah x' v:=by
  unfold aaQ at h
  split at h
  · obtain ⟨x',e,h1⟩:=Me h
    exact ⟨.s (.o x'),e,h1⟩
  · obtain ⟨x',e,h1⟩:=BR h
    exact ⟨.s (.agg x'),e,fun ι ah hb v ⟨a,e1,e2⟩=>⟨a,e1,h1 ι ah hb _ e2⟩⟩
  · exact ⟨.aT .top,(Option.some.inj h).symm,fun ι ah hb v hx=>trivial⟩
  · cases h
theorem Fp:∀ {ts:List T3} {X:Type} {xs:List SV} {f:List SV->X} {g:X},Sa rows n ts xs (R_ vs ts f)=some g->
    ∃ mY,g=f mY/\∀ (ι:Nat->Nat) (ah:Rows),BQ vs rows n ah->∀ vs,aQ (RV ι rows) xs vs->aQ (RV ι ah) mY vs
  | [],_,[],f,g,h=>⟨[],(Option.some.inj h).symm,fun ι ah hb vs hv=>by cases hv;exact .nil⟩
  | [],_,_::_,f,g,h=>by cases h
  | t::ts,_,[],f,g,h=>by cases h
  | t::ts,_,x::xs,f,g,h=>by
    simp only [Sa,R_] at h
    split at h
    · rename_i k hk
      obtain ⟨x',e,h1⟩:=Vl hk
      subst e
      obtain ⟨mY,e,h2⟩:=Fp h
      exact ⟨x'::mY,e,fun ι ah hb vs hv=>by cases hv with | cons a b=>exact .cons (h1 ι ah hb _ a) (h2 ι ah hb _ b)⟩
    · cases h
theorem pH:∀ {xs ys:List Nat},pG xs ys=true->xs=ys
  | [],[],_=>rfl
  | x::xs,y::ys,h=>by
    simp only [pG,Bool.and_eq_true] at h
    rw [Nat.eq_of_beq_eq_true h.1,pH h.2]
  | [],_::_,h=>by cases h
  | _::_,[],h=>by cases h
def aaR (vs:Nat->Nat) (rows:Rows) (n:Nat):TR->Option eJ->Option eJ->Prop
  | .dead,_,none=>True
  | .lit _,some (.lit cs),some (.lit dE)=>∀ (ι:Nat->Nat) (ah:Rows),BQ vs rows n ah->∀ us,aQ (R2 ι rows) cs us->aQ (R2 ι ah) dE us
  | .vec nb aA aW bump,some (.vec xV v wq m cs),some (.vec m5 gz dI m' dE)=>xV=nb/\m5=nb/\wq=aA/\dI=aA/\gz=aW/\m'=m/\dE=cs/\(bump=false->v=aW)
  | .jR nb aA aW,some (.jR xV v wq m),some (.jR m5 gz dI m')=>xV=nb/\m5=nb/\wq=aA/\dI=aA/\gz=aW/\m'=m/\v=aW
  | .dM,some (.dM es clock),some (.dM cN jt)=>cN=es/\jt=clock
  | .loop _ _,some (.loop L),some (.loop L')=>L'.state=L.state/\L'.pending=L.pending/\L'.fn=L.fn/\L'.path=L.path/\L'.defers=L.defers/\L.defers<n/\sg rows L.defers=none/\
      ∀ (ι:Nat->Nat) (ah:Rows),BQ vs rows n ah->∀ us,aQ (RV ι rows) L.tmps us->aQ (RV ι ah) L'.tmps us
  | .deferred,some .deferred,some .deferred=>True
  | _,_,_=>False
theorem Ov {t:TR} {x:Option eJ} {f:Option eJ->X} {g:X} (h:KF rows n t x (Sb vs t f)=some g):∃ x',g=f x'/\aaR vs rows n t x x':=by
  unfold KF at h
  split at h
  · obtain ⟨mY,e,h1⟩:=BR h
    exact ⟨some (.lit mY),e,h1⟩
  · split at h
    · rename_i e
      simp only [Bool.and_eq_true,beq_iff_eq,Bool.or_eq_true] at e
      obtain ⟨⟨e1,e2⟩,e3⟩:=e
      have e2:=Nat.eq_of_beq_eq_true e2
      refine ⟨some (.vec _ _ _ _ _),(Option.some.inj h).symm,e1,rfl,e2,rfl,rfl,rfl,rfl,fun hb=>?_⟩
      rcases e3 with e3 | e3
      · rw [hb] at e3;cases e3
      · exact Nat.eq_of_beq_eq_true e3
    · cases h
  · split at h
    · rename_i e
      simp only [Bool.and_eq_true,beq_iff_eq] at e
      obtain ⟨⟨e1,e2⟩,e3⟩:=e
      have e2:=Nat.eq_of_beq_eq_true e2
      have e3:=Nat.eq_of_beq_eq_true e3
      exact ⟨some (.jR _ _ _ _),(Option.some.inj h).symm,e1,rfl,e2,rfl,rfl,rfl,e3⟩
    · cases h
  · exact ⟨some (.dM _ _),(Option.some.inj h).symm,rfl,rfl⟩
  · split at h
    · rename_i L ts L' _ _ e
      obtain ⟨mY,e',h1⟩:=Fp h
      simp only [HT,Bool.and_eq_true] at e
      obtain ⟨⟨⟨⟨⟨⟨e1,e2⟩,e3⟩,e4⟩,e5⟩,e6⟩,e7⟩:=e
      have e3:=Nat.eq_of_beq_eq_true e3
      have e4:=pH e4
      have e5:=Nat.eq_of_beq_eq_true e5
      rw [Nat.blt_eq] at e7
      refine ⟨_,e',?_,?_,e3.symm,e4.symm,e5.symm,e7,by simpa using e6,h1⟩
      · revert e1;split
        · rename_i h1 h2;intro _;exact h2.trans h1.symm
        · rename_i h1 h2;intro _;exact h2.trans h1.symm
        · intro h;cases h
      · revert e2;split
        · rename_i hs;intro _;exact hs.symm
        · intro h;cases h
    · cases h
  · exact ⟨some .deferred,(Option.some.inj h).symm,trivial⟩
  · exact ⟨none,(Option.some.inj h).symm,trivial⟩
  · cases h
theorem BS:∀ {ts:List TR} {X:Type} {xs:Rows} {f:Rows->X} {g:X},yC rows n ts xs (ux vs ts f)=some g->
    ∃ mY,g=f mY/\mY.length=ts.length/\ts.length<=xs.length/\∀ (j:Nat) (x':Option eJ),mY[j]?=some x'->∃ t x,ts[j]?=some t/\xs[j]?=some x/\aaR vs rows n t x x'
  | [],_,xs,f,g,h=>⟨[],(Option.some.inj h).symm,rfl,Nat.zero_le _,fun j x' h=>by simp at h⟩
  | t::ts,_,[],f,g,h=>by cases h
  | t::ts,_,x::xs,f,g,h=>by
    simp only [yC,ux] at h
    split at h
    · rename_i k hk
      obtain ⟨x',e,h1⟩:=Ov hk
      subst e
      obtain ⟨mY,e,h2,h3,h4⟩:=BS h
      refine ⟨x'::mY,e,by simp [h2],by simpa using h3,fun j y hy=>?_⟩
      cases j with
      | zero=>simp only [List.getElem?_cons_zero,Option.some.injEq] at hy;subst hy;exact ⟨t,x,rfl,rfl,h1⟩
      | succ j=>exact h4 j y (by simpa using hy)
    · cases h
structure Td (h:Shape) (bc:Rows):Prop where
  len:bc.length<=h.rows.length
  at_:∀ r nb v aA m,sg bc r=some (nb,v,aA,m)->(∃ b,h.rows[r]?=some (.vec nb aA (if b=true then v+1 else v) b))\/h.rows[r]?=some (.jR nb aA v)
theorem DA:∀ {ts:List TR} {r:Nat} {nb:Bool} {aA v:Nat} {b:Bool},ts[r]?=some (.vec nb aA v b)->nS ts r=v
  | [],r,nb,aA,v,b,h=>by simp at h
  | t::ts,0,nb,aA,v,b,h=>by simp at h;subst h;rfl
  | t::ts,r+1,nb,aA,v,b,h=>by
    have:nS (t::ts) (r+1)=nS ts r:=by cases t<;>rfl
    rw [this];exact DA (by simpa using h)
theorem DB:∀ {ts:List TR} {r:Nat} {nb:Bool} {aA v:Nat},ts[r]?=some (.jR nb aA v)->nS ts r=v
  | [],r,nb,aA,v,h=>by simp at h
  | t::ts,0,nb,aA,v,h=>by simp at h;subst h;rfl
  | t::ts,r+1,nb,aA,v,h=>by
    have:nS (t::ts) (r+1)=nS ts r:=by cases t<;>rfl
    rw [this];exact DB (by simpa using h)
theorem BT (all:Rows) (pF:List Nat):∀ (xs:Rows) (k r:Nat),(mg all pF xs k)[r]?=(xs[r]?).map (shR all pF (k+r))
  | [],k,r=>by simp [mg]
  | x::xs,k,0=>by simp [mg]
  | x::xs,k,r+1=>by
    simp only [mg,List.getElem?_cons_succ]
    rw [BT all pF xs (k+1) r]
    congr 2;omega
theorem qV (all:Rows) (pF:List Nat):∀ (xs:Rows) (k:Nat),(mg all pF xs k).length=xs.length
  | [],k=>rfl
  | x::xs,k=>by simp [mg,qV all pF xs]
theorem NX (live dL:Nat) (s:bX):Td (shape live dL s) s.rows:=by
  refine ⟨Nat.le_of_eq (qV _ _ _ _).symm,fun r nb v aA m hs=>?_⟩
  show (∃ b,(mg s.rows _ s.rows 0)[r]?=_)\/(mg s.rows _ s.rows 0)[r]?=_
  simp only [BT,Nat.zero_add]
  unfold sg at hs
  split at hs
  · rename_i aG
    simp only [Option.some.injEq,Prod.mk.injEq] at hs
    obtain ⟨rfl,rfl,rfl,rfl⟩:=hs
    left
    rw [aG]
    simp only [Option.map_some,shR]
    split
    · exact ⟨true,rfl⟩
    · exact ⟨false,rfl⟩
  · rename_i aG
    simp only [Option.some.injEq,Prod.mk.injEq] at hs
    obtain ⟨rfl,rfl,rfl,rfl⟩:=hs
    right
    rw [aG];rfl
  · cases hs
theorem Shape.J4 {C:cp} {h:Shape} {s:bX} {f:bX->X} {g:X} {bc:Rows} (bw:Td h bc) (ha:h.app s (h.lam f)=some g):
    ∃ s',g=f s'/\∀ ι0 ι σ,fg C ι s σ->Le ι0 bc ι s.rows->fg C ι s' σ/\Le ι0 bc ι s'.rows:=by
  unfold Shape.app at ha
  split at ha
  · rename_i Tx
    simp only [Bool.and_eq_true,List.all_eq_true] at Tx
    have hd:=pH Tx.1
    split at ha
    · rename_i k hk
      obtain ⟨ts,e,h1⟩:=Fp (f:=fun ts=>ux (nS h.rows) h.rows fun rs=>f ⟨ts,rs,h.defers⟩) hk
      subst e
      obtain ⟨rs,e,h2,h3,h4⟩:=BS ha
      have words:∀ r nb w aA m,sg rs r=some (nb,w,aA,m)->∃ v,sg s.rows r=some (nb,v,aA,m)/\
          ((∃ b,h.rows[r]?=some (.vec nb aA w b)/\(b=false->v=w))\/(h.rows[r]?=some (.jR nb aA w)/\v=w)):=by
        intro r nb w aA m hs
        unfold sg at hs
        split at hs
        · rename_i aG
          obtain ⟨t,x,ht,hx,hc⟩:=h4 _ _ aG
          simp only [Option.some.injEq,Prod.mk.injEq] at hs
          obtain ⟨rfl,rfl,rfl,rfl⟩:=hs
          match t,x,hc,hx,ht with
          | .vec KG e1 w1 b1,some (.vec xV v0 e0 m0 c0),hc,hx,ht=>
            obtain ⟨rfl,rfl,rfl,rfl,rfl,rfl,rfl,q⟩:=hc
            exact ⟨v0,dk hx,.inl ⟨b1,ht,q⟩⟩
        · rename_i aG
          obtain ⟨t,x,ht,hx,hc⟩:=h4 _ _ aG
          simp only [Option.some.injEq,Prod.mk.injEq] at hs
          obtain ⟨rfl,rfl,rfl,rfl⟩:=hs
          match t,x,hc,hx,ht with
          | .jR KG e1 w1,some (.jR xV v0 e0 m0),hc,hx,ht=>
            obtain ⟨rfl,rfl,rfl,rfl,rfl,rfl,rfl⟩:=hc
            exact ⟨_,by unfold sg;rw [hx],.inr ⟨ht,rfl⟩⟩
        · cases hs
      have Sc:∀ r,r<h.rows.length->sg s.rows r=none->sg rs r=none:=by
        intro r hr hs
        cases hw:sg rs r with
        | none=>rfl
        | some p=>
          obtain ⟨nb,w,aA,m⟩:=p
          obtain ⟨v,hv,_⟩:=words r nb w aA m hw
          rw [hv] at hs;cases hs
      have hb:BQ (nS h.rows) s.rows h.rows.length rs:=by
        refine ⟨h2,h3,fun r hr=>⟨fun nb aW aA m hs=>?_,Sc r hr⟩⟩
        obtain ⟨v,hv,ht⟩:=words r nb aW aA m hs
        rcases ht with ⟨b,ht,_⟩ | ⟨ht,_⟩
        · exact ⟨(DA ht).symm,v,hv⟩
        · exact ⟨(DB ht).symm,v,hv⟩
      refine ⟨_,e,fun ι0 ι σ hE hle=>⟨⟨h1 ι rs hb _ hE.tmps,⟨fun r row hr=>?_,fun r r' row cS hr gL k1 k2 e=>?_,hE.rows.ok,hE.rows.fH⟩,?_,?_⟩,?_⟩⟩
      · obtain ⟨t,x,ht,hx,hc⟩:=h4 _ _ hr
        match t,row,x,hc,hx,hr with
        | .lit _,.lit dE,some (.lit cs),hc,hx,hr=>
          obtain ⟨us,q1,q2⟩:=hE.rows.row _ _ hx
          exact ⟨us,q1,hc ι rs hb _ q2⟩
        | .vec KG e1 w1 b1,.vec m5 aW dI m' dE,some (.vec nb v aA m cs),hc,hx,hr=>
          obtain ⟨rfl,rfl,rfl,rfl,rfl,rfl,rfl,q⟩:=hc
          exact hE.rows.row _ _ hx
        | .jR KG e1 w1,.jR m5 aW dI m',some (.jR nb v aA m),hc,hx,hr=>trivial
        | .dM,.dM cN jt,some (.dM es clock),hc,hx,hr=>
          obtain ⟨rfl,rfl⟩:=hc
          exact hE.rows.row _ _ hx
        | .loop _ _,.loop L',some (.loop L),hc,hx,hr=>
          obtain ⟨q1,q2,q3,q4,q5,q6,q7,q8⟩:=hc
          obtain ⟨A,p1,p2,p3,p4,p5,p6,p7,p8⟩:=hE.rows.row _ _ hx
          refine ⟨A,p1,by rw [q1,p2],by rw [q2,p3],by rw [q3,q4];exact p4,q8 ι rs hb _ p5,?_,?_,by rw [q5];exact p8⟩
          · show L'.defers<rs.length
            rw [q5,h2];exact q6
          · show sg rs L'.defers=none
            rw [q5];exact Sc _ q6 q7
        | .deferred,.deferred,some .deferred,hc,hx,hr=>exact hE.rows.row _ _ hx
      · obtain ⟨t,x,ht,hx,hc⟩:=h4 _ _ hr
        obtain ⟨t',x',VK,hx',KZ⟩:=h4 _ _ gL
        have real:∀ (t:TR) (x:Option eJ) (row:eJ),aaR (nS h.rows) s.rows h.rows.length t x (some row)->row.real->∃ j8,x=some j8/\j8.real:=by
          intro t x row hc hk
          match t,row,x,hc,hk with
          | .lit _,.lit dE,some (.lit cs),hc,hk=>exact ⟨_,rfl,trivial⟩
          | .vec _ _ _ _,.vec m5 aW dI m' dE,some (.vec nb v aA m cs),hc,hk=>
            obtain ⟨rfl,rfl,rfl,rfl,rfl,rfl,rfl,q⟩:=hc
            exact ⟨_,rfl,hk⟩
          | .jR _ _ _,.jR m5 aW dI m',some (.jR nb v aA m),hc,hk=>exact hk.elim
          | .dM,.dM cN jt,some (.dM es clock),hc,hk=>exact ⟨_,rfl,trivial⟩
          | .loop _ _,.loop L',some (.loop L),hc,hk=>exact ⟨_,rfl,trivial⟩
          | .deferred,.deferred,some .deferred,hc,hk=>exact ⟨_,rfl,trivial⟩
        obtain ⟨r0,rfl,k0⟩:=real _ _ _ hc k1
        obtain ⟨r0',rfl,k0'⟩:=real _ _ _ KZ k2
        exact hE.rows.inj _ _ _ _ hx hx' k0 k0' e
      · show σ.defers=h.defers.map ι
        rw [←hd];exact hE.defers
      · intro r hr
        have hr:r∈h.defers:=hr
        rw [←hd] at hr
        obtain ⟨d1,d2⟩:=hE.mZ r hr
        have hn:=Tx.2 r hr
        rw [Nat.blt_eq] at hn
        exact ⟨by show r<rs.length;rw [h2];exact hn,Sc r hn d2⟩
      · have hn:bc.length<=rs.length:=by rw [h2];exact bw.len
        have key:∀ r nb w aA m xV v0 wq m0,sg rs r=some (nb,w,aA,m)->sg bc r=some (xV,v0,wq,m0)->v0<=w/\(v0=w->sg s.rows r=some (nb,w,aA,m)):=by
          intro r nb w aA m xV v0 wq m0 hw h0
          obtain ⟨v,hv,ht⟩:=words _ _ _ _ _ hw
          rcases bw.at_ _ _ _ _ _ h0 with ⟨b,hb0⟩ | hb0<;>rcases ht with ⟨b',ye,q⟩ | ⟨ye,q⟩<;>rw [hb0] at ye<;>simp only [Option.some.injEq,TR.vec.injEq,TR.jR.injEq,reduceCtorEq] at ye
          · obtain ⟨_,_,e3,e4⟩:=ye
            subst e4
            cases b with
            | true=>simp only [if_true] at e3;exact ⟨by omega,fun e=>by omega⟩
            | false=>
              simp only [Bool.false_eq_true,if_false] at e3
              have:=q rfl
              subst this
              exact ⟨by omega,fun _=>hv⟩
          · obtain ⟨_,_,e3⟩:=ye
            rw [q] at hv
            exact ⟨by omega,fun _=>hv⟩
        have Sd:∀ r nb w aA m,sg rs r=some (nb,w,aA,m)->r<bc.length->sg bc r≠none:=by
          intro r nb w aA m hw hr h0
          have:=(hle.st r hr h0).1
          have:=Sc r (Nat.lt_of_lt_of_le hr bw.len) this
          rw [this] at hw;cases hw
        have aP:∀ r p,r<bc.length->sg bc r=some p->sg rs r≠none:=by
          intro r p hr h0 hs
          obtain ⟨xV,v0,wq,m0⟩:=p
          have cC:r<rs.length:=by omega
          obtain ⟨t,x,ht,hx,hc⟩:=h4 r rs[r] (List.getElem?_eq_getElem cC)
          have xE:rs[r]?=some rs[r]:=List.getElem?_eq_getElem cC
          generalize rs[r]=x' at hc xE
          rcases bw.at_ _ _ _ _ _ h0 with ⟨b,hb0⟩ | hb0<;>rw [hb0] at ht<;>simp only [Option.some.injEq] at ht<;>subst ht
          · match x,x',hc,xE with
            | some (.vec _ _ _ _ _),some (.vec _ _ _ _ _),hc,xE=>rw [dk xE] at hs;cases hs
          · match x,x',hc,xE with
            | some (.jR _ _ _ _),some (.jR _ _ _ _),hc,xE=>unfold sg at hs;rw [xE] at hs;cases hs
        refine ⟨hn,fun x v hx=>?_,fun r hr h0=>?_⟩
        · have PS:=hle.one x v hx
          cases x with
          | own r aW aA=>
            refine ⟨Nat.lt_of_lt_of_le hx.1 hn,fun nb w dI m hw=>?_⟩
            cases h0:sg bc r with
            | none=>exact absurd h0 (Sd r _ _ _ _ hw hx.1)
            | some p=>
              obtain ⟨xV,v0,wq,m0⟩:=p
              obtain ⟨l1,l2⟩:=hx.2 _ _ _ _ h0
              obtain ⟨k1,k2⟩:=key r nb w dI m xV v0 wq m0 hw h0
              refine ⟨Nat.le_trans l1 k1,fun e=>?_⟩
              have e2:v0=w:=by omega
              exact (PS.2 _ _ _ _ (k2 e2)).2 e
          | gk r aW off=>
            refine ⟨Nat.lt_of_lt_of_le hx.1 hn,fun nb w dI m hw=>?_⟩
            cases h0:sg bc r with
            | none=>exact absurd h0 (Sd r _ _ _ _ hw hx.1)
            | some p=>
              obtain ⟨xV,v0,wq,m0⟩:=p
              obtain ⟨l1,l2⟩:=hx.2 _ _ _ _ h0
              obtain ⟨k1,k2⟩:=key r nb w dI m xV v0 wq m0 hw h0
              refine ⟨Nat.le_trans l1 k1,fun e=>?_⟩
              have e2:v0=w:=by omega
              exact (PS.2 _ _ _ _ (k2 e2)).2 e
          | ptr r off=>
            refine ⟨Nat.lt_of_lt_of_le hx.1 hn,fun hs=>?_⟩
            cases h0:sg bc r with
            | none=>
              obtain ⟨a,b⟩:=hle.st r hx.1 h0
              exact PS.2 a
            | some p=>
              exact absurd hs (aP r p hx.1 h0)
          | sub r aW o0 k0 aA=>
            refine ⟨Nat.lt_of_lt_of_le hx.1 hn,fun nb w dI m hw=>?_⟩
            cases h0:sg bc r with
            | none=>exact absurd h0 (Sd r _ _ _ _ hw hx.1)
            | some p=>
              obtain ⟨xV,v0,wq,m0⟩:=p
              obtain ⟨l1,l2⟩:=hx.2 _ _ _ _ h0
              obtain ⟨k1,k2⟩:=key r nb w dI m xV v0 wq m0 hw h0
              refine ⟨Nat.le_trans l1 k1,fun e=>?_⟩
              have e2:v0=w:=by omega
              exact (PS.2 _ _ _ _ (k2 e2)).2 e
          | fX r o0 k0 aA=>
            refine ⟨Nat.lt_of_lt_of_le hx.1 hn,fun hs=>?_⟩
            cases h0:sg bc r with
            | none=>
              obtain ⟨a,b⟩:=hle.st r hx.1 h0
              exact PS.2 a
            | some p=>
              exact absurd hs (aP r p hx.1 h0)
          | yield r=>
            refine ⟨Nat.lt_of_lt_of_le hx.1 hn,fun hs=>?_⟩
            cases h0:sg bc r with
            | none=>
              obtain ⟨a,b⟩:=hle.st r hx.1 h0
              exact PS.2 a
            | some p=>
              exact absurd hs (aP r p hx.1 h0)
          | mp r=>
            refine ⟨Nat.lt_of_lt_of_le hx.1 hn,fun hs=>?_⟩
            cases h0:sg bc r with
            | none=>
              obtain ⟨a,b⟩:=hle.st r hx.1 h0
              exact PS.2 a
            | some p=>
              exact absurd hs (aP r p hx.1 h0)
          | _=>exact PS
        · obtain ⟨a,b⟩:=hle.st r hr h0
          exact ⟨Sc r (Nat.lt_of_lt_of_le hr bw.len) a,b⟩
    · cases ha
  · cases ha
end
end Go.Abs
end
noncomputable section
namespace Go.Abs
def posOf:List Nat->Nat->Nat->Option Nat
 | [],_,_=>none
 | x::xs,r,j=>match Nat.beq x r with
  | true=>some j
  | false=>posOf xs r (j+1)
theorem lh:∀ {aP:List Nat} {r j p:Nat},posOf aP r j=some p->j<=p/\aP[p-j]?=some r
 | [],r,j,p,h=>by cases h
 | x::xs,r,j,p,h=>by
  simp only [posOf] at h
  split at h
  ·rename_i hb
   simp only [Option.some.injEq] at h;subst h
   have:=Nat.eq_of_beq_eq_true hb
   subst this
   simp
  ·obtain ⟨h1,h2⟩:=lh h
   refine ⟨by omega,?_⟩
   rw [show p-j=(p-(j+1))+1 by omega,List.getElem?_cons_succ];exact h2
theorem Dv:∀ {aP:List Nat} {r:Nat} (j:Nat),r∈aP->∃ p,posOf aP r j=some p
 | [],r,j,h=>by cases h
 | x::xs,r,j,h=>by
  simp only [posOf]
  cases hb:Nat.beq x r with
  | true=>exact ⟨_,rfl⟩
  | false=>
   rcases List.mem_cons.1 h with rfl | h
   ·rw [Nat.beq_refl] at hb;cases hb
   ·exact Dv (j+1) h
def ur (aP:List Nat):S1->S1
 | .own r aW aA=>match posOf aP r 0 with
  | some j=>.own j aW aA
  | none=>.top
 | .ptr r off=>match posOf aP r 0 with
  | some j=>.ptr j off
  | none=>.top
 | .gk r aW off=>match posOf aP r 0 with
  | some j=>.gk j aW off
  | none=>.top
 | .yield r=>match posOf aP r 0 with
  | some j=>.yield j
  | none=>.top
 | .mp r=>match posOf aP r 0 with
  | some j=>.mp j
  | none=>.top
 | .sub r aW off n aA=>match posOf aP r 0 with
  | some j=>.sub j aW off n aA
  | none=>.top
 | .fX r off n aA=>match posOf aP r 0 with
  | some j=>.fX j off n aA
  | none=>.top
 | x=>x
def Ol (aP:List Nat):S2->S2
 | .b x=>.b (ur aP x)
 | .fn f first cap=>.fn f (first.map (ur aP)) (cap.map (ur aP))
def Vf (aP:List Nat):S3->S3
 | .o x=>.o (Ol aP x)
 | .agg cs=>.agg (cs.map (Ol aP))
def RX (aP:List Nat):SV->SV
 | .s x=>.s (Vf aP x)
 | .tuple xs=>.tuple (xs.map (Vf aP))
def iQ (aP:List Nat):eJ->Option eJ
 | .lit cs=>some (.lit (cs.map (Ol aP)))
 | .loop L=>match posOf aP L.defers 0 with
  | some d=>some (.loop { L with tmps:=L.tmps.map (RX aP),defers:=d })
  | none=>none
 | x=>some x
def dJ (aP:List Nat) (rows:Rows):Rows:=aP.map fun r=>match rows[r]? with
 | some (some row)=>iQ aP row
 | _=>none
def nodupB:List Nat->Bool
 | []=>true
 | x::xs=>!l9 x xs&&nodupB xs
def BJ (aP:List Nat):List Nat->Option (List Nat)
 | []=>some []
 | d::ds=>match posOf aP d 0,BJ aP ds with
  | some j,some js=>some (j::js)
  | _,_=>none
def Fl (n0:Nat) (order:List Nat) (s:bX):Option bX:=
 match Nat.ble n0 s.rows.length&&order.all (fun r=>Nat.ble n0 r&&Nat.blt r s.rows.length)&&nodupB order with
 | true=>match BJ (List.range n0++order) s.defers with
  | some ds=>some ⟨s.tmps.map (RX (List.range n0++order)),dJ (List.range n0++order) s.rows,ds⟩
  | none=>none
 | false=>none
theorem sH:∀ {r:Nat} {xs:List Nat},l9 r xs=true↔r∈xs
 | r,[]=>by simp [l9]
 | r,x::xs=>by
  simp only [l9,Bool.or_eq_true,List.mem_cons,sH]
  constructor
  ·rintro (h | h)
   ·exact .inl (Nat.eq_of_beq_eq_true h).symm
   ·exact .inr h
  ·rintro (h | h)
   ·subst h;exact .inl (Nat.beq_refl _)
   ·exact .inr h
theorem xt:∀ {xs:List Nat},nodupB xs=true->xs.Nodup
 | [],_=>List.nodup_nil
 | x::xs,h=>by
  simp only [nodupB,Bool.and_eq_true,Bool.not_eq_true'] at h
  refine List.nodup_cons.2 ⟨fun hm=>?_,xt h.2⟩
  rw [sH.2 hm] at h
  cases h.1
structure ju (n0 len:Nat) (aP:List Nat):Prop where
 first:∀ r,r<n0->aP[r]?=some r
 lt:∀ r∈aP,r<len
 nodup:aP.Nodup
 len:n0<=aP.length
theorem Om {n0 len:Nat} {order:List Nat} (h0:n0<=len) (h1:∀ r∈order,n0<=r/\r<len) (h2:order.Nodup):ju n0 len (List.range n0++order) where
 first r hr:=by rw [List.getElem?_append_left (by simpa using hr)];simp [hr]
 lt r hr:=by
  rcases List.mem_append.1 hr with h | h
  ·have:=List.mem_range.1 h;omega
  ·exact (h1 r h).2
 nodup:=List.nodup_append.2 ⟨List.nodup_range,h2,fun a ha b hb=>by
  have:=List.mem_range.1 ha
  have:=(h1 b hb).1
  omega⟩
 len:=by simp
section
variable {C : cp} {ι : Nat → Nat} {rows : Rows} {H : af} {aP : List Nat} {n0 : Nat}
theorem iR (hk:ju n0 rows.length aP) {r:Nat} (hr:r<n0):posOf aP r 0=some r:=by
 have hm:r∈aP:=List.mem_of_getElem? (hk.first r hr)
 obtain ⟨p,hp⟩:=Dv 0 hm
 obtain ⟨_,h2⟩:=lh hp
 rw [Nat.sub_zero] at h2
 have h3:=hk.first r hr
 have cC:p<aP.length:=(List.getElem?_eq_some_iff.1 h2).1
 have:=(List.getElem?_inj cC hk.nodup).1 (h2.trans h3.symm)
 rw [hp,this]
theorem Vg (hk:ju n0 rows.length aP) {i j r:Nat} (h1:aP[i]?=some r) (h2:aP[j]?=some r):i=j:=
 (List.getElem?_inj (List.getElem?_eq_some_iff.1 h1).1 hk.nodup).1 (h1.trans h2.symm)
theorem xu (j:Nat):(dJ aP rows)[j]?=(aP[j]?).map fun r=>match rows[r]? with
 | some (some row)=>iQ aP row
 | _=>none:=by rw [dJ,List.getElem?_map];rfl
theorem ig:(dJ aP rows).length=aP.length:=by simp [dJ]
theorem mf (hk:ju n0 rows.length aP) {j r:Nat} (h:aP[j]?=some r):sg (dJ aP rows) j=sg rows r:=by
 have hr:r<rows.length:=hk.lt r (List.mem_of_getElem? h)
 unfold sg
 rw [xu,h]
 simp only [Option.map_some]
 rw [List.getElem?_eq_getElem hr]
 cases rows[r] with
 | none=>rfl
 | some row=>
  cases row with
  | loop L=>simp only [iQ];split<;>rename_i h1<;>split at h1<;>simp_all
  | _=>rfl
def iw (aP:List Nat) (ι:Nat->Nat) (j:Nat):Nat:=ι (aP.getD j 0)
theorem c_ {j r:Nat} (h:aP[j]?=some r):iw aP ι j=ι r:=by
 unfold iw
 rw [List.getD_eq_getElem?_getD,h];rfl
theorem uu (hk:ju n0 rows.length aP) {x:S1} {v:AV} (hx:R1 ι rows x v):R1 (iw aP ι) (dJ aP rows) (ur aP x) v:=by
 have at_:∀ {r j:Nat},posOf aP r 0=some j->aP[j]?=some r/\j<(dJ aP rows).length:=by
  intro r j h
  have:=(lh h).2
  rw [Nat.sub_zero] at this
  exact ⟨this,by rw [ig];exact (List.getElem?_eq_some_iff.1 this).1⟩
 unfold ur
 split
 ·split
  ·rename_i r aW aA _ j hj
   obtain ⟨h1,h2⟩:=at_ hj
   refine ⟨h2,fun nb gz dI n hs=>?_⟩
   rw [mf hk h1] at hs
   rw [c_ h1]
   exact hx.2 _ _ _ _ hs
  ·trivial
 ·split
  ·rename_i r off _ j hj
   obtain ⟨h1,h2⟩:=at_ hj
   refine ⟨h2,fun hs=>?_⟩
   rw [mf hk h1] at hs
   rw [c_ h1]
   exact hx.2 hs
  ·trivial
 ·split
  ·rename_i r aW off _ j hj
   obtain ⟨h1,h2⟩:=at_ hj
   refine ⟨h2,fun nb gz dI n hs=>?_⟩
   rw [mf hk h1] at hs
   rw [c_ h1]
   exact hx.2 _ _ _ _ hs
  ·trivial
 ·split
  ·rename_i r _ j hj
   obtain ⟨h1,h2⟩:=at_ hj
   refine ⟨h2,fun hs=>?_⟩
   rw [mf hk h1] at hs
   rw [c_ h1]
   exact hx.2 hs
  ·trivial
 ·split
  ·rename_i r _ j hj
   obtain ⟨h1,h2⟩:=at_ hj
   refine ⟨h2,fun hs=>?_⟩
   rw [mf hk h1] at hs
   rw [c_ h1]
   exact hx.2 hs
  ·trivial
 ·split
  ·rename_i r aW off n aA _ j hj
   obtain ⟨h1,h2⟩:=at_ hj
   refine ⟨h2,fun nb gz dI n hs=>?_⟩
   rw [mf hk h1] at hs
   rw [c_ h1]
   exact hx.2 _ _ _ _ hs
  ·trivial
 ·split
  ·rename_i r off n aA _ j hj
   obtain ⟨h1,h2⟩:=at_ hj
   refine ⟨h2,fun hs=>?_⟩
   rw [mf hk h1] at hs
   rw [c_ h1]
   exact hx.2 hs
  ·trivial
 ·rename_i h1 h2 h3 h4 h7 h5 h6
  cases x with
  | sub r aW off n aA=>exact absurd rfl (h5 r aW off n aA)
  | fX r off n aA=>exact absurd rfl (h6 r off n aA)
  | mp r=>exact absurd rfl (h7 r)
  | own r aW aA=>exact absurd rfl (h1 r aW aA)
  | ptr r off=>exact absurd rfl (h2 r off)
  | gk r aW off=>exact absurd rfl (h3 r aW off)
  | yield r=>exact absurd rfl (h4 r)
  | _=>exact hx
theorem lj {α β γ:Type} {R:α->β->Prop} {S:γ->β->Prop} (f:α->γ) (h:∀ x y,R x y->S (f x) y) {xs:List α} {ys:List β} (hx:aQ R xs ys):aQ S (xs.map f) ys:=by
 induction hx with
 | nil=>exact .nil
 | cons a _ ih=>exact .cons (h _ _ a) ih
theorem BK (hk:ju n0 rows.length aP) {x:S2} {v:AV} (hx:R2 ι rows x v):R2 (iw aP ι) (dJ aP rows) (Ol aP x) v:=by
 cases x with
 | b x=>exact uu hk hx
 | fn f a b=>
  obtain ⟨a',b',e,h1,h2⟩:=hx
  exact ⟨a',b',e,lj (ur aP) (fun _ _ h=>uu hk h) h1,lj (ur aP) (fun _ _ h=>uu hk h) h2⟩
theorem HM (hk:ju n0 rows.length aP) {x:S3} {v:AV} (hx:R3 ι rows x v):R3 (iw aP ι) (dJ aP rows) (Vf aP x) v:=by
 cases x with
 | o x=>exact BK hk (x:=x) hx
 | agg cs=>
  obtain ⟨a',e,h1⟩:=hx
  exact ⟨a',e,lj (Ol aP) (fun _ _ h=>BK hk h) h1⟩
theorem HN (hk:ju n0 rows.length aP) {x:SV} {v:AV} (hx:RV ι rows x v):RV (iw aP ι) (dJ aP rows) (RX aP x) v:=by
 cases x with
 | s x=>exact HM hk (x:=x) hx
 | tuple xs=>
  obtain ⟨a',e,h1⟩:=hx
  exact ⟨a',e,lj (Vf aP) (fun _ _ h=>HM hk h) h1⟩
theorem Fm (hk:ju n0 rows.length aP) {j:Nat} {cS:eJ} (h:(dJ aP rows)[j]?=some (some cS)):∃ r row,aP[j]?=some r/\rows[r]?=some (some row)/\iQ aP row=some cS:=by
 rw [xu,Option.map_eq_some_iff] at h
 obtain ⟨r,h1,h2⟩:=h
 split at h2
 ·rename_i row aG
  exact ⟨r,row,h1,aG,h2⟩
 ·cases h2
theorem xw {row cS:eJ} (h:iQ aP row=some cS) (hr:cS.real):row.real:=by
 cases row with
 | lit cs=>trivial
 | loop L=>trivial
 | vec nb aW aA n cs=>simp only [iQ,Option.some.injEq] at h;subst h;exact hr
 | jR nb aW aA n=>simp only [iQ,Option.some.injEq] at h;subst h;exact hr
 | dM es clock=>trivial
 | deferred=>trivial
theorem On (hk:ju n0 rows.length aP) (hE:aE C ι rows H):aE C (iw aP ι) (dJ aP rows) H:=by
 refine ⟨fun j cS h=>?_,fun j j' row cS h h' k k' e=>?_,hE.ok,hE.fH⟩
 ·obtain ⟨r,row,h1,h2,h3⟩:=Fm hk h
  have h4:=hE.row r row h2
  cases row with
  | lit cs=>
   simp only [iQ,Option.some.injEq] at h3;subst h3
   obtain ⟨dE,q1,q2⟩:=h4
   exact ⟨dE,by rw [c_ h1];exact q1,lj (Ol aP) (fun _ _ h=>BK hk h) q2⟩
  | vec nb aW aA n cs=>
   simp only [iQ,Option.some.injEq] at h3;subst h3
   obtain ⟨q1,q2,q3⟩:=h4
   exact ⟨q1,q2,by rw [c_ h1];exact q3⟩
  | jR nb aW aA n=>
   simp only [iQ,Option.some.injEq] at h3;subst h3
   trivial
  | dM es clock=>
   simp only [iQ,Option.some.injEq] at h3;subst h3
   show H.get (iw aP ι j)=_
   rw [c_ h1];exact h4
  | loop L=>
   simp only [iQ] at h3
   split at h3
   ·rename_i d hd
    simp only [Option.some.injEq] at h3;subst h3
    have VO:=(lh hd).2
    rw [Nat.sub_zero] at VO
    obtain ⟨L',q1,q2,q3,q4,q5,q6,q7,q8⟩:=h4
    refine ⟨L',by rw [c_ h1];exact q1,q2,q3,q4,lj (RX aP) (fun _ _ h=>HN hk h) q5,?_,?_,?_⟩
    ·show d<(dJ aP rows).length
     rw [ig];exact (List.getElem?_eq_some_iff.1 VO).1
    ·show sg (dJ aP rows) d=none
     rw [mf hk VO];exact q7
    ·show L'.defers=iw aP ι d
     rw [c_ VO];exact q8
   ·cases h3
  | deferred=>
   simp only [iQ,Option.some.injEq] at h3;subst h3
   show H.get (iw aP ι j)=_
   rw [c_ h1];exact h4
 ·obtain ⟨r,ro,h1,h2,h3⟩:=Fm hk h
  obtain ⟨r',wJ,bM,h2',V5⟩:=Fm hk h'
  rw [c_ h1,c_ bM] at e
  have:=hE.inj r r' ro wJ h2 h2' (xw h3 k) (xw V5 k') e
  subst this
  exact Vg hk h1 bM
theorem aaM {ι0:Nat->Nat} {bc:Rows} (hk:ju bc.length rows.length aP) (le:Le ι0 bc ι rows):Le ι0 bc (iw aP ι) (dJ aP rows):=by
 refine ⟨by rw [ig];exact hk.len,fun x v hx=>?_,fun r hr h0=>?_⟩
 ·have h1:=uu hk (le.one x v hx)
  cases x with
  | own r aW aA=>simp only [ur,iR hk hx.1] at h1;exact h1
  | ptr r off=>simp only [ur,iR hk hx.1] at h1;exact h1
  | gk r aW off=>simp only [ur,iR hk hx.1] at h1;exact h1
  | yield r=>simp only [ur,iR hk hx.1] at h1;exact h1
  | mp r=>simp only [ur,iR hk hx.1] at h1;exact h1
  | sub r aW off n aA=>simp only [ur,iR hk hx.1] at h1;exact h1
  | fX r off n aA=>simp only [ur,iR hk hx.1] at h1;exact h1
  | _=>exact h1
 ·obtain ⟨a,b⟩:=le.st r hr h0
  have:=hk.first r hr
  exact ⟨by rw [mf hk this];exact a,by rw [c_ this];exact b⟩
theorem pC:∀ {ds ON:List Nat},BJ aP ds=some ON->ON.map (iw aP ι)=ds.map ι/\∀ d'∈ON,∃ d∈ds,aP[d']?=some d
 | [],ON,h=>by simp only [BJ,Option.some.injEq] at h;subst h;exact ⟨rfl,fun d h=>by cases h⟩
 | d::ds,ON,h=>by
  simp only [BJ] at h
  split at h
  ·rename_i j js h1 h2
   simp only [Option.some.injEq] at h;subst h
   obtain ⟨k1,k2⟩:=pC h2
   have h3:=(lh h1).2
   rw [Nat.sub_zero] at h3
   refine ⟨by simp only [List.map_cons,k1,c_ h3],fun d' B_=>?_⟩
   rcases List.mem_cons.1 B_ with rfl | B_
   ·exact ⟨d,List.mem_cons_self,h3⟩
   ·obtain ⟨e,he,q⟩:=k2 d' B_
    exact ⟨e,List.mem_cons_of_mem _ he,q⟩
  ·cases h
theorem Kz {s s':bX} {order:List Nat} {bc:Rows} (h:Fl bc.length order s=some s'):
  ∃ aP,∀ (ι0 ι:Nat->Nat) (σ:St),fg C ι s σ->Le ι0 bc ι s.rows->fg C (iw aP ι) s' σ/\Le ι0 bc (iw aP ι) s'.rows:=by
 unfold Fl at h
 split at h
 ·rename_i hc
  simp only [Bool.and_eq_true,List.all_eq_true,Nat.ble_eq,Nat.blt_eq] at hc
  obtain ⟨⟨c1,c2⟩,c3⟩:=hc
  have hk:ju bc.length s.rows.length (List.range bc.length++order):=Om c1 c2 (xt c3)
  split at h
  ·rename_i ds Ty
   simp only [Option.some.injEq] at h;subst h
   refine ⟨List.range bc.length++order,fun ι0 ι σ hE le=>⟨⟨lj (RX (List.range bc.length++order)) (fun _ _ h=>HN hk h) hE.tmps,On hk hE.rows,?_,fun d hd=>?_⟩,aaM hk le⟩⟩
   ·show σ.defers=ds.map _
    rw [(pC Ty).1];exact hE.defers
   ·obtain ⟨d0,h1,h2⟩:=(pC (ι:=ι) Ty).2 d hd
    exact ⟨by show d<(dJ _ _).length;rw [ig];exact (List.getElem?_eq_some_iff.1 h2).1,by show sg (dJ _ _) d=none;rw [mf hk h2];exact (hE.mZ d0 h1).2⟩
  ·cases h
 ·cases h
def wo:S2->Bool
 | .b (.raw .av)=>true
 | _=>false
def BL (r c aA:Nat) (s:bX):bX:=
 match s.rows[r]? with
 | some (some (.lit cs))=>match cs[c]? with
  | some x=>match wo x with
   | true=>{ s with rows:=(s.rows.set r (some (.lit (cs.set c (.b (.own s.rows.length 0 aA))))))++[some (.vec true 0 aA 0 [])] }
   | false=>s
  | none=>s
 | _=>s
def BM (t aA:Nat) (s:bX):bX:=
 match s.tmps[t]? with
 | some (.s (.o x))=>match wo x with
  | true=>{ s with tmps:=s.tmps.set t (.s (.o (.b (.own s.rows.length 0 aA)))),rows:=s.rows++[some (.vec true 0 aA 0 [])] }
  | false=>s
 | _=>s
theorem Dw (ι:Nat->Nat) (rows:Rows) (aA:Nat):R1 ι (rows++[some (.vec true 0 aA 0 [])]) (.own rows.length 0 aA) .av:=by
 refine ⟨by simp,fun nb gz dI n hs=>?_⟩
 have:sg (rows++[some (.vec true 0 aA 0 [])]) rows.length=some (true,0,aA,0):=dk (nb:=true) (aW:=0) (aA:=aA) (n:=0) (cs:=[]) (by simp)
 rw [this] at hs;cases hs
 exact ⟨Nat.le_refl _,fun _=>⟨rfl,by simp [dc]⟩⟩
theorem Oo {s:bX} {σ:St} {ι0:Nat->Nat} {bc:Rows} {t aA:Nat} (hE:fg C ι s σ) (le:Le ι0 bc ι s.rows):fg C ι (BM t aA s) σ/\Le ι0 bc ι (BM t aA s).rows:=by
 unfold BM
 split
 ·rename_i x hx
  split
  ·rename_i hn
   have Cc:=nE ι s.rows (some (.vec true 0 aA 0 []))
   refine ⟨⟨?_,hE.rows.ghost aA,hE.defers,fun d hd=>?_⟩,le.trans Cc⟩
   ·obtain ⟨v,hv,hr⟩:=hE.tmps.get hx
    have h1:=hE.tmps.mono fun _ _=>Cc.rv
    have:v=.av:=by
     cases x with
     | b y=>cases y<;>simp [wo] at hn;rename_i z;cases z<;>simp at hn;exact hr
     | fn=>simp [wo] at hn
    subst this
    have h2:=h1.set (x:=.s (.o (.b (.own s.rows.length 0 aA)))) (y:=.av) (Dw ι s.rows aA) t
    have e:σ.tmps.set t .av=σ.tmps:=by
     obtain ⟨hl,he⟩:=List.getElem?_eq_some_iff.1 hv
     rw [←he];exact List.set_getElem_self hl
    rw [e] at h2;exact h2
   ·obtain ⟨a,b⟩:=hE.mZ d hd
    have:=Cc.st d a b
    exact ⟨Nat.lt_of_lt_of_le a Cc.len,this.1⟩
  ·exact ⟨hE,le⟩
 ·exact ⟨hE,le⟩
theorem Oq {s:bX} {σ:St} {ι0:Nat->Nat} {bc:Rows} {r c aA:Nat} (hE:fg C ι s σ) (le:Le ι0 bc ι s.rows):fg C ι (BL r c aA s) σ/\Le ι0 bc ι (BL r c aA s).rows:=by
 unfold BL
 split
 ·rename_i cs aG
  split
  ·rename_i x hx
   split
   ·rename_i hn
    have hr:r<s.rows.length:=bQ aG
    let KA:Option eJ:=some (.lit (cs.set c (.b (.own s.rows.length 0 aA))))
    have hsg:∀ q,sg (s.rows.set r KA) q=sg s.rows q:=by
     intro q
     unfold sg
     rw [List.getElem?_set]
     by_cases e:r=q
     ·subst e;rw [if_pos rfl,if_pos hr,aG]
     ·rw [if_neg e]
    have le0:Le ι s.rows ι (s.rows.set r KA):=Le.of (by simp) fun q hq=>.inl ⟨rfl,hsg q⟩
    have Cc:Le ι (s.rows.set r KA) ι (s.rows.set r KA++[some (.vec true 0 aA 0 [])]):=nE ι _ _
    have wN:=le0.trans Cc
    have hlen:(s.rows.set r KA).length=s.rows.length:=by simp
    refine ⟨⟨hE.tmps.mono fun _ _=>wN.rv,⟨fun q row h=>?_,fun q q' row cS h h' k k' e=>?_,hE.rows.ok,hE.rows.fH⟩,hE.defers,fun d hd=>?_⟩,le.trans wN⟩
    ·rcases lT h with ⟨hq,h⟩ | ⟨hq,h⟩
     ·rw [List.getElem?_set] at h
      by_cases e:r=q
      ·subst e
       rw [if_pos rfl,if_pos hr] at h
       simp only [Option.some.injEq] at h
       subst h
       obtain ⟨dE,q1,q2⟩:=hE.rows.row _ _ aG
       obtain ⟨v,hv,ml⟩:=q2.get hx
       have:v=.av:=by
        cases x with
        | b y=>cases y<;>simp [wo] at hn;rename_i z;cases z<;>simp at hn;exact ml
        | fn=>simp [wo] at hn
       subst this
       have h1:=q2.mono fun _ _=>wN.r2
       have h2:=h1.set (x:=.b (.own s.rows.length 0 aA)) (y:=.av) (by
        have:=Dw ι (s.rows.set r KA) aA
        rw [hlen] at this;exact this) c
       have e:dE.set c .av=dE:=by
        obtain ⟨hl,he⟩:=List.getElem?_eq_some_iff.1 hv
        rw [←he];exact List.set_getElem_self hl
       rw [e] at h2
       exact ⟨dE,q1,h2⟩
      ·rw [if_neg e] at h
       exact (hE.rows.row _ _ h).mono wN (fun _=>⟨rfl,fun _ h=>h⟩) fun d hd h0=>by
        obtain ⟨a,b⟩:=wN.st d hd h0
        exact ⟨b,a⟩
     ·simp only [Option.some.injEq] at h;subst h
      exact ⟨by simp,fun x hx=>(by cases hx),fun hn=>absurd ⟨rfl,rfl⟩ hn⟩
    ·have cn:∀ (q:Nat) (row:eJ),(s.rows.set r KA++[some (.vec true 0 aA 0 [])])[q]?=some (some row)->row.real->∃ j8,s.rows[q]?=some (some j8)/\j8.real:=by
      intro q row h k
      rcases lT h with ⟨hq,h⟩ | ⟨hq,h⟩
      ·rw [List.getElem?_set] at h
       by_cases e:r=q
       ·subst e
        exact ⟨_,aG,trivial⟩
       ·rw [if_neg e] at h
        exact ⟨row,h,k⟩
      ·simp only [Option.some.injEq] at h;subst h
       exact absurd ⟨rfl,rfl⟩ k
     obtain ⟨x1,p1,p2⟩:=cn q row h k
     obtain ⟨x2,p3,p4⟩:=cn q' cS h' k'
     exact hE.rows.inj _ _ _ _ p1 p3 p2 p4 e
    ·obtain ⟨a,b⟩:=hE.mZ d hd
     have:=wN.st d a b
     exact ⟨Nat.lt_of_lt_of_le a wN.len,this.1⟩
   ·exact ⟨hE,le⟩
  ·exact ⟨hE,le⟩
 ·exact ⟨hE,le⟩
end
end Go.Abs
end
noncomputable section
namespace Go.Abs
section
variable {X : Type}
def bL (n:Nat) (k:Nat->X):X:=
 match n with
 | 0=>k 0
 | m+1=>k (m+1)
theorem dQ {n:Nat} {k:Nat->X}:bL n k=k n:=by cases n<;>rfl
def qq:List Nat->(List Nat->X)->X
 | [],k=>k []
 | x::xs,k=>bL x fun x=>qq xs fun xs=>k (x::xs)
theorem nF:∀ {l:List Nat} {k:List Nat->X},qq l k=k l
 | [],_=>rfl
 | x::xs,k=>by simp only [qq,dQ,nF]
def vY (b:Bool) (k:Bool->X):X:=
 match b with
 | true=>k true
 | false=>k false
theorem Dm {b:Bool} {k:Bool->X}:vY b k=k b:=by cases b<;>rfl
def E_ (x:S1) (k:S1->X):X:=
 match x with
 | .top=>k .top
 | .bool b=>k (.bool b)
 | .int t n=>k (.int t n)
 | .aL t o=>k (.aL t o)
 | .string s=>k (.string s)
 | .list n cs=>k (.list n cs)
 | .nl n cs=>k (.nl n cs)
 | .fm cs off=>k (.fm cs off)
 | .own r v e=>bL r fun r=>bL v fun v=>bL e fun e=>k (.own r v e)
 | .ptr r o=>bL r fun r=>bL o fun o=>k (.ptr r o)
 | .gk r v o=>bL r fun r=>bL v fun v=>k (.gk r v o)
 | .sub r v o n e=>bL r fun r=>bL v fun v=>bL e fun e=>k (.sub r v o n e)
 | .fX r o n e=>bL r fun r=>k (.fX r o n e)
 | .yield r=>bL r fun r=>k (.yield r)
 | .mp r=>bL r fun r=>k (.mp r)
 | .raw x=>match x with
  | .av=>k (.raw .av)
  | .bI=>k (.raw .bI)
  | .nilFunc=>k (.raw .nilFunc)
  | x=>k (.raw x)
theorem Dn {x:S1} {k:S1->X}:E_ x k=k x:=by
 unfold E_
 split<;>(try simp only [dQ])<;>(try rfl)
 split<;>rfl
def uf:List S1->(List S1->X)->X
 | [],k=>k []
 | x::xs,k=>E_ x fun x=>uf xs fun xs=>k (x::xs)
theorem Bu:∀ {l:List S1} {k:List S1->X},uf l k=k l
 | [],_=>rfl
 | x::xs,k=>by simp only [uf,Dn,Bu]
def Fa (x:S2) (k:S2->X):X:=
 match x with
 | .b x=>E_ x fun x=>k (.b x)
 | .fn f a b=>bL f fun f=>uf a fun a=>uf b fun b=>k (.fn f a b)
theorem Dp {x:S2} {k:S2->X}:Fa x k=k x:=by
 cases x<;>simp only [Fa,Dn,dQ,Bu]
def ug:List S2->(List S2->X)->X
 | [],k=>k []
 | x::xs,k=>Fa x fun x=>ug xs fun xs=>k (x::xs)
theorem sK:∀ {l:List S2} {k:List S2->X},ug l k=k l
 | [],_=>rfl
 | x::xs,k=>by simp only [ug,Dp,sK]
def Fb (x:S3) (k:S3->X):X:=
 match x with
 | .o x=>Fa x fun x=>k (.o x)
 | .agg cs=>ug cs fun cs=>k (.agg cs)
theorem Dq {x:S3} {k:S3->X}:Fb x k=k x:=by
 cases x<;>simp only [Fb,Dp,sK]
def yu:List S3->(List S3->X)->X
 | [],k=>k []
 | x::xs,k=>Fb x fun x=>yu xs fun xs=>k (x::xs)
theorem Bv:∀ {l:List S3} {k:List S3->X},yu l k=k l
 | [],_=>rfl
 | x::xs,k=>by simp only [yu,Dq,Bv]
def Fc (x:SV) (k:SV->X):X:=
 match x with
 | .s x=>Fb x fun x=>k (.s x)
 | .tuple xs=>yu xs fun xs=>k (.tuple xs)
theorem Kk {x:SV} {k:SV->X}:Fc x k=k x:=by
 cases x<;>simp only [Fc,Dq,Bv]
def uh:List SV->(List SV->X)->X
 | [],k=>k []
 | x::xs,k=>Fc x fun x=>uh xs fun xs=>k (x::xs)
theorem sL:∀ {l:List SV} {k:List SV->X},uh l k=k l
 | [],_=>rfl
 | x::xs,k=>by simp only [uh,Kk,sL]
def Bw (x:Option eJ) (k:Option eJ->X):X:=
 match x with
 | none=>k none
 | some (.lit cs)=>ug cs fun cs=>k (some (.lit cs))
 | some (.vec nb v e n cs)=>vY nb fun nb=>bL v fun v=>bL e fun e=>k (some (.vec nb v e n cs))
 | some (.jR nb v e n)=>vY nb fun nb=>bL v fun v=>bL e fun e=>k (some (.jR nb v e n))
 | some (.dM es clock)=>k (some (.dM es clock))
 | some (.loop L)=>match L with
  | ⟨st,pd,tmps,fn,path,ds⟩=>uh tmps fun tmps=>bL ds fun ds=>k (some (.loop ⟨st,pd,tmps,fn,path,ds⟩))
 | some .deferred=>k (some .deferred)
theorem Hz {x:Option eJ} {k:Option eJ->X}:Bw x k=k x:=by
 unfold Bw
 split<;>simp only [sK,dQ,Dm,sL]
def yw:Rows->(Rows->X)->X
 | [],k=>k []
 | x::xs,k=>Bw x fun x=>yw xs fun xs=>k (x::xs)
theorem Bx:∀ {l:Rows} {k:Rows->X},yw l k=k l
 | [],_=>rfl
 | x::xs,k=>by simp only [yw,Hz,Bx]
def o9 (s:bX) (k:bX->X):X:=yw s.rows fun rows=>uh s.tmps fun tmps=>qq s.defers fun ds=>k ⟨tmps,rows,ds⟩
theorem mQ {s:bX} {k:bX->X}:o9 s k=k s:=by simp only [o9,Bx,sL,nF]
def yx (x:T1) (k:T1->X):X:=
 match x with
 | .dead=>k .dead
 | .bool=>k .bool
 | .int t=>k (.int t)
 | .aL t=>k (.aL t)
 | .string=>k .string
 | .list=>k .list
 | .nl=>k .nl
 | .fm=>k .fm
 | .own r e=>bL r fun r=>bL e fun e=>k (.own r e)
 | .ptr r o=>bL r fun r=>bL o fun o=>k (.ptr r o)
 | .yield r=>bL r fun r=>k (.yield r)
 | .mp r=>bL r fun r=>k (.mp r)
 | .sub r e=>bL r fun r=>bL e fun e=>k (.sub r e)
 | .fX r o n e=>bL r fun r=>k (.fX r o n e)
 | .av=>k .av
 | .bI=>k .bI
 | .nilFunc=>k .nilFunc
theorem By {x:T1} {k:T1->X}:yx x k=k x:=by cases x<;>simp only [yx,dQ]
def pt:List T1->(List T1->X)->X
 | [],k=>k []
 | x::xs,k=>yx x fun x=>pt xs fun xs=>k (x::xs)
theorem xo:∀ {l:List T1} {k:List T1->X},pt l k=k l
 | [],_=>rfl
 | x::xs,k=>by simp only [pt,By,xo]
def yy (x:T2) (k:T2->X):X:=
 match x with
 | .b x=>yx x fun x=>k (.b x)
 | .fn f a b=>bL f fun f=>pt a fun a=>pt b fun b=>k (.fn f a b)
theorem Bz {x:T2} {k:T2->X}:yy x k=k x:=by cases x<;>simp only [yy,By,dQ,xo]
def pw:List T2->(List T2->X)->X
 | [],k=>k []
 | x::xs,k=>yy x fun x=>pw xs fun xs=>k (x::xs)
theorem pz:∀ {l:List T2} {k:List T2->X},pw l k=k l
 | [],_=>rfl
 | x::xs,k=>by simp only [pw,Bz,pz]
def Fe (x:T3) (k:T3->X):X:=
 match x with
 | .o x=>yy x fun x=>k (.o x)
 | .agg cs=>pw cs fun cs=>k (.agg cs)
theorem Kl {x:T3} {k:T3->X}:Fe x k=k x:=by cases x<;>simp only [Fe,Bz,pz]
def pA:List T3->(List T3->X)->X
 | [],k=>k []
 | x::xs,k=>Fe x fun x=>pA xs fun xs=>k (x::xs)
theorem pB:∀ {l:List T3} {k:List T3->X},pA l k=k l
 | [],_=>rfl
 | x::xs,k=>by simp only [pA,Kl,pB]
def Ff (x:TR) (k:TR->X):X:=
 match x with
 | .dead=>k .dead
 | .lit cs=>pw cs fun cs=>k (.lit cs)
 | .vec nb e v b=>vY nb fun nb=>bL e fun e=>bL v fun v=>vY b fun b=>k (.vec nb e v b)
 | .jR nb e v=>vY nb fun nb=>bL e fun e=>bL v fun v=>k (.jR nb e v)
 | .dM=>k .dM
 | .loop L ts=>pA ts fun ts=>k (.loop L ts)
 | .deferred=>k .deferred
theorem Km {x:TR} {k:TR->X}:Ff x k=k x:=by cases x<;>simp only [Ff,pz,pB,dQ,Dm]
def ui:List TR->(List TR->X)->X
 | [],k=>k []
 | x::xs,k=>Ff x fun x=>ui xs fun xs=>k (x::xs)
theorem xp:∀ {l:List TR} {k:List TR->X},ui l k=k l
 | [],_=>rfl
 | x::xs,k=>by simp only [ui,Km,xp]
def ym (h:Shape) (k:Shape->X):X:=ui h.rows fun rows=>pA h.tmps fun tmps=>qq h.defers fun ds=>k ⟨tmps,rows,ds⟩
theorem Bg {h:Shape} {k:Shape->X}:ym h k=k h:=by simp only [ym,xp,pB,nF]
def mO:List Shape->(List Shape->X)->X
 | [],k=>k []
 | x::xs,k=>ym x fun x=>mO xs fun xs=>k (x::xs)
theorem lN:∀ {l:List Shape} {k:List Shape->X},mO l k=k l
 | [],_=>rfl
 | x::xs,k=>by simp only [mO,Bg,lN]
end
end Go.Abs
end
noncomputable section
namespace Go.Abs
inductive Mv where
 | cell (r c aA:Nat)
 | tmp (t aA:Nat)
structure Ci where
 o_:List Mv
 Db:List bX
structure LS where
 live:Nat
 mask:Nat
 oG:bX->Ci
structure J0 where
 mask:Nat
 oG:Option (bX->Ci)
 /-- A loop that is run round by round, by the variable that counts its rounds. -/
 D3:Option (Tmp × Nat)
 /-- Choices between two truths are joined. -/
 pick:Bool
 /-- Branches that meet again, by the variable that they ask. -/
 join:Tmp->Option LS
 /-- Regions behind which all ways meet, by number. -/
 ac8:Nat->Option LS
 /-- Behind a round, rows of this function that nothing reaches are forgotten, also such as were there when the loop began. -/
 deep:Bool
def Ny:List Mv->bX->bX
 | [],s=>s
 | .cell r c aA::ms,s=>Ny ms (BL r c aA s)
 | .tmp t aA::ms,s=>Ny ms (BM t aA s)
def jg {X:Type}:List Mv->(List Mv->X)->X
 | [],k=>k []
 | .cell r c e::xs,k=>bL r fun r=>bL c fun c=>jg xs fun xs=>k (.cell r c e::xs)
 | .tmp t e::xs,k=>jg xs fun xs=>k (.tmp t e::xs)
theorem jh {X:Type}:∀ {l:List Mv} {k:List Mv->X},jg l k=k l
 | [],_=>rfl
 | .cell r c e::xs,k=>by simp only [jg,dQ,jh]
 | .tmp t e::xs,k=>by simp only [jg,jh]
def adx (rows:Rows):S1->List Nat
 | .own r v _=>match nW rows r v with
  | true=>[r]
  | false=>[]
 | .ptr r _=>[r]
 | .gk r v _=>match nW rows r v with
  | true=>[r]
  | false=>[]
 | .yield r=>[r]
 | .mp r=>[r]
 | .sub r v _ _ _=>match nW rows r v with
  | true=>[r]
  | false=>[]
 | .fX r _ _ _=>[r]
 | _=>[]
def Sv (rows:Rows):List S1->List Nat
 | []=>[]
 | x::xs=>adx rows x++Sv rows xs
def ady (rows:Rows):S2->List Nat
 | .b x=>adx rows x
 | .fn _ a b=>Sv rows a++Sv rows b
def Sw (rows:Rows):List S2->List Nat
 | []=>[]
 | x::xs=>ady rows x++Sw rows xs
def afX (rows:Rows):S3->List Nat
 | .o x=>ady rows x
 | .agg cs=>Sw rows cs
def adz (rows:Rows):SV->List Nat
 | .s x=>afX rows x
 | .tuple _=>[]
def Wz (rows:Rows):List SV->List Nat
 | []=>[]
 | x::xs=>adz rows x++Wz rows xs
def H3 (rows:Rows):List SV->Nat->Nat->List Nat
 | [],_,_=>[]
 | x::xs,live,j=>(match live.testBit j with
  | true=>adz rows x
  | false=>[])++H3 rows xs live (j+1)
def Mk (rows:Rows) (r:Nat):List Nat:=
 match rows[r]? with
 | some (some (.lit cs))=>Sw rows cs
 | some (some (.loop L))=>L.defers::Wz rows L.tmps
 | _=>[]
def KV (rows:Rows) (n0:Nat):Nat->List Nat->List Nat->List Nat
 | 0,_,acc=>acc
 | _+1,[],acc=>acc
 | k+1,r::todo,acc=>match Nat.blt r n0||l9 r acc with
  | true=>KV rows n0 k todo acc
  | false=>KV rows n0 k (todo++Mk rows r) (acc++[r])
def DE (rows:Rows):Nat->List Nat
 | 0=>[]
 | n+1=>DE rows n++Mk rows n
def Vr (n0 live:Nat) (s:bX):List Nat:=KV s.rows n0 1000 (H3 s.rows s.tmps live 0++DE s.rows n0) []
def Sx (v:Ci) (live n0:Nat) (s:bX):Option bX:=o9 (Ny v.o_ s) fun s1=>qq (Vr n0 live s1) fun o=>Fl n0 o s1
def yD:List TR->Rows->Bool
 | _,[]=>true
 | [],_::_=>false
 | t::ts,x::xs=>(match x with
  | some (.vec nb v aA _ _)=>(match t with
   | .vec m5 dI v' b=>(m5==nb)&&Nat.beq dI aA&&(match b with | true=>Nat.beq v' (v+1) | false=>Nat.beq v' v)
   | _=>false)
  | some (.jR nb v aA _)=>(match t with
   | .jR m5 dI v'=>(m5==nb)&&Nat.beq dI aA&&Nat.beq v' v
   | _=>false)
  | _=>true)&&yD ts xs
theorem uA:∀ {ts:List TR} {xs:Rows},yD ts xs=true->Td ⟨[],ts,[]⟩ xs
 | ts,[],_=>⟨Nat.zero_le _,fun r nb v aA m h=>by simp [sg] at h⟩
 | [],x::xs,h=>by cases h
 | t::ts,x::xs,h=>by
  simp only [yD,Bool.and_eq_true] at h
  obtain ⟨h1,h2⟩:=h
  have ih:=uA h2
  refine ⟨by simpa using ih.len,fun r nb v aA m hs=>?_⟩
  cases r with
  | zero=>
   unfold sg at hs
   simp only [List.getElem?_cons_zero] at hs
   split at hs
   ·rename_i heq
    simp only [Option.some.injEq,Prod.mk.injEq] at hs
    obtain ⟨rfl,rfl,rfl,rfl⟩:=hs
    cases heq
    simp only at h1
    split at h1
    ·rename_i m5 dI v' b
     simp only [Bool.and_eq_true,beq_iff_eq] at h1
     obtain ⟨⟨e1,e2⟩,e3⟩:=h1
     have e2:=Nat.eq_of_beq_eq_true e2
     subst e1;subst e2
     refine .inl ⟨b,?_⟩
     cases b with
     | true=>simp only at e3;have e3:=Nat.eq_of_beq_eq_true e3;subst e3;rfl
     | false=>simp only at e3;have e3:=Nat.eq_of_beq_eq_true e3;subst e3;rfl
    ·cases h1
   ·rename_i heq
    simp only [Option.some.injEq,Prod.mk.injEq] at hs
    obtain ⟨rfl,rfl,rfl,rfl⟩:=hs
    cases heq
    simp only at h1
    split at h1
    ·simp only [Bool.and_eq_true,beq_iff_eq] at h1
     obtain ⟨⟨e1,e2⟩,e3⟩:=h1
     have e2:=Nat.eq_of_beq_eq_true e2
     have e3:=Nat.eq_of_beq_eq_true e3
     subst e1;subst e2;subst e3
     exact .inr rfl
    ·cases h1
   ·cases hs
  | succ r=>exact ih.at_ r nb v aA m (by unfold sg at hs ⊢;simpa using hs)
theorem Td.Vs {h:Shape} {xs:Rows} (k:Td ⟨[],h.rows,[]⟩ xs):Td h xs:=⟨k.len,k.at_⟩
def J5:List Shape->Type->Type
 | [],_=>PUnit
 | h::hs,X=>h.Cur X × J5 hs X
def vP {X:Type}:(hs:List Shape)->(bX->X)->J5 hs X
 | [],_=>⟨⟩
 | h::hs,f=>(h.lam f,vP hs f)
def Vt {X:Type} (s:bX):(hs:List Shape)->J5 hs X->Option X
 | [],_=>none
 | h::hs,a=>match h.app s a.1 with
  | some r=>some r
  | none=>Vt s hs a.2
theorem Ml {C:cp} {s:bX} {X:Type} {f:bX->X} {g:X} {bc:Rows}:∀ {hs:List Shape},(∀ h∈hs,Td h bc)->Vt s hs (vP hs f)=some g->
  ∃ s',g=f s'/\∀ ι0 ι σ,fg C ι s σ->Le ι0 bc ι s.rows->fg C ι s' σ/\Le ι0 bc ι s'.rows
 | [],_,h=>by cases h
 | h::hs,bw,ha=>by
  simp only [Vt,vP] at ha
  split at ha
  ·rename_i r hr
   simp only [Option.some.injEq] at ha;subst ha
   exact Shape.J4 (bw h List.mem_cons_self) hr
  ·exact Ml (fun h hm=>bw h (List.mem_cons_of_mem _ hm)) ha
theorem Fv {C:cp} {ι0 ι:Nat->Nat} {bc:Rows}:∀ {ms:List Mv} {s:bX} {σ:St},fg C ι s σ->Le ι0 bc ι s.rows->fg C ι (Ny ms s) σ/\Le ι0 bc ι (Ny ms s).rows
 | [],s,σ,hE,le=>⟨hE,le⟩
 | .cell r c aA::ms,s,σ,hE,le=>by
  have h:=Oq (r:=r) (c:=c) (aA:=aA) hE le
  exact Fv (ms:=ms) (s:=BL r c aA s) h.1 h.2
 | .tmp t aA::ms,s,σ,hE,le=>by
  have h:=Oo (t:=t) (aA:=aA) hE le
  exact Fv (ms:=ms) (s:=BM t aA s) h.1 h.2
theorem Sy {C:cp} {v:Ci} {live:Nat} {s s':bX} {bc:Rows} (h:Sx v live bc.length s=some s'):
  ∃ aP,∀ (ι0 ι:Nat->Nat) (σ:St),fg C ι s σ->Le ι0 bc ι s.rows->fg C (iw aP ι) s' σ/\Le ι0 bc (iw aP ι) s'.rows:=by
 simp only [Sx,mQ,nF] at h
 obtain ⟨aP,h1⟩:=Kz (C:=C) h
 refine ⟨aP,fun ι0 ι σ hE le=>?_⟩
 obtain ⟨a,b⟩:=Fv (ms:=v.o_) hE le
 exact h1 ι0 ι σ a b
def kY (v:Ci) (live dL:Nat):List bX->List Shape
 | []=>[]
 | s::ss=>shape live dL s::kY v live dL ss
def vO (bc:Rows):List Shape->Bool
 | []=>true
 | h::hs=>yD h.rows bc&&vO bc hs
theorem lO {bc:Rows}:∀ {hs:List Shape},vO bc hs=true->∀ h∈hs,Td h bc
 | [],_,h,hm=>by cases hm
 | x::hs,hb,h,hm=>by
  simp only [vO,Bool.and_eq_true] at hb
  rcases List.mem_cons.1 hm with rfl | hm
  ·exact (uA hb.1).Vs
  ·exact lO hb.2 h hm
def mP {R:Type} (v:Ci) (live n0:Nat) (hs:List Shape) (s:bX) (a:J5 hs (Option R)):Option (Option R):=
 match Sx v live n0 s with
 | some s1=>o9 s1 fun s1=>Vt s1 hs a
 | none=>none
theorem tX {C:cp} {v:Ci} {live:Nat} {hs:List Shape} {R:Type} {s:bX} {f:bX->Option R} {g:Option R} {bc:Rows} (bw:∀ h∈hs,Td h bc) (h:mP v live bc.length hs s (vP hs f)=some g):
  ∃ s' aP,g=f s'/\∀ ι0 ι σ,fg C ι s σ->Le ι0 bc ι s.rows->fg C (iw aP ι) s' σ/\Le ι0 bc (iw aP ι) s'.rows:=by
 unfold mP at h
 split at h
 ·rename_i s1 B0
  rw [mQ] at h
  obtain ⟨aP,h1⟩:=Sy (C:=C) B0
  obtain ⟨s',e,h2⟩:=Ml (C:=C) bw h
  refine ⟨s',aP,e,fun ι0 ι σ hE le=>?_⟩
  obtain ⟨a,b⟩:=h1 ι0 ι σ hE le
  exact h2 ι0 _ σ a b
 ·cases h
end Go.Abs
end
noncomputable section
namespace Go.Abs
open Classical
structure cB (A B:af):Prop where
 n:A.n<=B.n
 get:∀ r,r<A.n->B.get r=A.get r
theorem cB.refl (A:af):cB A A:=⟨Nat.le_refl _,fun _ _=>rfl⟩
theorem cB.trans {A B D:af} (h:cB A B) (k:cB B D):cB A D:=⟨Nat.le_trans h.n k.n,fun r hr=>(k.get r (Nat.lt_of_lt_of_le hr h.n)).trans (h.get r hr)⟩
theorem cB.push (A:af) (row:eR):cB A (A.push row):=⟨by simp,fun r hr=>af.dV hr⟩
theorem aE.ext {C:cp} {ι:Nat->Nat} {rows:Rows} {H H':af} (hE:aE C ι rows H) (hx:cB H H') (bw:H'.rev.length=H'.n) (dm:H'.fH=0):aE C ι rows H':=by
 have aP:∀ r row,rows[r]?=some (some row)->row.real->∀ ar,H.get (ι r)=some ar->H'.get (ι r)=some ar:=fun r row hr hre ar har=>by
  rw [hx.get _ (af.cT har)];exact har
 exact ⟨fun r row hr=>(hE.row r row hr).mono (Le.refl _ _) (fun hre=>⟨rfl,aP r row hr hre⟩) fun s hs h0=>⟨rfl,h0⟩,hE.inj,bw,dm⟩
end Go.Abs
end
