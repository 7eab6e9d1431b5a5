/- Part 4 of the library of the proof: an abstract run of the program. -/
import Derived.Test.YtkloadomnblkeaaGreatDoorHt2
import Derived.Test.YtkloadomnblkeaaGreatDoorHt3
set_option linter.unusedVariables false
set_option linter.unusedSimpArgs false

noncomputable section
namespace Go.Abs
structure sS where
 call:(R:Type)->FuncId->List SV->Rows->(SV->Rows->Option R)->Option R
 yield:(R:Type)->Nat->List SV->Rows->(SV->Rows->Option R)->Option R
 /-- Functions that only add rows. -/
 ro:FuncId->Bool
structure ir (P:Program) (C:cp) (cE:sS) (fs:fb):Prop where
 call:∀ (R:Type) (g:FuncId) (args:List SV) (rows:Rows) (K:SV->Rows->Option R) (r:R) (ι:Nat->Nat) (H:af) (ai:List AV),cE.call R g args rows K=some r->aE C ι rows H->aQ (RV ι rows) args ai->
  bK C ι rows (fs.call g ai H) K r
 yield:∀ (R:Type) (q:Nat) (args:List SV) (rows:Rows) (K:SV->Rows->Option R) (r:R) (ι:Nat->Nat) (H:af) (ai:List AV),cE.yield R q args rows K=some r->aE C ι rows H->aQ (RV ι rows) args ai->
  q<rows.length->sg rows q=none->bK C ι rows (fs.yield (ι q) ai H) K r
 ext:∀ g args,fs.ext g args=none
 fz:fs.fz=DR P
 fk:∀ g args H y H',cE.ro g=true->fs.call g args H=some (y,H')->cB H H'
def dX (tmps:List SV) (dst:Option Tmp) (y:SV):List SV:=
 match dst with
 | some d=>tmps.set d y
 | none=>tmps
def iu:Operand->Option Tmp
 | .tmp t=>some t
 | _=>none
def vN {X:Type}:List SV->(List SV->X)->X
 | [],K=>K []
 | x::xs,K=>vN xs fun ys=>K (x::ys)
theorem qk {X:Type}:∀ (l:List SV) (K:List SV->X),vN l K=K l
 | [],K=>rfl
 | x::xs,K=>by simp only [vN,qk xs]
def Rk {X:Type} (v:SV) (K:SV->X):X:=
 match v with
 | .s x=>K (.s x)
 | .tuple xs=>K (.tuple xs)
theorem NS {X:Type} (v:SV) (K:SV->X):Rk v K=K v:=by cases v<;>rfl
def UU {α X:Type}:List α->Nat->α->(List α->X)->X
 | [],_,_,K=>K []
 | x::xs,n,y,K=>match n with
  | 0=>K (y::xs)
  | m+1=>UU xs m y fun l=>K (x::l)
theorem LM {α X:Type}:∀ (l:List α) (n:Nat) (y:α) (K:List α->X),UU l n y K=K (l.set n y)
 | [],n,y,K=>rfl
 | x::xs,0,y,K=>rfl
 | x::xs,m+1,y,K=>by simp only [UU,LM xs,List.set_cons_succ]
section
variable {R : Type}
def Hf (s:bX) (dst:Option Tmp) (y:SV) (rows:Rows) (K:bX->Option R):Option R:=
 Rk y fun y=>match dst with
  | some d=>UU s.tmps d y fun l=>K { s with tmps:=l,rows:=rows }
  | none=>K { s with rows:=rows }
theorem LN (s:bX) (dst:Option Tmp) (y:SV) (rows:Rows) (K:bX->Option R):Hf s dst y rows K=K { s with tmps:=dX s.tmps dst y,rows:=rows }:=by
 cases dst<;>simp only [Hf,NS,LM,dX]
def doS (P:Program) (cE:sS) (o:Oper) (s:bX) (K:bX->Option R):Option R:=
 match o.op with
 | .pick c a b=>match (qT s.tmps c).b1 with
  | .bool t=>cO t (Hf { s with tmps:=dX s.tmps (iu c) (.aT (.bool true)) } o.dst (qT s.tmps a) s.rows K) (Hf { s with tmps:=dX s.tmps (iu c) (.aT (.bool false)) } o.dst (qT s.tmps b) s.rows K)
  | _=>none
 | .call { callee:=.value f,args,argTypes }=>match qT s.tmps f with
  | .s (.o (.fn g first cap))=>cE.call R g (first.map .aT++args.toList.map (qT s.tmps)++cap.map .aT) s.rows fun y ah=>Hf s o.dst y ah K
  | .s (.o (.b (.yield q)))=>match Nat.blt q s.rows.length&&(sg s.rows q).isNone with
   | true=>cE.yield R q (args.toList.map (qT s.tmps)) s.rows fun y ah=>Hf s o.dst y ah K
   | false=>none
  | _=>none
 | _=>opS P (qT s.tmps) s.rows o fun y ah=>Hf s o.dst y ah K
def Bd (o:Oper) (s:bX) (K:bX->Option R):Option R:=Hf s o.dst (.tuple []) s.rows K
def Rl (P:Program) (cE:sS) (want:Bool) (o:Oper) (b:Bool) (s:bX) (K:bX->Option R):Option R:=
 match want with
 | true=>(match b with | true=>doS P cE o s K | false=>Bd o s K)
 | false=>(match b with | true=>Bd o s K | false=>doS P cE o s K)
def lM (P:Program) (cE:sS) (ops:Array Oper) (o:Oper) (s:bX) (K:bX->Option R):Option R:=
 match o.guard with
 | none=>doS P cE o s K
 | some (j,want)=>match ops[j]? with
  | some oj=>match oj.dst with
   | some d=>match qT s.tmps (.tmp d) with
    | .s (.o (.b (.bool b)))=>cO b (Rl P cE want o true { s with tmps:=s.tmps.set d (.aT (.bool true)) } K) (Rl P cE want o false { s with tmps:=s.tmps.set d (.aT (.bool false)) } K)
    | .tuple _=>Bd o s K
    | _=>none
   | none=>Bd o s K
  | none=>Bd o s K
def J1 (P:Program) (cE:sS) (ops:Array Oper):List Oper->bX->(bX->Option R)->Option R
 | [],s,K=>K s
 | o::os,s,K=>lM P cE ops o s fun s'=>J1 P cE ops os s' K
end
section
variable {C : cp} {ι : Nat → Nat} {rows : Rows} {H : af} {P : Program} {R : Type} {r : R} {fs : fb} {cE : sS} {s : bX} {σ : St} {ops : Array Oper} {o : Oper}
theorem nu {b:Bool} {x y:Option R} (h:cO b x y=some r):(b=true/\x=some r)\/(b=false/\y=some r):=by
 cases b with
 | true=>exact .inl ⟨rfl,h⟩
 | false=>exact .inr ⟨rfl,h⟩
theorem mN {tmps:List SV} {bl:List AV} (h:aQ (RV ι rows) tmps bl) (dst:Option Tmp) {y:SV} {v:AV} (hy:RV ι rows y v):aQ (RV ι rows) (dX tmps dst y) (dt bl dst v):=by
 cases dst with
 | none=>exact h
 | some d=>exact h.set hy d
theorem ed {tmps:List SV} {bl:List AV} (h:aQ (RV ι rows) tmps bl) {x:Operand} {y:SV} (hy:RV ι rows y (ev (fun _=>none) bl x)):aQ (RV ι rows) (dX tmps (iu x) y) bl:=by
 cases x with
 | tmp t=>
  simp only [iu,dX]
  simp only [ev] at hy
  cases ht:bl[t]? with
  | none=>
   have hlen:=h.length
   have:tmps.length<=t:=by rw [hlen];exact List.getElem?_eq_none_iff.1 ht
   rw [List.set_eq_of_length_le this];exact h
  | some v=>
   rw [ht] at hy
   have h2:=h.set (x:=y) (y:=v) hy t
   have:bl.set t v=bl:=by
    obtain ⟨hl,he⟩:=List.getElem?_eq_some_iff.1 ht
    rw [←he];exact List.set_getElem_self hl
   rw [this] at h2
   exact h2
 | _=>exact h
theorem fg.step (hE:fg C ι s σ) {ι':Nat->Nat} {ah:Rows} {H':af} {y:AV} {ys:SV} (h1:aE C ι' ah H') (h2:RV ι' ah ys y) (le:Le ι s.rows ι' ah) (dst:Option Tmp):
  fg C ι' { s with tmps:=dX s.tmps dst ys,rows:=ah } { σ with tmps:=dt σ.tmps dst y,H:=H' }:=by
 refine ⟨mN (hE.tmps.mono fun _ _=>le.rv) dst h2,h1,?_,fun r hr=>?_⟩
 ·show σ.defers=s.defers.map ι'
  rw [hE.defers]
  refine List.map_congr_left fun r hr=>?_
  obtain ⟨a,b⟩:=hE.mZ r hr
  exact (le.st r a b).2.symm
 ·obtain ⟨a,b⟩:=hE.mZ r hr
  exact ⟨Nat.lt_of_lt_of_le a le.len,(le.st r a b).1⟩
def gZ (P:Program) (fs:fb) (ops:Array Oper) (o:Oper) (σ:St):Option St:=
 match aZ P fs ops (ev (fun _=>none) σ.tmps) σ.H o with
 | some (y,H')=>some { σ with tmps:=dt σ.tmps o.dst y,H:=H' }
 | none=>none
theorem tU {xs:List S1} {vs:List AV} (h:aQ (R1 ι rows) xs vs):aQ (RV ι rows) (xs.map .aT) vs:=by
 induction h with
 | nil=>exact .nil
 | cons h _ ih=>exact .cons h ih
theorem Rm (cI:ir P C cE fs) {K:bX->Option R} (hE:fg C ι s σ) (h:doS P cE o s K=some r) (hw:dU ops (ev (fun _=>none) σ.tmps) o=some true):
  ∃ σ' s' ι',gZ P fs ops o σ=some σ'/\fg C ι' s' σ'/\Le ι s.rows ι' s'.rows/\K s'=some r:=by
 unfold gZ aZ
 rw [hw]
 have fin:∀ {a:Option (AV × af)},bK C ι s.rows a (fun y ah=>K { s with tmps:=dX s.tmps o.dst y,rows:=ah }) r->
   ∃ σ' s' ι',(match a with | some (y,H')=>some { σ with tmps:=dt σ.tmps o.dst y,H:=H' } | none=>none)=some σ'/\fg C ι' s' σ'/\Le ι s.rows ι' s'.rows/\K s'=some r:=by
  rintro a ⟨y,H',ys,ah,ι',rfl,k2,k3,k4,k5⟩
  exact ⟨_,_,_,rfl,hE.step k2 k3 k4 o.dst,k4,k5⟩
 unfold doS at h
 simp only [LN] at h
 split at h
 ·rename_i c a b ho
  split at h
  ·rename_i t hc
   have FH:=bo (dw hE.tmps c)
   rw [hc] at FH
   have FH:ev (fun _=>none) σ.tmps c=.bool t:=FH
   simp only [bj,ho,fi,FH]
   rcases nu h with ⟨rfl,h'⟩ | ⟨rfl,h'⟩
   ·have h1:=ed (y:=.aT (.bool true)) hE.tmps (x:=c) (show _=_ from FH)
    exact ⟨_,{ s with tmps:=dX (dX s.tmps (iu c) (.aT (.bool true))) o.dst (qT s.tmps a) },ι,rfl,⟨mN h1 o.dst (dw hE.tmps a),hE.rows,hE.defers,hE.mZ⟩,Le.refl _ _,h'⟩
   ·have h1:=ed (y:=.aT (.bool false)) hE.tmps (x:=c) (show _=_ from FH)
    exact ⟨_,{ s with tmps:=dX (dX s.tmps (iu c) (.aT (.bool false))) o.dst (qT s.tmps b) },ι,rfl,⟨mN h1 o.dst (dw hE.tmps b),hE.rows,hE.defers,hE.mZ⟩,Le.refl _ _,h'⟩
  ·cases h
 ·rename_i f args O4 ho
  have hf:=dw hE.tmps f
  have cW:aQ (RV ι s.rows) (args.toList.map (qT s.tmps)) (args.toList.map (ev (fun _=>none) σ.tmps)):=o6 _ (dw hE.tmps)
  split at h
  ·rename_i g first cap hg
   rw [hg] at hf
   obtain ⟨cX,nU,e,h1,h2⟩:=hf
   have:=cI.call R g _ s.rows _ r ι σ.H _ h hE.rows ((tU h1).append cW |>.append (tU h2))
   refine fin ?_
   simp only [bj,ho,e,jC,cI.ext]
   exact this
  ·rename_i q hq
   rw [hq] at hf
   split at h
   ·rename_i hb
    simp only [Bool.and_eq_true,Option.isNone_iff_eq_none] at hb
    obtain ⟨ye,BY⟩:=hb
    rw [Nat.blt_eq] at ye
    have hf:R1 ι s.rows (.yield q) _:=hf
    have:=cI.yield R q _ s.rows _ r ι σ.H _ h hE.rows cW ye BY
    refine fin ?_
    simp only [bj,ho,hf.2 BY]
    exact this
   ·cases h
  ·cases h
 ·exact fin (aaz cI.fz hE.rows (dw hE.tmps) h)
theorem tV {K:bX->Option R} (hE:fg C ι s σ) (h:Bd o s K=some r) (hw:dU ops (ev (fun _=>none) σ.tmps) o=some false):
  ∃ σ' s' ι',gZ P fs ops o σ=some σ'/\fg C ι' s' σ'/\Le ι s.rows ι' s'.rows/\K s'=some r:=by
 unfold gZ aZ
 rw [hw]
 rw [Bd,LN] at h
 have hu:RV ι s.rows (.tuple []) (cM undef):=⟨[],rfl,.nil⟩
 exact ⟨_,{ s with tmps:=dX s.tmps o.dst (.tuple []) },ι,rfl,⟨mN hE.tmps o.dst hu,hE.rows,hE.defers,hE.mZ⟩,Le.refl _ _,h⟩
theorem Hg (cI:ir P C cE fs) {K:bX->Option R} (hE:fg C ι s σ) {want b:Bool} (h:Rl P cE want o b s K=some r) (hw:dU ops (ev (fun _=>none) σ.tmps) o=some (b==want)):
  ∃ σ' s' ι',gZ P fs ops o σ=some σ'/\fg C ι' s' σ'/\Le ι s.rows ι' s'.rows/\K s'=some r:=by
 cases want<;>cases b<;>first
  | exact Rm cI hE h hw
  | exact tV hE h hw
theorem o7 (cI:ir P C cE fs) {K:bX->Option R} (hE:fg C ι s σ) (h:lM P cE ops o s K=some r):
  ∃ σ' s' ι',gZ P fs ops o σ=some σ'/\fg C ι' s' σ'/\Le ι s.rows ι' s'.rows/\K s'=some r:=by
 unfold lM at h
 split at h
 ·rename_i hg
  exact Rm cI hE h (by simp [dU,hg])
 ·rename_i j want hg
  split at h
  ·rename_i oj hj
   split at h
   ·rename_i d hd
    have hv:=dw hE.tmps (.tmp d)
    split at h
    ·rename_i b hb
     rw [hb] at hv
     have hv:ev (fun _=>none) σ.tmps (.tmp d)=.bool b:=hv
     have hw:dU ops (ev (fun _=>none) σ.tmps) o=some (b==want):=by simp only [dU,hg,hj,hd,hv]
     rcases nu h with ⟨rfl,h'⟩ | ⟨rfl,h'⟩
     ·exact Hg cI (s:={ s with tmps:=s.tmps.set d (.aT (.bool true)) }) ⟨ed (x:=.tmp d) hE.tmps (show _=_ from hv),hE.rows,hE.defers,hE.mZ⟩ h' hw
     ·exact Hg cI (s:={ s with tmps:=s.tmps.set d (.aT (.bool false)) }) ⟨ed (x:=.tmp d) hE.tmps (show _=_ from hv),hE.rows,hE.defers,hE.mZ⟩ h' hw
    ·rename_i xs hb
     rw [hb] at hv
     obtain ⟨ys,e,_⟩:=hv
     exact tV hE h (by simp only [dU,hg,hj,hd,e])
    ·cases h
   ·rename_i hd
    exact tV hE h (by simp only [dU,hg,hj,hd])
  ·rename_i hj
   exact tV hE h (by simp only [dU,hg,hj])
theorem ql (cI:ir P C cE fs):∀ (os:List Oper) (ι:Nat->Nat) (s:bX) (σ:St) (K:bX->Option R) (r:R),fg C ι s σ->J1 P cE ops os s K=some r->
  ∃ σ' s' ι',fc P (fun _=>none) fs ops os σ=some σ'/\fg C ι' s' σ'/\Le ι s.rows ι' s'.rows/\K s'=some r
 | [],ι,s,σ,K,r,hE,h=>⟨σ,s,ι,rfl,hE,Le.refl _ _,h⟩
 | o::os,ι,s,σ,K,r,hE,h=>by
  obtain ⟨σ1,s1,ι1,h1,h2,hle,h3⟩:=o7 cI hE h
  obtain ⟨σ',s',ι',h4,h5,q9,h6⟩:=ql cI os ι1 s1 σ1 K r h2 h3
  refine ⟨σ',s',ι',?_,h5,hle.trans q9,h6⟩
  simp only [fc]
  unfold gZ at h1
  split at h1
  ·rename_i y H' cA
   simp only [Option.some.injEq] at h1;subst h1
   simp only [cA];exact h4
  ·cases h1
end
end Go.Abs
end
noncomputable section
namespace Go.Abs
open Classical
def HH (P:Program) (ro:FuncId->Bool) (o:Oper):Bool:=
 match quietAt P o with
 | true=>true
 | false=>match o.op with
  | .alloc _ | .box _ _ | .makeSlice _ _ _=>true
  | .buildSlice t _ _=>!DR P t
  | .call { callee:=.value (.func g),.. }=>ro g
  | _=>false
def aaL (d:Tmp) (o:Oper):Option Tmp:=
 match o.op with
 | .pick (.tmp t) _ _=>match Nat.beq t d with
  | true=>o.dst
  | false=>none
 | _=>none
def RS (d:Tmp):List Oper->Option (Nat × Tmp)
 | []=>none
 | o::os=>match aaL d o with
  | some r=>some (1,r)
  | none=>match RS d os with
   | some (n,r)=>some (n+1,r)
   | none=>none
def Kw (P:Program) (ro:FuncId->Bool) (ops:Array Oper) (o:Oper) (os:List Oper):Option (Nat × Tmp):=
 match o.guard with
 | some (j,_)=>match ops[j]? with
  | some oj=>match oj.dst with
   | some d=>match RS d os with
    | some (n,r)=>match ((o::os).take (n+1)).all (HH P ro) with
     | true=>some (n+1,r)
     | false=>none
    | none=>none
   | none=>none
  | none=>none
 | none=>none
def Mb:List Oper->List SV->List SV
 | [],xs=>xs
 | o::os,xs=>Mb os (dX xs o.dst (.s (.o (.b .top))))
def Wr:SV->Option Bool
 | .s (.o (.b (.bool b)))=>some b
 | _=>none
def Ro {R:Type} (P:Program) (cE:sS) (ops:Array Oper):Nat->List Oper->bX->(bX->Option R)->Option R
 | 0,os,s,K=>J1 P cE ops os s K
 | n+1,os,s,K=>match os with
  | []=>K s
  | o::os=>match Kw P cE.ro ops o os with
   | some (m,d)=>bO (J1 P cE ops ((o::os).take m) s fun s'=>Wr (qT s'.tmps (.tmp d))) fun b=>
     vN (dX (Mb ((o::os).take m) s.tmps) (some d) (.aT (.bool b))) fun l=>Ro P cE ops n ((o::os).drop m) { s with tmps:=l } K
   | none=>lM P cE ops o s fun s'=>Ro P cE ops n os s' K
section
variable {C : cp} {ι : Nat → Nat} {rows : Rows} {P : Program} {fs : fb} {cE : sS} {ops : Array Oper} {ro : FuncId → Bool} {ρ : Operand → AV} {H H' : af} {o : Oper} {y : AV}
theorem Kx (bZ:∀ g args H y H',ro g=true->fs.call g args H=some (y,H')->cB H H') (eT:∀ g args,fs.ext g args=none) (FD:fs.fz=DR P) (hρ:∀ g,ρ (.func g)=.func g [] [])
  (ho:HH P ro o=true) (h:bj P fs ρ H o=some (y,H')):cB H H':=by
 unfold HH at ho
 split at ho
 ·rename_i hq
  rw [od hq h];exact cB.refl _
 ·unfold bj at h
  split at ho
  ·rename_i t xD
   simp only [xD,fi] at h
   split at h
   ·simp only [Option.some.injEq,Prod.mk.injEq] at h;obtain ⟨_,rfl⟩:=h;exact cB.push _ _
   ·cases h
  ·rename_i t x xD
   simp only [xD,fi] at h
   split at h
   ·simp only [Option.some.injEq,Prod.mk.injEq] at h;obtain ⟨_,rfl⟩:=h;exact cB.push _ _
   ·cases h
  ·rename_i t l c xD
   simp only [xD,fi,dY] at h
   repeat' (split at h)
   all_goals first
    | (cases h;done)
    | (simp only [Option.some.injEq,Prod.mk.injEq] at h;obtain ⟨_,rfl⟩:=h;exact cB.push _ _)
  ·rename_i t n ps xD
   have hb:DR P t=false:=by simpa using ho
   simp only [xD,FD,hb,Bool.false_eq_true,if_false,fi,bC] at h
   repeat' (split at h)
   all_goals first
    | (cases h;done)
    | (simp only [Option.map_eq_some_iff,Prod.mk.injEq] at h;obtain ⟨cs,_,_,rfl⟩:=h;exact cB.push _ _)
  ·rename_i f args O4 xD
   simp only [xD,hρ,jC,eT] at h
   exact bZ _ _ _ _ _ ho h
  ·cases ho
theorem Dt (bZ:∀ g args H y H',ro g=true->fs.call g args H=some (y,H')->cB H H') (eT:∀ g args,fs.ext g args=none) (FD:fs.fz=DR P):
  ∀ (os:List Oper) (σ σ':St),os.all (HH P ro)=true->fc P (fun _=>none) fs ops os σ=some σ'->cB σ.H σ'.H/\σ'.defers=σ.defers
 | [],σ,σ',_,h=>by simp only [fc,Option.some.injEq] at h;subst h;exact ⟨cB.refl _,rfl⟩
 | o::os,σ,σ',ho,h=>by
  simp only [List.all_cons,Bool.and_eq_true] at ho
  simp only [fc] at h
  split at h
  ·rename_i y H' cA
   obtain ⟨k1,k2⟩:=Dt bZ eT FD os { σ with tmps:=dt σ.tmps o.dst y,H:=H' } σ' ho.2 h
   refine ⟨cB.trans ?_ k1,k2⟩
   unfold aZ at cA
   split at cA
   ·exact Kx bZ eT FD (fun g=>rfl) ho.1 cA
   ·simp only [Option.some.injEq,Prod.mk.injEq] at cA;obtain ⟨_,rfl⟩:=cA;exact cB.refl _
   ·cases cA
  ·cases h
theorem Du:∀ (os:List Oper) (xs:List SV) (σ σ':St),fc P (fun _=>none) fs ops os σ=some σ'->aQ (RV ι rows) xs σ.tmps->aQ (RV ι rows) (Mb os xs) σ'.tmps
 | [],xs,σ,σ',h,ha=>by simp only [fc,Option.some.injEq] at h;subst h;exact ha
 | o::os,xs,σ,σ',h,ha=>by
  simp only [fc] at h
  split at h
  ·rename_i y H' cA
   exact Du os _ { σ with tmps:=dt σ.tmps o.dst y,H:=H' } σ' h (mN ha o.dst (y:=.s (.o (.b .top))) (show R1 ι rows .top y from trivial))
  ·cases h
theorem HI {Γ:bz}:∀ (os os':List Oper) (σ σ1:St),fc P Γ fs ops os σ=some σ1->fc P Γ fs ops (os++os') σ=fc P Γ fs ops os' σ1
 | [],os',σ,σ1,h=>by simp only [fc,Option.some.injEq] at h;subst h;rfl
 | o::os,os',σ,σ1,h=>by
  simp only [fc,List.cons_append] at h ⊢
  split at h
  ·rename_i y H' cA
   exact HI os os' _ _ h
  ·cases h
theorem Ky {os:List Oper} {m:Nat} {d:Tmp} (h:Kw P ro ops o os=some (m,d)):((o::os).take m).all (HH P ro)=true:=by
 unfold Kw at h
 repeat' (split at h)
 all_goals first
  | (cases h;done)
  | (simp only [Option.some.injEq,Prod.mk.injEq] at h;obtain ⟨rfl,rfl⟩:=h;assumption)
theorem ES {R:Type} (cI:ir P C cE fs):∀ (n:Nat) (os:List Oper) (ι:Nat->Nat) (s:bX) (σ:St) (K:bX->Option R) (r:R),fg C ι s σ->Ro P cE ops n os s K=some r->
  ∃ σ' s' ι',fc P (fun _=>none) fs ops os σ=some σ'/\fg C ι' s' σ'/\Le ι s.rows ι' s'.rows/\K s'=some r
 | 0,os,ι,s,σ,K,r,hE,h=>ql cI os ι s σ K r hE h
 | n+1,[],ι,s,σ,K,r,hE,h=>⟨σ,s,ι,rfl,hE,Le.refl _ _,h⟩
 | n+1,o::os,ι,s,σ,K,r,hE,h=>by
  simp only [Ro] at h
  split at h
  ·rename_i m d hj
   obtain ⟨b,hv,e2⟩:=bE h
   obtain ⟨σ1,s1,ι1,h1,h2,hle,h3⟩:=ql cI _ ι s σ _ b hE hv
   have xX:ev (fun _=>none) σ1.tmps (.tmp d)=.bool b:=by
    have hx:=dw h2.tmps (.tmp d)
    unfold Wr at h3
    split at h3
    ·rename_i x he
     rw [he] at hx
     simp only [Option.some.injEq] at h3
     subst h3
     exact hx
    ·cases h3
   rw [qk] at e2
   obtain ⟨hx,hdf⟩:=Dt cI.fk cI.ext cI.fz _ _ _ (Ky hj) h1
   have Yc:fg C ι { s with tmps:=dX (Mb ((o::os).take m) s.tmps) (some d) (.aT (.bool b)) } σ1:=by
    refine ⟨?_,hE.rows.ext hx h2.rows.ok h2.rows.fH,by rw [hdf];exact hE.defers,hE.mZ⟩
    exact ed (x:=.tmp d) (Du _ _ _ _ h1 hE.tmps) (show ev (fun _=>none) σ1.tmps (.tmp d)=.bool b from xX)
   obtain ⟨σ2,s2,ι2,k1,k2,k3,k4⟩:=ES cI n _ ι _ σ1 K r Yc e2
   refine ⟨σ2,s2,ι2,?_,k2,k3,k4⟩
   rw [←List.take_append_drop m (o::os),HI _ _ _ _ h1]
   exact k1
  ·obtain ⟨σ1,s1,ι1,h1,h2,hle,h3⟩:=o7 cI hE h
   obtain ⟨σ',s',ι',h4,h5,q9,h6⟩:=ES cI n os ι1 s1 σ1 K r h2 h3
   refine ⟨σ',s',ι',?_,h5,hle.trans q9,h6⟩
   simp only [fc]
   unfold gZ at h1
   split at h1
   ·rename_i y H' cA
    simp only [Option.some.injEq] at h1;subst h1
    simp only [cA];exact h4
   ·cases h1
end
def dy {A R:Type} (N:Nat) (a:A) (f:A->Option R):Option R:=
 (Nat.rec (motive:=fun _=>A->(A->Option R)->Option R) (fun _ _=>none) (fun _ _ a f=>f a) N) a f
theorem Bf {A R:Type} {N:Nat} {a:A} {f:A->Option R} {r:R} (h:dy N a f=some r):f a=some r:=by
 cases N with
 | zero=>cases h
 | succ n=>exact h
theorem bP {A R:Type} {N:Nat} (h:0<N) (a:A) (f:A->Option R):dy N a f=f a:=by
 cases N with
 | zero=>omega
 | succ n=>rfl
end Go.Abs
end
noncomputable section
namespace Go.Abs
def LO:Code->Nat->Option Code
 | .seq x y,i=>match i with
  | 0=>some x
  | _=>some y
 | .cond _ x y,i=>match i with
  | 0=>some x
  | _=>some y
 | .block _ x,_=>some x
 | .loop x,_=>some x
 | .scope x,_=>some x
 | .rangeFunc _ _ x y,i=>match i with
  | 0=>some x
  | _=>some y
 | _,_=>none
def LP (c:Code):List Nat->Option Code
 | []=>some c
 | i::p=>match LP c p with
  | some x=>LO x i
  | none=>none
def aI (P:Program):cp:=fun g p=>
 match P.funcs[g]? with
 | some fn=>match fn.body with
  | some c=>LP c p
  | none=>none
 | none=>none
def g_ {R:Type}:Option (Option R)->Option R
 | some x=>x
 | none=>none
def bg {A:Type} (N:Nat) (F:A->A) (bot:A):A:=Nat.rec bot (fun _ r=>F r) N
def yl {R:Type} (t:Tmp) (body:bX->(bX->Option R)->Option R):Nat->Nat->bX->Option R
 | 0,_,_=>none
 | m+1,j,s=>match (qT s.tmps (.tmp t)).b1 with
  | .int k n=>gO (S_ (decide (n=(j:Int)))) (body { s with tmps:=s.tmps.set t (.aT (.int k (j:Int))) } fun s'=>yl t body m (j+1) s')
  | _=>none
def LQ {R:Type} (j:Option Code) (s:bX) (K:Exit->bX->Option R):Option R:=
 match j with
 | none=>K .normal s
 | some .ret=>K .ret s
 | some (.exit id)=>K (.exit id) s
 | some (.goto l)=>K (.goto l) s
 | _=>none
def J2 (ro:Option Nat) (fn:FuncId) (path:List Nat) (s:bX):Option (Rows × Nat × List Nat):=
 match ro with
 | none=>some (s.rows++[some .deferred]++[some (.loop { state:=.ready,pending:=none,tmps:=s.tmps,fn:=fn,path:=path,defers:=s.rows.length })],s.rows.length+1,s.rows.length::s.defers)
 | some l=>match s.rows[l]? with
  | some (some (.loop L))=>some (s.rows++[some (.loop { state:=.ready,pending:=none,tmps:=s.tmps,fn:=fn,path:=path,defers:=L.defers })],s.rows.length,s.defers)
  | _=>none
section
variable {R : Type}
def Rn (m:Nat):List SV->Nat->List SV
 | [],_=>[]
 | x::xs,j=>(match m.testBit j with
  | true=>x
  | false=>.aT .top)::Rn m xs (j+1)
def LR (m:Nat) (ts:List SV):List SV:=
 match Nat.beq m 0 with
 | true=>ts
 | false=>Rn m ts 0
def J3 (cE:sS) (ro:Option Nat) (fn:FuncId) (path:List Nat) (m:Nat) (g:Operand) (s:bX) (K:Exit->bX->Option R):Option R:=
 match qT s.tmps g with
 | .s (.o (.fn f first cap))=>match J2 ro fn path { s with tmps:=LR m s.tmps } with
  | some (ff,l,ds)=>cE.call R f (first.map .aT++[.aT (.yield l)]++cap.map .aT) ff fun _ o8=>match o8[l]? with
   | some (some (.loop L))=>match L.state with
    | .busy=>none
    | _=>LQ L.pending { s with rows:=o8.set l none,defers:=ds } K
   | _=>none
  | none=>none
 | _=>none
def aaA (a:J0):Operand->Option LS
 | .tmp t=>a.join t
 | _=>none
def UW (P:Program) (cE:sS) (dr:Array Oper->bX->(bX->Option R)->Option R) (pick d:Bool) (ops:Array Oper) (s:bX) (K:bX->Option R):Option R:=
 match d with
 | true=>dr ops s K
 | false=>match pick with
  | true=>Ro P cE ops ops.toList.length ops.toList s K
  | false=>J1 P cE ops ops.toList s K
def eO (P:Program) (cE:sS) (dr:Array Oper->bX->(bX->Option R)->Option R) (N:Nat) (live:Nat->Nat) (dL:Nat->J0) (fn:FuncId) (ro:Option Nat):Code->List Nat->Nat->Nat->bX->(Exit->bX->Option R)->Option R
 | .skip,_,_,bs,s,K=>K .normal s
 | .label _,_,_,bs,s,K=>K .normal s
 | .region id ops d,_,fw,bs,s,K=>match (dL fw).ac8 id with
  | none=>UW P cE dr (dL fw).pick d ops s fun s'=>K .normal s'
  | some J=>o9 s fun s=>jg (J.oG s).o_ fun mv=>bL s.rows.length fun n0=>mO (kY (J.oG s) J.live J.mask (J.oG s).Db) fun hs=>match vO s.rows hs with
   | true=>dy N (vP hs fun s'=>K .normal s') fun k=>UW P cE dr (dL fw).pick d ops s fun s'=>g_ (mP ⟨mv,[]⟩ J.live n0 hs s' k)
   | false=>none
 | .seq x y,p,fw,bs,s,K=>eO P cE dr N live dL fn ro x (0::p) fw bs s fun e s'=>match e with
  | .normal=>eO P cE dr N live dL fn ro y (1::p) fw bs s' K
  | e=>K e s'
 | .cond c x y,p,fw,bs,s,K=>o9 s fun s=>match (qT s.tmps c).b1 with
  | .bool b=>match aaA (dL fw) c with
   | none=>cO b (eO P cE dr N live dL fn ro x (0::p) fw bs { s with tmps:=dX s.tmps (iu c) (.aT (.bool true)) } K) (eO P cE dr N live dL fn ro y (1::p) fw bs { s with tmps:=dX s.tmps (iu c) (.aT (.bool false)) } K)
   | some J=>jg (J.oG s).o_ fun mv=>bL s.rows.length fun n0=>mO (kY (J.oG s) J.live J.mask (J.oG s).Db) fun hs=>match vO s.rows hs with
    | true=>dy N (vP hs fun s'=>K .normal s') fun k=>cO b
      (eO P cE dr N live dL fn ro x (0::p) fw n0 { s with tmps:=dX s.tmps (iu c) (.aT (.bool true)) } fun e s'=>match e with
       | .normal=>g_ (mP ⟨mv,[]⟩ J.live n0 hs s' k)
       | e=>K e s')
      (eO P cE dr N live dL fn ro y (1::p) fw n0 { s with tmps:=dX s.tmps (iu c) (.aT (.bool false)) } fun e s'=>match e with
       | .normal=>g_ (mP ⟨mv,[]⟩ J.live n0 hs s' k)
       | e=>K e s')
    | false=>none
  | _=>none
 | .block id x,p,_,bs,s,K=>eO P cE dr N live dL fn ro x (0::p) id bs s fun e s'=>match e with
  | .exit k=>match Nat.beq k id with
   | true=>K .normal s'
   | false=>K (.exit k) s'
  | e=>K e s'
 | .loop x,p,fw,bs,s,K=>match (dL fw).D3 with
  | some (t,m)=>gO (S_ (decide (m<=N))) (yl t (fun s' K'=>eO P cE dr N live dL fn ro x (0::p) fw bs s' fun e xS=>match e with
   | .normal=>K' xS
   | e=>K e xS) m 0 s)
  | none=>o9 s fun s=>match (dL fw).oG with
  | none=>bL s.rows.length fun n0=>ym (shape (live fw) (dL fw).mask s) fun h=>g_ (h.app s (bg N (fun rec=>h.lam fun s'=>eO P cE dr N live dL fn ro x (0::p) fw n0 s' fun e xS=>match e with
   | .normal=>o9 xS fun xS=>g_ (h.app xS rec)
   | e=>K e xS) (h.lam fun _=>none)))
  | some vf=>jg (vf s).o_ fun mv=>bL (match (dL fw).deep with | true=>bs | false=>s.rows.length) fun n0=>mO (kY (vf s) (live fw) (dL fw).mask (vf s).Db) fun hs=>match vO (s.rows.take n0) hs with
   | true=>g_ (mP ⟨mv,[]⟩ (live fw) n0 hs s
     (bg N (fun rec=>vP hs fun s'=>eO P cE dr N live dL fn ro x (0::p) fw n0 s' fun e xS=>match e with
      | .normal=>g_ (mP ⟨mv,[]⟩ (live fw) n0 hs xS rec)
      | e=>K e xS) (vP hs fun _=>none)))
   | false=>none
 | .rangeFunc g _ _ _,p,fw,bs,s,K=>J3 cE ro fn p (live fw) g s K
 | .exit id,_,_,bs,s,K=>K (.exit id) s
 | .goto l,_,_,bs,s,K=>K (.goto l) s
 | .ret,_,_,bs,s,K=>K .ret s
 | .scope x,p,fw,bs,s,K=>eO P cE dr N live dL fn ro x (0::p) fw bs s fun e s'=>match e with
  | .goto _=>none
  | e=>K e s'
 | _,_,_,_,_,_=>none
end
section
variable {ι : Nat → Nat} {rows : Rows} {H : af} {P : Program} {R : Type} {r : R} {fs : fb} {cE : sS} {s : bX} {σ : St} {fn : FuncId} {N : Nat} {live : Nat → Nat} {dL : Nat → J0} {dr : Array Oper → St → Option St}
 {Ik:Array Oper->bX->(bX->Option R)->Option R}
theorem dB {p:List Nat} {c x:Code} {i:Nat} (h:aI P fn p=some c) (hx:LO c i=some x):aI P fn (i::p)=some x:=by
 unfold aI at h ⊢
 split at h
 ·split at h
  ·simp only [LP,h];exact hx
  ·cases h
 ·cases h
theorem iO {x:Option (Option R)} (h:g_ x=some r):x=some (some r):=by
 cases x with
 | none=>cases h
 | some y=>exact congrArg some h
theorem NT {C:cp} (hE:fg C ι s σ) {ro:Option Nat} {ps:Array Tmp} {as bd:Code} {p:List Nat} (hC:∃ g,C fn p=some (.rangeFunc g ps as bd)) {ff:Rows} {l:Nat} {ds:List Nat}
  (hr:∀ l,ro=some l->l<s.rows.length/\sg s.rows l=none) (h:J2 ro fn p s=some (ff,l,ds)):
  ∃ H1 l' ON ι1,fy (ro.map ι) ps as bd σ=some (H1,l',ON)/\aE C ι1 ff H1/\Le ι s.rows ι1 ff/\l<ff.length/\sg ff l=none/\l'=ι1 l/\ON=ds.map ι1/\(∀ d∈ds,d<ff.length/\sg ff d=none):=by
 unfold J2 at h
 split at h
 ·simp only [Option.some.injEq,Prod.mk.injEq] at h
  obtain ⟨rfl,rfl,rfl⟩:=h
  have Cc:=jr ι s.rows (some .deferred) σ.H.n
  have h1:=hE.rows.push .deferred .deferred (by show af.get _ (put ι _ _ _)=_;rw [aH];exact af.cD)
  have ac9:(s.rows++[some eJ.deferred]).length=s.rows.length+1:=by simp
  let L:Dc:={ state:=.ready,pending:=none,tmps:=s.tmps,fn:=fn,path:=p,defers:=s.rows.length }
  let AL:oD:={ state:=.ready,pending:=none,tmps:=σ.tmps,params:=ps,assign:=as,body:=bd,defers:=σ.H.n }
  have wN:=jr (put ι s.rows.length σ.H.n) (s.rows++[some .deferred]) (some (.loop L)) (σ.H.push .deferred).n
  have sgd:sg (s.rows++[some eJ.deferred]++[some (.loop L)]) s.rows.length=none:=by
   unfold sg
   rw [List.getElem?_append_left (by simp),List.getElem?_append_right (Nat.le_refl _)]
   simp
  have h2:=h1.push (.loop L) (.loop AL) (by
   refine ⟨AL,?_,rfl,rfl,hC,hE.tmps.mono fun _ _=>(Cc.trans wN).rv,by simp [L],sgd,?_⟩
   ·rw [aH];exact af.cD
   ·show σ.H.n=put _ _ _ s.rows.length
    rw [bD (by simp)];exact aH.symm)
  refine ⟨_,_,_,_,rfl,h2,Cc.trans wN,by simp,?_,?_,?_,?_⟩
  ·unfold sg
   rw [List.getElem?_append_right (by simp)]
   simp
  ·have:put (put ι s.rows.length σ.H.n) (s.rows++[some eJ.deferred]).length (σ.H.push .deferred).n (s.rows.length+1)=(σ.H.push .deferred).n:=by
    rw [←ac9];exact aH
   rw [this];rfl
  ·simp only [List.map_cons,List.cons.injEq]
   refine ⟨by rw [bD (by simp),aH],?_⟩
   rw [hE.defers]
   refine List.map_congr_left fun d hd=>?_
   obtain ⟨a,b⟩:=hE.mZ d hd
   exact ((Cc.trans wN).st d a b).2.symm
  ·intro d hd
   rcases List.mem_cons.1 hd with rfl | hd
   ·exact ⟨by simp,sgd⟩
   ·obtain ⟨a,b⟩:=hE.mZ d hd
    exact ⟨Nat.lt_of_lt_of_le a (Cc.trans wN).len,((Cc.trans wN).st d a b).1⟩
 ·rename_i l0
  split at h
  ·rename_i L0 F6
   simp only [Option.some.injEq,Prod.mk.injEq] at h
   obtain ⟨rfl,rfl,rfl⟩:=h
   obtain ⟨A0,q1,q2,q3,q4,q5,q6,q7,q8⟩:=hE.rows.row _ _ F6
   let L:Dc:={ state:=.ready,pending:=none,tmps:=s.tmps,fn:=fn,path:=p,defers:=L0.defers }
   let AL:oD:={ state:=.ready,pending:=none,tmps:=σ.tmps,params:=ps,assign:=as,body:=bd,defers:=A0.defers }
   have wN:=jr ι s.rows (some (.loop L)) σ.H.n
   obtain ⟨d1,d2⟩:=wN.st _ q6 q7
   have h2:=hE.rows.push (.loop L) (.loop AL) (by
    refine ⟨AL,?_,rfl,rfl,hC,hE.tmps.mono fun _ _=>wN.rv,Nat.lt_of_lt_of_le q6 wN.len,d1,?_⟩
    ·rw [aH];exact af.cD
    ·show A0.defers=_
     rw [q8];exact d2.symm)
   refine ⟨_,_,_,_,by simp only [fy,Option.map_some,q1];rfl,h2,wN,by simp,?_,?_,?_,?_⟩
   ·unfold sg
    rw [List.getElem?_append_right (Nat.le_refl _)]
    simp
   ·rw [aH]
   ·rw [hE.defers]
    refine List.map_congr_left fun d hd=>?_
    obtain ⟨a,b⟩:=hE.mZ d hd
    exact (wN.st d a b).2.symm
   ·intro d hd
    obtain ⟨a,b⟩:=hE.mZ d hd
    exact ⟨Nat.lt_of_lt_of_le a wN.len,(wN.st d a b).1⟩
  ·cases h
theorem aE.lB {C:cp} (hE:aE C ι rows H) {q:Nat} {L:Dc} (h0:rows[q]?=some (some (.loop L))) (st:LoopState) (pd:Option Code) {A:oD} (hA:H.get (ι q)=some (.loop A)):
  aE C ι (rows.set q (some (.loop { L with state:=st,pending:=pd }))) (H.ij (ι q) (.loop { A with state:=st,pending:=pd }))/\Le ι rows ι (rows.set q (some (.loop { L with state:=st,pending:=pd }))):=by
 obtain ⟨A',q1,q2,q3,q4,q5,q6,q7,q8⟩:=hE.row _ _ h0
 rw [hA] at q1
 simp only [Option.some.injEq,eR.loop.injEq] at q1
 subst q1
 refine hE.Rp h0 trivial (.loop { L with state:=st,pending:=pd }) (.loop { A with state:=st,pending:=pd }) (by
  unfold sg;rw [List.getElem?_set_self (bQ h0),h0]) fun le=>?_
 refine ⟨{ A with state:=st,pending:=pd },?_,rfl,rfl,q4,q5.mono fun _ _=>le.rv,by simpa using q6,(le.st _ q6 q7).1,q8⟩
 rw [af.iS hE.ok _ (af.cT hA),if_pos rfl]
theorem Rq {j:Option Code} {K:Exit->bX->Option R} (h:LQ j s K=some r) (σ:St):∃ e,yL j σ=some (e,σ)/\K e s=some r:=by
 unfold LQ at h
 split at h
 ·exact ⟨_,rfl,h⟩
 ·exact ⟨_,rfl,h⟩
 ·exact ⟨_,rfl,h⟩
 ·exact ⟨_,rfl,h⟩
 ·cases h
theorem Dd {ι:Nat->Nat} {rows:Rows} (m:Nat):∀ {ts:List SV} {vs:List AV} (j:Nat),aQ (RV ι rows) ts vs->aQ (RV ι rows) (Rn m ts j) vs
 | [],[],_,_=>.nil
 | x::xs,v::vs,j,.cons h t=>by
  refine .cons ?_ (Dd m (j+1) t)
  split
  ·exact h
  ·trivial
theorem fg.mask {C:cp} {s:bX} {σ:St} {ι:Nat->Nat} (hE:fg C ι s σ) (m:Nat):fg C ι { s with tmps:=LR m s.tmps } σ:=by
 refine ⟨?_,hE.rows,hE.defers,hE.mZ⟩
 show aQ _ (LR m s.tmps) _
 unfold LR
 split
 ·exact hE.tmps
 ·exact Dd m 0 hE.tmps
theorem aE.forget {C:cp} (hE:aE C ι rows H) {d:Nat} (cC:d<rows.length) (sgd:sg rows d=none):aE C ι (rows.set d none) H/\Le ι rows ι (rows.set d none):=by
 have Rr:sg (rows.set d none) d=none:=by unfold sg;rw [List.getElem?_set_self cC]
 have le:Le ι rows ι (rows.set d none):=Le.of (by simp) fun s hs=>.inl ⟨rfl,by
  by_cases e:d=s
  ·subst e;rw [sgd,Rr]
  ·exact eK e⟩
 have split:∀ s row,(rows.set d none)[s]?=some (some row)->s≠d/\rows[s]?=some (some row):=by
  intro s row h
  by_cases e:d=s
  ·subst e;rw [List.getElem?_set_self cC] at h;cases h
  ·rw [List.getElem?_set_ne e] at h;exact ⟨fun h=>e h.symm,h⟩
 refine ⟨⟨fun s row h=>?_,fun s s' row cS h h' hr gL e=>?_,hE.ok,hE.fH⟩,le⟩
 ·obtain ⟨ek,h⟩:=split s row h
  refine (hE.row s row h).mono le (fun hr=>⟨rfl,fun ar ha=>ha⟩) fun p hp ER=>⟨rfl,?_⟩
  by_cases e:d=p
  ·subst e;exact Rr
  ·rw [eK e];exact ER
 ·exact hE.inj _ _ _ _ (split _ _ h).2 (split _ _ h').2 hr gL e
theorem NU {C:cp} (cI:ir P C cE fs) (hE:fg C ι s σ) {ro:Option Nat} {ps:Array Tmp} {as bd:Code} {p:List Nat} {g:Operand} (hC:∃ g,C fn p=some (.rangeFunc g ps as bd))
  (hr:∀ l,ro=some l->l<s.rows.length/\sg s.rows l=none) {m:Nat} {K:Exit->bX->Option R} (h:J3 cE ro fn p m g s K=some r):
  ∃ e σ' s' ι',lX (fun _=>none) fs (ro.map ι) g ps as bd σ=some (e,σ')/\fg C ι' s' σ'/\Le ι s.rows ι' s'.rows/\K e s'=some r:=by
 unfold J3 at h
 have hg:=dw hE.tmps g
 split at h
 ·rename_i f first cap hf
  rw [hf] at hg
  obtain ⟨cX,nU,e,h1,h2⟩:=hg
  split at h
  ·rename_i ff l ds cA
   obtain ⟨H1,l',ON,ι1,k1,k2,k3,k4,k5,k6,k7,k8⟩:=NT (hE.mask m) hC hr cA
   have cW:aQ (RV ι1 ff) (first.map .aT++[.aT (.yield l)]++cap.map .aT) (cX++[.yield l']++nU):=
    ((tU (h1.mono k3.one)).append (.cons (show RV ι1 ff (.aT (.yield l)) (.yield l') from ⟨k4,fun _=>by rw [k6]⟩) .nil)).append (tU (h2.mono k3.one))
   obtain ⟨y,H2,ys,o8,ι2,c1,c2,c3,c4,c5⟩:=cI.call R f _ ff _ r ι1 H1 _ h k2 cW
   simp only at c5
   split at c5
   ·rename_i L hL
    have Pe:l'=ι2 l:=by rw [k6];exact (c4.st l k4 k5).2.symm
    obtain ⟨A,q1,q2,q3,q4,q5,q6,q7,q8⟩:=c2.row _ _ hL
    have gI:=c2.lB hL .exhausted L.pending q1
    have hsg:sg (o8.set l (some (.loop { L with state:=.exhausted }))) l=none:=by
     unfold sg;rw [List.getElem?_set_self (bQ hL)]
    have SF:=gI.1.forget (d:=l) (by rw [List.length_set];exact bQ hL) hsg
    rw [List.set_set] at SF
    have fin:L.state≠.busy->LQ L.pending { s with rows:=o8.set l none,defers:=ds } K=some r->
      ∃ e σ' s' ι',lX (fun _=>none) fs (ro.map ι) g ps as bd σ=some (e,σ')/\fg C ι' s' σ'/\Le ι s.rows ι' s'.rows/\K e s'=some r:=by
     intro W0 hj
     have wS:Le ι s.rows ι2 (o8.set l none):=((k3.trans c4).trans gI.2).trans SF.2
     obtain ⟨e',j1,j2⟩:=Rq hj { σ with H:=H2.ij l' (.loop { A with state:=.exhausted,pending:=L.pending }),defers:=ON }
     refine ⟨e',{ σ with H:=H2.ij l' (.loop { A with state:=.exhausted,pending:=L.pending }),defers:=ON },{ s with rows:=o8.set l none,defers:=ds },ι2,?_,?_,wS,j2⟩
     ·unfold lX
      rw [e]
      simp only [k1,c1]
      rw [Pe,q1]
      have hA:A.state≠.busy:=by rw [q2];exact W0
      have dm:H2.fH<=ι2 l:=by rw [c2.fH];exact Nat.zero_le _
      cases hs:A.state with
      | busy=>exact absurd hs hA
      | _=>simp only [dm,if_true,q3];rw [←Pe];exact j1
     ·refine ⟨hE.tmps.mono fun _ _=>wS.rv,?_,?_,?_⟩
      ·show aE C ι2 _ (H2.ij l' (.loop { A with state:=.exhausted,pending:=L.pending }))
       rw [Pe]
       exact SF.1
      ·show ON=ds.map ι2
       rw [k7]
       refine List.map_congr_left fun d hd=>?_
       obtain ⟨a,b⟩:=k8 d hd
       exact (c4.st d a b).2.symm
      ·intro d hd
       obtain ⟨a,b⟩:=k8 d hd
       obtain ⟨a2,b2⟩:=((c4.trans gI.2).trans SF.2).st d a b
       exact ⟨Nat.lt_of_lt_of_le a ((c4.trans gI.2).trans SF.2).len,a2⟩
    cases hs:L.state with
    | busy=>rw [hs] at c5;cases c5
    | _=>rw [hs] at c5;exact fin (by rw [hs];simp) c5
   ·cases c5
  ·cases h
 ·cases h
def ac' (P:Program) (fs:fb) (dr:Array Oper->St->Option St) (N:Nat) (ro:Option Nat) (bs:Nat) (c:Code) (f:bX->(Exit->bX->Option R)->Option R):Prop:=
 ∀ (ιb:Nat->Nat) (cH:Rows) (ι:Nat->Nat) (s:bX) (σ:St) (K:Exit->bX->Option R) (r:R),cH.length=bs->Le ιb cH ι s.rows->fg (aI P) ι s σ->(∀ l,ro=some l->l<cH.length/\sg cH l=none)->f s K=some r->
  ∃ e σ' s' ι',aV P (fun _=>none) fs dr N (ro.map ιb) c σ=some (e,σ')/\fg (aI P) ι' s' σ'/\Le ιb cH ι' s'.rows/\K e s'=some r
theorem ez {rows:Rows} {n r:Nat} (h:r<n):sg (rows.take n) r=sg rows r:=by
 unfold sg
 rw [List.getElem?_take_of_lt h]
theorem Le.take {ιb ι:Nat->Nat} {cH rows:Rows} (h:Le ιb cH ι rows) {n:Nat} (hn:cH.length<=n):Le ιb cH ι (rows.take n)/\Le ι (rows.take n) ι rows:=by
 have hl:=h.len
 have key:∀ x v,R1 ι (rows.take n) x v->R1 ι rows x v:=by
  intro x v hx
  cases x with
  | own r aW aA=>exact ⟨Nat.lt_of_lt_of_le hx.1 (by simp;omega),fun nb v' e m hs=>hx.2 nb v' e m (by rw [ez (by have:=hx.1;simp at this;omega)];exact hs)⟩
  | ptr r off=>exact ⟨Nat.lt_of_lt_of_le hx.1 (by simp;omega),fun hs=>hx.2 (by rw [ez (by have:=hx.1;simp at this;omega)];exact hs)⟩
  | gk r aW off=>exact ⟨Nat.lt_of_lt_of_le hx.1 (by simp;omega),fun nb v' e m hs=>hx.2 nb v' e m (by rw [ez (by have:=hx.1;simp at this;omega)];exact hs)⟩
  | sub r aW off k aA=>exact ⟨Nat.lt_of_lt_of_le hx.1 (by simp;omega),fun nb v' e m hs=>hx.2 nb v' e m (by rw [ez (by have:=hx.1;simp at this;omega)];exact hs)⟩
  | fX r off k aA=>exact ⟨Nat.lt_of_lt_of_le hx.1 (by simp;omega),fun hs=>hx.2 (by rw [ez (by have:=hx.1;simp at this;omega)];exact hs)⟩
  | yield r=>exact ⟨Nat.lt_of_lt_of_le hx.1 (by simp;omega),fun hs=>hx.2 (by rw [ez (by have:=hx.1;simp at this;omega)];exact hs)⟩
  | mp r=>exact ⟨Nat.lt_of_lt_of_le hx.1 (by simp;omega),fun hs=>hx.2 (by rw [ez (by have:=hx.1;simp at this;omega)];exact hs)⟩
  | _=>exact hx
 refine ⟨⟨by simp;omega,fun x v hx=>?_,fun r hr h0=>?_⟩,⟨by simp;omega,key,fun r hr h0=>?_⟩⟩
 ·have h1:=h.one x v hx
  cases x with
  | own r aW aA=>
   have hr:r<cH.length:=hx.1
   exact ⟨by simp;omega,fun nb v' e m hs=>h1.2 nb v' e m (by rw [ez (by omega)] at hs;exact hs)⟩
  | ptr r off=>
   have hr:r<cH.length:=hx.1
   exact ⟨by simp;omega,fun hs=>h1.2 (by rw [ez (by omega)] at hs;exact hs)⟩
  | gk r aW off=>
   have hr:r<cH.length:=hx.1
   exact ⟨by simp;omega,fun nb v' e m hs=>h1.2 nb v' e m (by rw [ez (by omega)] at hs;exact hs)⟩
  | sub r aW off k aA=>
   have hr:r<cH.length:=hx.1
   exact ⟨by simp;omega,fun nb v' e m hs=>h1.2 nb v' e m (by rw [ez (by omega)] at hs;exact hs)⟩
  | fX r off k aA=>
   have hr:r<cH.length:=hx.1
   exact ⟨by simp;omega,fun hs=>h1.2 (by rw [ez (by omega)] at hs;exact hs)⟩
  | yield r=>
   have hr:r<cH.length:=hx.1
   exact ⟨by simp;omega,fun hs=>h1.2 (by rw [ez (by omega)] at hs;exact hs)⟩
  | mp r=>
   have hr:r<cH.length:=hx.1
   exact ⟨by simp;omega,fun hs=>h1.2 (by rw [ez (by omega)] at hs;exact hs)⟩
  | _=>exact h1
 ·obtain ⟨a,b⟩:=h.st r hr h0
  exact ⟨by rw [ez (by omega)];exact a,b⟩
 ·have:r<n:=by simp at hr;omega
  rw [ez this] at h0
  exact ⟨h0,rfl⟩
theorem tW {ro:Option Nat} {ι ι':Nat->Nat} {rows ah:Rows} (le:Le ι rows ι' ah) (hr:∀ l,ro=some l->l<rows.length/\sg rows l=none):(∀ l,ro=some l->l<ah.length/\sg ah l=none)/\ro.map ι'=ro.map ι:=by
 refine ⟨fun l hl=>?_,?_⟩
 ·obtain ⟨a,b⟩:=hr l hl
  exact ⟨Nat.lt_of_lt_of_le a le.len,(le.st l a b).1⟩
 ·cases ro with
  | none=>rfl
  | some l=>
   obtain ⟨a,b⟩:=hr l rfl
   simp [(le.st l a b).2]
def De (P:Program) (fs:fb) (dr:Array Oper->St->Option St) (Ik:Array Oper->bX->(bX->Option R)->Option R):Prop:=
 ∀ (ops:Array Oper) (ι:Nat->Nat) (s:bX) (σ:St) (K:bX->Option R) (r:R),fg (aI P) ι s σ->Ik ops s K=some r->∃ σ' s' ι',dr ops σ=some σ'/\fg (aI P) ι' s' σ'/\Le ι s.rows ι' s'.rows/\K s'=some r
theorem Be (cI:ir P (aI P) cE fs) (zg:De P fs dr Ik) (ro:Option Nat):∀ (c:Code) (p:List Nat) (fw bs:Nat),aI P fn p=some c->ac' P fs dr N ro bs c (eO P cE Ik N live dL fn ro c p fw bs):=by
 intro c
 induction c with
 | skip=>intro p fw bs hp ιb cH ι s σ K r hb hle hE hr h;exact ⟨_,σ,s,ι,rfl,hE,hle,h⟩
 | label l=>intro p fw bs hp ιb cH ι s σ K r hb hle hE hr h;exact ⟨_,σ,s,ι,rfl,hE,hle,h⟩
 | exit id=>intro p fw bs hp ιb cH ι s σ K r hb hle hE hr h;exact ⟨_,σ,s,ι,rfl,hE,hle,h⟩
 | goto l=>intro p fw bs hp ιb cH ι s σ K r hb hle hE hr h;exact ⟨_,σ,s,ι,rfl,hE,hle,h⟩
 | ret=>intro p fw bs hp ιb cH ι s σ K r hb hle hE hr h;exact ⟨_,σ,s,ι,rfl,hE,hle,h⟩
 | refuse w=>intro p fw bs hp ιb cH ι s σ K r hb hle hE hr h;cases h
 | scope b ih=>
  intro p fw bs hp ιb cH ι s σ K r hb hle hE hr h
  simp only [eO] at h
  obtain ⟨e,σ1,s1,ι1,h1,h2,h3,h4⟩:=ih (0::p) fw bs (dB hp rfl) ιb cH ι s σ _ r hb hle hE hr h
  cases e with
  | goto l=>cases h4
  | _=>exact ⟨_,σ1,s1,ι1,by simp only [aV,h1],h2,h3,h4⟩
 | region id ops d=>
  intro p fw bs hp ιb cH ι s σ K r hb hle hE hr h
  have reg:∀ (K':bX->Option R),UW P cE Ik (dL fw).pick d ops s K'=some r->
    ∃ σ' s' ι',aV P (fun _=>none) fs dr N (ro.map ιb) (.region id ops d) σ=some (.normal,σ')/\fg (aI P) ι' s' σ'/\Le ι s.rows ι' s'.rows/\K' s'=some r:=by
   intro K' h
   unfold UW at h
   cases d with
   | true=>
    obtain ⟨σ',s',ι',h1,h2,h3,h4⟩:=zg ops ι s σ _ r hE h
    exact ⟨σ',s',ι',by simp only [aV,h1],h2,h3,h4⟩
   | false=>
    simp only at h
    split at h
    ·obtain ⟨σ',s',ι',h1,h2,h3,h4⟩:=ES cI _ ops.toList ι s σ _ r hE h
     exact ⟨σ',s',ι',by simp only [aV,h1],h2,h3,h4⟩
    ·obtain ⟨σ',s',ι',h1,h2,h3,h4⟩:=ql cI ops.toList ι s σ _ r hE h
     exact ⟨σ',s',ι',by simp only [aV,h1],h2,h3,h4⟩
  simp only [eO,mQ] at h
  split at h
  ·obtain ⟨σ',s',ι',h1,h2,h3,h4⟩:=reg _ h
   exact ⟨.normal,σ',s',ι',h1,h2,hle.trans h3,h4⟩
  ·rename_i J hJ
   simp only [jh,dQ,lN] at h
   split at h
   ·rename_i hb
    generalize hhs:kY (J.oG s) J.live J.mask (J.oG s).Db=hs at h hb
    have bw:=lO hb
    replace h:=Bf h
    obtain ⟨σ1,s1,ι1,h1,h2,h3,h4⟩:=reg _ h
    obtain ⟨s',aP,e',et⟩:=tX (C:=aI P) bw (iO h4)
    obtain ⟨a,b⟩:=et ι ι1 σ1 h2 h3
    exact ⟨.normal,σ1,s',_,h1,a,hle.trans b,e'.symm⟩
   ·cases h
 | seq x y xz CF=>
  intro p fw bs hp ιb cH ι s σ K r hb hle hE hr h
  simp only [eO] at h
  obtain ⟨e,σ1,s1,ι1,h1,h2,h3,h4⟩:=xz (0::p) fw bs (dB hp rfl) ιb cH ι s σ _ r hb hle hE hr h
  cases e with
  | normal=>
   obtain ⟨e',σ2,s2,ι2,k1,k2,k3,k4⟩:=CF (1::p) fw bs (dB hp rfl) ιb cH ι1 s1 σ1 K r hb h3 h2 hr h4
   exact ⟨e',σ2,s2,ι2,by simp only [aV,h1,k1],k2,k3,k4⟩
  | _=>exact ⟨_,σ1,s1,ι1,by simp only [aV,h1],h2,h3,h4⟩
 | cond c x y xz CF=>
  intro p fw bs hp ιb cH ι s σ K r hb hle hE hr h
  simp only [eO,mQ] at h
  split at h
  ·rename_i b hc
   have FH:=bo (dw hE.tmps c)
   rw [hc] at FH
   have FH:ev (fun _=>none) σ.tmps c=.bool b:=FH
   split at h
   ·rcases nu h with ⟨rfl,h⟩ | ⟨rfl,h⟩
    ·have FI:fg (aI P) ι { s with tmps:=dX s.tmps (iu c) (.aT (.bool true)) } σ:=⟨ed hE.tmps (show _=_ from FH),hE.rows,hE.defers,hE.mZ⟩
     obtain ⟨e,σ1,s1,ι1,h1,h2,h3,h4⟩:=xz (0::p) fw bs (dB hp rfl) ιb cH ι { s with tmps:=dX s.tmps (iu c) (.aT (.bool true)) } σ _ r hb hle FI hr h
     exact ⟨e,σ1,s1,ι1,by simp only [aV,FH,h1],h2,h3,h4⟩
    ·have FI:fg (aI P) ι { s with tmps:=dX s.tmps (iu c) (.aT (.bool false)) } σ:=⟨ed hE.tmps (show _=_ from FH),hE.rows,hE.defers,hE.mZ⟩
     obtain ⟨e,σ1,s1,ι1,h1,h2,h3,h4⟩:=CF (1::p) fw bs (dB hp rfl) ιb cH ι { s with tmps:=dX s.tmps (iu c) (.aT (.bool false)) } σ _ r hb hle FI hr h
     exact ⟨e,σ1,s1,ι1,by simp only [aV,FH,h1],h2,h3,h4⟩
   ·rename_i J hJ
    simp only [jh,dQ,lN] at h
    split at h
    ·rename_i hb
     generalize hhs:kY (J.oG s) J.live J.mask (J.oG s).Db=hs at h hb
     have bw:=lO hb
     replace h:=Bf h
     obtain ⟨r1,r2⟩:=tW hle hr
     have meet:∀ (e:Exit) (σ1:St) (s1:bX) (ι1:Nat->Nat),fg (aI P) ι1 s1 σ1->Le ι s.rows ι1 s1.rows->
       (match e with | .normal=>g_ (mP ⟨(J.oG s).o_,[]⟩ J.live s.rows.length hs s1 (vP hs fun s'=>K .normal s')) | e=>K e s1)=some r->
       ∃ s' ι',fg (aI P) ι' s' σ1/\Le ι s.rows ι' s'.rows/\K e s'=some r:=by
      intro e σ1 s1 ι1 Yc hle h4
      cases e with
      | normal=>
       obtain ⟨s',aP,e',et⟩:=tX (C:=aI P) bw (iO h4)
       obtain ⟨a,b⟩:=et ι ι1 σ1 Yc hle
       exact ⟨s',_,a,b,e'.symm⟩
      | _=>exact ⟨s1,ι1,Yc,hle,h4⟩
     rcases nu h with ⟨rfl,h⟩ | ⟨rfl,h⟩
     ·have FI:fg (aI P) ι { s with tmps:=dX s.tmps (iu c) (.aT (.bool true)) } σ:=⟨ed hE.tmps (show _=_ from FH),hE.rows,hE.defers,hE.mZ⟩
      obtain ⟨e,σ1,s1,ι1,h1,h2,h3,h4⟩:=xz (0::p) fw s.rows.length (dB hp rfl) ι s.rows ι { s with tmps:=dX s.tmps (iu c) (.aT (.bool true)) } σ _ r rfl (Le.refl _ _) FI r1 h
      obtain ⟨s',ι',k2,k3,k4⟩:=meet e σ1 s1 ι1 h2 h3 h4
      rw [r2] at h1
      exact ⟨e,σ1,s',ι',by simp only [aV,FH,h1],k2,hle.trans k3,k4⟩
     ·have FI:fg (aI P) ι { s with tmps:=dX s.tmps (iu c) (.aT (.bool false)) } σ:=⟨ed hE.tmps (show _=_ from FH),hE.rows,hE.defers,hE.mZ⟩
      obtain ⟨e,σ1,s1,ι1,h1,h2,h3,h4⟩:=CF (1::p) fw s.rows.length (dB hp rfl) ι s.rows ι { s with tmps:=dX s.tmps (iu c) (.aT (.bool false)) } σ _ r rfl (Le.refl _ _) FI r1 h
      obtain ⟨s',ι',k2,k3,k4⟩:=meet e σ1 s1 ι1 h2 h3 h4
      rw [r2] at h1
      exact ⟨e,σ1,s',ι',by simp only [aV,FH,h1],k2,hle.trans k3,k4⟩
    ·cases h
  ·cases h
 | block id x ih=>
  intro p fw bs hp ιb cH ι s σ K r hb hle hE hr h
  simp only [eO] at h
  obtain ⟨e,σ1,s1,ι1,h1,h2,h3,h4⟩:=ih (0::p) id bs (dB hp rfl) ιb cH ι s σ _ r hb hle hE hr h
  cases e with
  | exit k=>
   simp only at h4
   cases hk:Nat.beq k id with
   | true=>
    rw [hk] at h4
    have:=Nat.eq_of_beq_eq_true hk
    exact ⟨.normal,σ1,s1,ι1,by simp only [aV,h1,this,if_true],h2,h3,h4⟩
   | false=>
    rw [hk] at h4
    have:k≠id:=by rintro rfl;rw [Nat.beq_refl] at hk;cases hk
    exact ⟨.exit k,σ1,s1,ι1,by simp only [aV,h1];rw [if_neg this],h2,h3,h4⟩
  | _=>exact ⟨_,σ1,s1,ι1,by simp only [aV,h1],h2,h3,h4⟩
 | loop x ih=>
  intro p fw bs hp ιb cH ι0 s0 σ0 K r hb NV NW Tc h
  obtain ⟨ro1,ro2⟩:=tW NV Tc
  simp only [eO,mQ,Bg,jh,dQ,lN] at h
  split at h
  ·rename_i t m hu
   obtain ⟨hmN,h⟩:=aO h
   have main:∀ (m j n:Nat) (ι:Nat->Nat) (s:bX) (σ:St),m<=n->fg (aI P) ι s σ->Le ιb cH ι s.rows->
     yl t (fun s' K'=>eO P cE Ik N live dL fn ro x (0::p) fw bs s' fun e xS=>match e with | .normal=>K' xS | e=>K e xS) m j s=some r->
     ∃ e σ' s' ι',fo (aV P (fun _=>none) fs dr N (ro.map ιb) x) n σ=some (e,σ')/\fg (aI P) ι' s' σ'/\Le ιb cH ι' s'.rows/\K e s'=some r:=by
    intro m
    induction m with
    | zero=>intro j n ι s σ _ _ _ h;cases h
    | succ m ihm=>
     intro j n ι s σ hmn hE hle h
     cases n with
     | zero=>omega
     | succ n=>
     simp only [yl] at h
     split at h
     ·rename_i k z hz
      obtain ⟨hj,h⟩:=aO h
      have hv:=bo (dw hE.tmps (.tmp t))
      rw [hz,hj] at hv
      have FI:fg (aI P) ι { s with tmps:=s.tmps.set t (.aT (.int k (j:Int))) } σ:=⟨ed (x:=.tmp t) hE.tmps (show RV ι s.rows (.aT (.int k (j:Int))) _ from hv),hE.rows,hE.defers,hE.mZ⟩
      obtain ⟨e',σ1,s1,ι1,h1,h2,l8,h4⟩:=ih (0::p) fw bs (dB hp rfl) ιb cH ι { s with tmps:=s.tmps.set t (.aT (.int k (j:Int))) } σ _ r hb hle FI Tc h
      cases e' with
      | normal=>
       obtain ⟨e2,σ2,s2,ι2,k1,k2,k3,k4⟩:=ihm (j+1) n ι1 s1 σ1 (by omega) h2 l8 h4
       exact ⟨e2,σ2,s2,ι2,by simp only [fo,h1,k1],k2,k3,k4⟩
      | _=>exact ⟨_,σ1,s1,ι1,by simp only [fo,h1],h2,l8,h4⟩
     ·cases h
   obtain ⟨e,σ',s',ι',h1,h2,h3,h4⟩:=main m 0 N ι0 s0 σ0 hmN NW NV h
   exact ⟨e,σ',s',ι',by simp only [aV];exact h1,h2,h3,h4⟩
  split at h
  ·let sh:=shape (live fw) (dL fw).mask s0
   have bw:Td sh s0.rows:=NX _ _ _
   let F:sh.Cur (Option R)->sh.Cur (Option R):=fun rec=>sh.lam fun s'=>eO P cE Ik N live dL fn ro x (0::p) fw s0.rows.length s' fun e xS=>match e with
    | .normal=>g_ (sh.app xS rec)
    | e=>K e xS
   let bot:sh.Cur (Option R):=sh.lam fun _=>none
   have main:∀ (n:Nat) (ι:Nat->Nat) (s:bX) (σ:St),fg (aI P) ι s σ->Le ι0 s0.rows ι s.rows->g_ (sh.app s (bg n F bot))=some r->
     ∃ e σ' s' ι',fo (aV P (fun _=>none) fs dr N (ro.map ι0) x) n σ=some (e,σ')/\fg (aI P) ι' s' σ'/\Le ι0 s0.rows ι' s'.rows/\K e s'=some r:=by
    intro n
    induction n with
    | zero=>
     intro ι s σ hE hle h
     have h:g_ (sh.app s (sh.lam fun _=>none))=some r:=h
     obtain ⟨s',e,_⟩:=Shape.J4 (C:=aI P) bw (iO h)
     cases e
    | succ n ihn=>
     intro ι s σ hE hle h
     have h:g_ (sh.app s (sh.lam fun s'=>eO P cE Ik N live dL fn ro x (0::p) fw s0.rows.length s' fun e xS=>match e with
      | .normal=>g_ (sh.app xS (bg n F bot))
      | e=>K e xS))=some r:=h
     obtain ⟨s',e,et⟩:=Shape.J4 (C:=aI P) bw (iO h)
     obtain ⟨FI,q9⟩:=et ι0 ι σ hE hle
     obtain ⟨e',σ1,s1,ι1,h1,h2,l8,h4⟩:=ih (0::p) fw s0.rows.length (dB hp rfl) ι0 s0.rows ι s' σ _ r rfl q9 FI ro1 e.symm
     cases e' with
     | normal=>
      obtain ⟨e2,σ2,s2,ι2,k1,k2,k3,k4⟩:=ihn ι1 s1 σ1 h2 l8 h4
      exact ⟨e2,σ2,s2,ι2,by simp only [fo,h1,k1],k2,k3,k4⟩
     | _=>exact ⟨_,σ1,s1,ι1,by simp only [fo,h1],h2,l8,h4⟩
   obtain ⟨e,σ',s',ι',h1,h2,h3,h4⟩:=main N ι0 s0 σ0 NW (Le.refl _ _) h
   rw [ro2] at h1
   exact ⟨e,σ',s',ι',by simp only [aV];exact h1,h2,NV.trans h3,h4⟩
  ·rename_i vf hvf
   generalize n9:(match (dL fw).deep with | true=>bs | false=>s0.rows.length)=n0 at h
   have Wl:cH.length<=n0:=by
    have:=NV.len
    cases hd:(dL fw).deep<;>rw [hd] at n9<;>simp only at n9<;>omega
   have hn2:n0<=s0.rows.length:=by
    have:=NV.len
    cases hd:(dL fw).deep<;>rw [hd] at n9<;>simp only at n9<;>omega
   obtain ⟨tb1,tb2⟩:=NV.take Wl
   obtain ⟨rt1,rt2⟩:=tW tb1 Tc
   have hlen:(s0.rows.take n0).length=n0:=by simp;omega
   generalize hrt:s0.rows.take n0=pa at h tb1 tb2 rt1 hlen
   subst hlen
   split at h
   ·rename_i DJ
    generalize hhs:kY (vf s0) (live fw) (dL fw).mask (vf s0).Db=hs at h DJ
    have bw:=lO DJ
    let F:J5 hs (Option R)->J5 hs (Option R):=fun rec=>vP hs fun s'=>eO P cE Ik N live dL fn ro x (0::p) fw pa.length s' fun e xS=>match e with
     | .normal=>g_ (mP ⟨(vf s0).o_,[]⟩ (live fw) pa.length hs xS rec)
     | e=>K e xS
    let bot:J5 hs (Option R):=vP hs fun _=>none
    have main:∀ (n:Nat) (ι:Nat->Nat) (s:bX) (σ:St),fg (aI P) ι s σ->Le ι0 pa ι s.rows->g_ (mP ⟨(vf s0).o_,[]⟩ (live fw) pa.length hs s (bg n F bot))=some r->
      ∃ e σ' s' ι',fo (aV P (fun _=>none) fs dr N (ro.map ι0) x) n σ=some (e,σ')/\fg (aI P) ι' s' σ'/\Le ι0 pa ι' s'.rows/\K e s'=some r:=by
     intro n
     induction n with
     | zero=>
      intro ι s σ hE hle h
      have h:g_ (mP ⟨(vf s0).o_,[]⟩ (live fw) pa.length hs s (vP hs fun _=>none))=some r:=h
      obtain ⟨s',aP,e,_⟩:=tX (C:=aI P) bw (iO h)
      cases e
     | succ n ihn=>
      intro ι s σ hE hle h
      have h:g_ (mP ⟨(vf s0).o_,[]⟩ (live fw) pa.length hs s (vP hs fun s'=>eO P cE Ik N live dL fn ro x (0::p) fw pa.length s' fun e xS=>match e with
       | .normal=>g_ (mP ⟨(vf s0).o_,[]⟩ (live fw) pa.length hs xS (bg n F bot))
       | e=>K e xS))=some r:=h
      obtain ⟨s',aP,e,et⟩:=tX (C:=aI P) bw (iO h)
      obtain ⟨FI,q9⟩:=et ι0 ι σ hE hle
      obtain ⟨e',σ1,s1,ι1,h1,h2,l8,h4⟩:=ih (0::p) fw pa.length (dB hp rfl) ι0 pa _ s' σ _ r rfl q9 FI rt1 e.symm
      cases e' with
      | normal=>
       obtain ⟨e2,σ2,s2,ι2,k1,k2,k3,k4⟩:=ihn ι1 s1 σ1 h2 l8 h4
       exact ⟨e2,σ2,s2,ι2,by simp only [fo,h1,k1],k2,k3,k4⟩
      | _=>exact ⟨_,σ1,s1,ι1,by simp only [fo,h1],h2,l8,h4⟩
    obtain ⟨e,σ',s',ι',h1,h2,h3,h4⟩:=main N ι0 s0 σ0 NW tb2 h
    rw [rt2] at h1
    exact ⟨e,σ',s',ι',by simp only [aV];exact h1,h2,tb1.trans h3,h4⟩
   ·cases h
 | rangeFunc g ps as bd _ _=>
  intro p fw bs hp ιb cH ι s σ K r hb hle hE hr h
  obtain ⟨r1,r2⟩:=tW hle hr
  obtain ⟨e,σ',s',ι',h1,h2,h3,h4⟩:=NU cI hE ⟨g,hp⟩ r1 h
  rw [r2] at h1
  exact ⟨e,σ',s',ι',h1,h2,hle.trans h3,h4⟩
end
end Go.Abs
end
noncomputable section
namespace Go.Abs
open Classical
inductive aa where
  | v (x:AV)
  | fz (n:Nat) (cs:List AV)
  | own (aA n:Nat) (cs:List AV)
abbrev qG:=FuncId->List AV->(R:Type)->(List aa->Option R)->Option R
def E7:AV->Bool
  | .bool _ | .int _ _ | .aL _ _ | .string _ | .bI | .nilFunc | .nilIface=>true
  | .agg cs=>cs.all fun c=>match c with
    | .bool _ | .int _ _ | .aL _ _ | .string _ | .bI | .nilFunc | .nilIface=>true
    | _=>false
  | _=>false
def fY:List aa->Bool
  | []=>true
  | .v x::ls=>E7 x&&fY ls
  | _::ls=>fY ls
def cg (H:af):AV->Option (AV × Bool)
  | .slice r off len aA=>match rowOf H r with
    | some cs=>if off+len*aA<=cs.length/\∀ x∈cs,Cell x then some (.list len ((cs.drop off).take (len*aA)),true) else none
    | none=>none
  | .av=>some (.list 0 [],false)
  | x=>if Pure x/\(∀ cs,x≠.agg cs) then some (x,false) else none
def da (H:af):List AV->Option (List AV × Bool)
  | []=>some ([],false)
  | x::xs=>match cg H x,da H xs with
    | some (y,b),some (ys,b')=>some (y::ys,b||b')
    | _,_=>none
def normArg (H:af):AV->Option (AV × Bool)
  | .agg cs=>match da H cs with
    | some (ys,b)=>some (.agg ys,b)
    | none=>none
  | x=>cg H x
def normArgs (H:af):List AV->Option (List AV × Bool)
  | []=>some ([],false)
  | x::xs=>match normArg H x,normArgs H xs with
    | some (y,b),some (ys,b')=>some (y::ys,b||b')
    | _,_=>none
def uZ:AV->Prop
  | .agg _=>False
  | .list _ cs=>∀ c∈cs,Cell c
  | .nl _ cs=>∀ c∈cs,Cell c
  | .dK cs _=>∀ c∈cs,Cell c
  | _=>True
def lG:AV->Prop
  | .agg cs=>∀ c∈cs,uZ c
  | x=>uZ x
def a_:List aa->af->List AV × af
  | [],H=>([],H)
  | .v x::ls,H=>(x::(a_ ls H).1,(a_ ls H).2)
  | .fz n cs::ls,H=>(.list n cs::(a_ ls H).1,(a_ ls H).2)
  | .own aA n cs::ls,H=>if n=0 then (.av::(a_ ls H).1,(a_ ls H).2)
    else (.slice H.n 0 n aA::(a_ ls (H.push (.cells cs))).1,(a_ ls (H.push (.cells cs))).2)
def nD (T:qG) (g:FuncId) (args:List AV) (H:af):Option (AV × af):=
  match normArgs H args with
  | some (ai,gU)=>if ∀ x∈ai,lG x then T g ai (AV × af) fun d=>if gU=true/\fY d=false then none else some (eV (a_ d H).1,(a_ d H).2) else none
  | none=>none
def qI (P:Program) (fs:fb) (ops:Array Oper):B7:=⟨fun o ρ y H=>decide (aZ P fs ops ρ H o=some (y,H)),fun o ρ y=>decide (∀ H,aZ P fs ops ρ H o=some (y,H))⟩
theorem U0 {P:Program} {fs:fb} {ops:Array Oper}:s9 P fs ops (qI P fs ops):=⟨fun _ _ _ _ h=>of_decide_eq_true h,fun _ _ _ h=>of_decide_eq_true h⟩
theorem nA {P:Program} {fs:fb} {ops:Array Oper} {o:Oper} {ρ:Operand->AV} {y:AV} {H:af} (hq:quietAt P o=true) (h:∃ H',aZ P fs ops ρ H o=some (y,H')):qI P fs ops o ρ y H=true:=by
  obtain ⟨H',h⟩:=h
  have:=iY hq h
  subst this
  exact decide_eq_true h
def nB (P:Program) (fs:fb) (ops:Array Oper) (σ:St):Option St:=uS (qI P fs ops) P (fun _=>none) fs ops σ
theorem N9 {P:Program} {fs:fb} {ops:Array Oper} {σ σ':St} (cI:eC P (fun _=>none) fs) (h:nB P fs ops σ=some σ'):qZ P (fun _=>none) ops σ σ':=ME U0 cI h
def xU (P:Program) (o:Oper):Bool:=
  match quietAt P o with
  | true=>true
  | false=>match o.op with
    | .alloc _ | .box _ _ | .makeSlice _ _ _=>true
    | .buildSlice t _ _=>!DR P t
    | .call { callee:=.value _,.. }=>true
    | _=>false
def fZ (P:Program):Code->Bool
  | .region _ ops _=>ops.toList.all (xU P)
  | .seq x y=>fZ P x&&fZ P y
  | .cond _ x y=>fZ P x&&fZ P y
  | .block _ x=>fZ P x
  | .loop x=>fZ P x
  | .scope x=>fZ P x
  | .skip | .label _ | .exit _ | .goto _ | .ret=>true
  | _=>false
def RG (P:Program) (g:FuncId):Bool:=
  match P.funcs[g]? with
  | some fn=>match fn.body with
    | some c=>fZ P c
    | none=>false
  | none=>false
def gy (P:Program) (T:qG) (cm jn:FuncId->Bool) (N:Nat):Nat->Bool->fb
  | 0,_=>{ call:=fun _ _ _=>none,yield:=fun _ _ _=>none,ext:=fun _ _=>none,fz:=DR P }
  | k+1,ro=>
    { call:=fun g args H=>match cm g with
        | true=>nD T g args H
        | false=>match ro||jn g with
          | true=>match RG P g with
            | true=>mA P (aV P (fun _=>none) (gy P T cm jn N k true) (nB P (gy P T cm jn N k true)) N none) g args H
            | false=>none
          | false=>mA P (aV P (fun _=>none) (gy P T cm jn N k false) (nB P (gy P T cm jn N k false)) N none) g args H
      yield:=match ro with
        | true=>fun _ _ _=>none
        | false=>iD fun r=>aV P (fun _=>none) (gy P T cm jn N k false) (nB P (gy P T cm jn N k false)) N (some r)
      ext:=fun _ _=>none
      fz:=DR P }
def fsX (P:Program) (T:qG) (cm jn:FuncId->Bool) (N:Nat) (k:Nat):fb:=gy P T cm jn N k false
def gT:aa->Prop
  | .v x=>Pure x/\(∀ n cs,x=.list n cs->∀ c∈cs,Cell c)/\(∀ cs,x=.agg cs->∀ c∈cs,Cell c)
  | .fz n cs=>∀ c∈cs,Cell c
  | .own aA n cs=>cs.length=n*aA/\∀ c∈cs,Cell c
def iN (P:Program) (T:qG) (cm:FuncId->Bool):Prop:=
  ∀ (g:FuncId) (ai:List AV) (R:Type) (K:List aa->Option R) (r:R),cm g=true->(∀ x∈ai,lG x)->T g ai R K=some r->
    ∃ d,(∀ (R':Type) (K':List aa->Option R'),T g ai R' K'=K' d)/\(∀ l∈d,gT l)/\
      ∀ (H:af) (args:List AV) (gU:Bool),normArgs H args=some (ai,gU)->(gU=true->fY d=true)->CallOk P (fun _=>none) g args H (eV (a_ d H).1) (a_ d H).2
section
variable {P : Program} {T : qG} {cm jn : FuncId → Bool} {N : Nat}
theorem LL (hm:P.follows .mixedOrders=true) (fK:ja P) (hT:iN P T cm):∀ k ro,eC P (fun _=>none) (gy P T cm jn N k ro):=by
  intro k
  induction k with
  | zero=>intro ro;exact ⟨fun _ _ _ _ _ h=>by simp [gy] at h,fun _ _ _ _ _ h=>by simp [gy] at h,fun _ _ _ h=>by simp [gy] at h⟩
  | succ k ih=>
    intro ro
    have run:∀ wJ r c σ e σ',aV P (fun _=>none) (gy P T cm jn N k wJ) (nB P (gy P T cm jn N k wJ)) N r c σ=some (e,σ')->de P (fun _=>none) r c σ e σ':=
      fun wJ r c σ e σ' h=>j7 hm (ih wJ) (fun ops σ σ' h=>N9 (ih wJ) h) c σ e σ' h
    refine ⟨fun g args H y H' h=>?_,fun r args H y H' h=>?_,fun _ _ _ h=>by simp [gy] at h⟩
    · simp only [gy] at h
      split at h
      · rename_i hd
        unfold nD at h
        split at h
        · rename_i ai gU hn
          split at h
          · rename_i U1
            obtain ⟨d,h1,_,h3⟩:=hT g ai _ _ _ hd U1 h
            rw [h1] at h
            split at h
            · cases h
            · rename_i hb
              simp only [Option.some.injEq,Prod.mk.injEq] at h
              obtain ⟨rfl,rfl⟩:=h
              exact h3 H args gU hn fun e=>by
                cases hp:fY d with
                | true=>rfl
                | false=>exact absurd ⟨e,hp⟩ hb
          · cases h
        · cases h
      · split at h
        · split at h
          · exact ov fK (fun c σ e σ' h=>run true none c σ e σ' h) h
          · cases h
        · exact ov fK (fun c σ e σ' h=>run false none c σ e σ' h) h
    · cases ro with
      | true=>simp [gy] at h
      | false=>exact pQ (fun r c σ e σ' h=>run false (some r) c σ e σ' h) h
theorem aay (hm:P.follows .mixedOrders=true) (fK:ja P) (hT:iN P T cm) (k:Nat):eC P (fun _=>none) (fsX P T cm jn N k):=LL hm fK hT k false
end
def Hp (rows:Rows):S2->Option (AV × Bool)
  | .b x=>match x with
    | .own r aW _=>match rows[r]? with
      | some (some (.vec _ v _ n cs))=>match Nat.beq aW v with
        | true=>some (.list n cs,true)
        | false=>none
      | _=>none
    | .sub r aW off n _=>match rows[r]? with
      | some (some (.vec _ v es _ cs))=>match Nat.beq aW v with
        | true=>some (.list n ((cs.drop (off*es)).take (n*es)),true)
        | false=>none
      | _=>none
    | .fX r off n aA=>match rows[r]? with
      | some (some (.lit cs))=>match jH cs with
        | some us=>match Nat.ble (off+n*aA) us.length with
          | true=>some (.list n ((us.drop off).take (n*aA)),true)
          | false=>none
        | none=>none
      | _=>none
    | .raw .av=>some (.list 0 [],false)
    | .raw .bI=>some (.bI,false)
    | .raw .nilFunc=>some (.nilFunc,false)
    | .fm cs off=>some (.dK cs off,false)
    | x=>match E5 x with
      | some v=>some (v,false)
      | none=>none
  | .fn f first cap=>match first,cap with
    | [],[]=>some (.func f [] [],false)
    | _,_=>none
def pj (rows:Rows):List S2->Option (List AV × Bool)
  | []=>some ([],false)
  | x::xs=>match Hp rows x,pj rows xs with
    | some (y,b),some (ys,b')=>some (y::ys,b||b')
    | _,_=>none
def N7 (rows:Rows):SV->Option (AV × Bool)
  | .s (.o x)=>Hp rows x
  | .s (.agg cs)=>match pj rows cs with
    | some (ys,b)=>some (.agg ys,b)
    | none=>none
  | .tuple _=>none
def xk (rows:Rows):List SV->Option (List AV × Bool)
  | []=>some ([],false)
  | x::xs=>match N7 rows x,xk rows xs with
    | some (y,b),some (ys,b')=>some (y::ys,b||b')
    | _,_=>none
def lQ:AV->S1
  | .bool b=>.bool b
  | .int k n=>.int k n
  | .aL k o=>.aL k o
  | .string s=>.string s
  | .list n cs=>.list n cs
  | .nl n cs=>.nl n cs
  | x=>.raw x
def Kg:AV->S3
  | .agg cs=>.agg (cs.map fun c=>.b (lQ c))
  | .nl _ _=>.o (.b .top)
  | x=>.o (.b (lQ x))
def aaD:List S3->SV
  | [x]=>.s x
  | xs=>.tuple xs
section
variable {R : Type}
def Ht:List aa->Rows->(List S3->Rows->Option R)->Option R
  | [],rows,K=>K [] rows
  | .v x::ls,rows,K=>Ht ls rows fun ys ah=>K (Kg x::ys) ah
  | .fz n cs::ls,rows,K=>Ht ls rows fun ys ah=>K (.o (.b (.list n cs))::ys) ah
  | .own aA n cs::ls,rows,K=>Ht ls (rows++[some (.vec true 0 aA n cs)]) fun ys ah=>K (.o (.b (.own rows.length 0 aA))::ys) ah
def RH (T:qG) (g:FuncId) (args:List SV) (rows:Rows) (K:SV->Rows->Option R):Option R:=
  match xk rows args with
  | some (ai,gU)=>T g ai R fun d=>match gU&&!fY d with
    | true=>none
    | false=>Ht d rows fun ys ah=>K (aaD ys) ah
  | none=>none
def uc:List Nat->Rows->Option Rows
  | [],rows=>some rows
  | d::ds,rows=>match rows[d]? with
    | some (some .deferred)=>uc ds (rows.set d none)
    | _=>none
def mT (P:Program) (tmps:List SV) (rows:Rows):List ResultVar->(List S3->Option R)->Option R
  | [],K=>K []
  | r::rs,K=>match r with
    | .tmp t=>match tmps[t]? with
      | some (.s x)=>mT P tmps rows rs fun xs=>K (x::xs)
      | _=>none
    | .cell a t=>match tmps[a]? with
      | some y=>L2 P rows t y.b1 fun z=>match z with
        | .s x=>mT P tmps rows rs fun xs=>K (x::xs)
        | _=>none
      | none=>none
def Bq (P:Program) (fn:Func) (s:bX) (K:SV->Rows->Option R):Option R:=
  match uc s.defers s.rows with
  | some rows=>mT P s.tmps rows fn.results.toList fun xs=>K (aaD xs) rows
  | none=>none
def Hu (P:Program) (cE:sS) (dr:Array Oper->bX->(bX->Option R)->Option R) (N:Nat) (live:FuncId->Nat->Nat) (dL:FuncId->Nat->J0) (g:FuncId) (args:List SV) (rows:Rows) (K:SV->Rows->Option R):Option R:=
  match P.funcs[g]? with
  | some fn=>match fn.body with
    | some c=>bL rows.length fun bs=>eO P cE dr N (live g) (dL g) g none c [] 0 bs ⟨args++List.replicate (fn.ntmps-args.length) (.tuple []),rows,[]⟩ fun e s=>match e with
      | .normal=>Bq P fn s K
      | .ret=>Bq P fn s K
      | _=>none
    | none=>none
  | none=>none
def yp:List Tmp->List SV->List SV->List SV
  | t::ts,x::xs,tmps=>yp ts xs (tmps.set t x)
  | _,_,tmps=>tmps
def Kh (q:Nat) (j:Option Code) (rows:Rows) (K:SV->Rows->Option R):Option R:=
  match rows[q]? with
  | some (some (.loop L))=>match j with
    | none=>K (.aT (.bool true)) (rows.set q (some (.loop { L with state:=.ready,pending:=none })))
    | some c=>K (.aT (.bool false)) (rows.set q (some (.loop { L with state:=.done,pending:=some c })))
  | _=>none
def Ki (P:Program) (cE:sS) (dr:Array Oper->bX->(bX->Option R)->Option R) (N:Nat) (live:FuncId->Nat->Nat) (dL:FuncId->Nat->J0) (q:Nat) (args:List SV) (rows:Rows) (K:SV->Rows->Option R):Option R:=
  match rows[q]? with
  | some (some (.loop L))=>match aI P L.fn L.path with
    | some (.rangeFunc _ ps as bd)=>match Nat.beq args.length ps.size with
      | true=>eO P cE dr N (live L.fn) (dL L.fn) L.fn (some q) as (0::L.path) 0 rows.length ⟨yp ps.toList args L.tmps,rows,[]⟩ fun e s1=>match e with
        | .normal=>match s1.rows[q]? with
          | some (some (.loop L1))=>match L1.state with
            | .ready=>eO P cE dr N (live L.fn) (dL L.fn) L.fn (some q) bd (1::L.path) 0 s1.rows.length { s1 with rows:=s1.rows.set q (some (.loop { L1 with state:=.busy })) } fun e s2=>match e with
              | .normal=>Kh q none s2.rows K
              | .ret=>Kh q (some .ret) s2.rows K
              | .exit k=>Kh q (some (.exit k)) s2.rows K
              | .goto k=>Kh q (some (.goto k)) s2.rows K
              | _=>none
            | _=>none
          | _=>none
        | _=>none
      | false=>none
    | _=>none
  | _=>none
end
def IQ:SV->Option AV
  | .s (.o (.b x))=>E5 x
  | _=>none
def N_ (P:Program) (g:FuncId):Option CK:=
  match P.funcs[g]? with
  | some fn=>match fn.resultTypes.toList with
    | [t]=>kindOf P t
    | _=>none
  | none=>none
def jx (P:Program) (T:qG) (cm jn:FuncId->Bool) (dr:sS->(R:Type)->Array Oper->bX->(bX->Option R)->Option R) (N:Nat) (live:FuncId->Nat->Nat) (dL:FuncId->Nat->J0):Nat->Bool->sS
  | 0,_=>{ call:=fun _ _ _ _ _=>none,yield:=fun _ _ _ _ _=>none,ro:=fun _=>false }
  | k+1,ro=>
    { call:=fun R g args rows K=>match cm g with
        | true=>RH T g args rows K
        | false=>match jn g with
          | true=>match RG P g with
            | true=>match N_ P g with
              | some ck=>bO (Hu P (jx P T cm jn dr N live dL k true) (dr (jx P T cm jn dr N live dL k true) AV) N live dL g args rows fun y _=>IQ y) fun v=>E8 ck v fun c=>K (.s (.o c)) rows
              | none=>none
            | false=>none
          | false=>match ro with
            | true=>match RG P g with
              | true=>Hu P (jx P T cm jn dr N live dL k true) (dr (jx P T cm jn dr N live dL k true) R) N live dL g args rows K
              | false=>none
            | false=>Hu P (jx P T cm jn dr N live dL k false) (dr (jx P T cm jn dr N live dL k false) R) N live dL g args rows K
      yield:=fun R q args rows K=>match ro with
        | true=>none
        | false=>Ki P (jx P T cm jn dr N live dL k false) (dr (jx P T cm jn dr N live dL k false) R) N live dL q args rows K
      ro:=fun g=>cm g||jn g }
def ac6 (P:Program) (T:qG) (cm jn:FuncId->Bool) (dr:sS->(R:Type)->Array Oper->bX->(bX->Option R)->Option R) (N:Nat) (live:FuncId->Nat->Nat) (dL:FuncId->Nat->J0) (k:Nat):sS:=
  jx P T cm jn dr N live dL k false
end Go.Abs
end
noncomputable section
namespace Go.Abs
open Classical
theorem ll:∀ (d:List aa) (H:af),cB H (a_ d H).2
 | [],H=>cB.refl H
 | .v x::ls,H=>ll ls H
 | .fz n cs::ls,H=>ll ls H
 | .own aA n cs::ls,H=>by
  by_cases hn:n=0
  ·simp only [a_,hn,if_true];exact ll ls H
  ·simp only [a_,hn,if_false];exact (cB.push H _).trans (ll ls _)
def ji (cm:FuncId->Bool) (fs:fb):Prop:=∀ g args H y H',cm g=true->fs.call g args H=some (y,H')->cB H H'
theorem xx {P:Program} {T:qG} {cm:FuncId->Bool} (hT:iN P T cm) {g:FuncId} (hd:cm g=true) {args:List AV} {H H':af} {y:AV} (h:nD T g args H=some (y,H')):cB H H':=by
 unfold nD at h
 split at h
 ·rename_i ai gU hn
  split at h
  ·rename_i U1
   obtain ⟨d,h1,_,_⟩:=hT g ai _ _ _ hd U1 h
   rw [h1] at h
   split at h
   ·cases h
   ·simp only [Option.some.injEq,Prod.mk.injEq] at h
    obtain ⟨_,rfl⟩:=h
    exact ll d H
  ·cases h
 ·cases h
structure uv (P:Program) (fs:fb):Prop where
 call:∀ g args H y H',fs.call g args H=some (y,H')->cB H H'
 yield:∀ r args H,fs.yield r args H=none
 ext:∀ g args,fs.ext g args=none
 fz:fs.fz=DR P
section
variable {P : Program} {fs : fb} {ops : Array Oper} {ρ : Operand → AV} {H H' : af} {o : Oper} {y : AV} {σ σ' : St}
theorem Ot (hr:uv P fs) (ho:xU P o=true) (h:bj P fs ρ H o=some (y,H')):cB H H':=by
 unfold xU at ho
 split at ho
 ·rename_i hq
  rw [od hq h];exact cB.refl _
 ·unfold bj at h
  split at ho
  ·rename_i t xD
   simp only [xD,fi] at h
   split at h
   ·simp only [Option.some.injEq,Prod.mk.injEq] at h;obtain ⟨_,rfl⟩:=h;exact cB.push _ _
   ·cases h
  ·rename_i t x xD
   simp only [xD,fi] at h
   split at h
   ·simp only [Option.some.injEq,Prod.mk.injEq] at h;obtain ⟨_,rfl⟩:=h;exact cB.push _ _
   ·cases h
  ·rename_i t l c xD
   simp only [xD,fi,dY] at h
   repeat' (split at h)
   all_goals first
    | (cases h;done)
    | (simp only [Option.some.injEq,Prod.mk.injEq] at h;obtain ⟨_,rfl⟩:=h;exact cB.push _ _)
  ·rename_i t n ps xD
   have hb:DR P t=false:=by simpa using ho
   simp only [xD,hr.fz,hb,Bool.false_eq_true,if_false,fi,bC] at h
   repeat' (split at h)
   all_goals first
    | (cases h;done)
    | (simp only [Option.map_eq_some_iff,Prod.mk.injEq] at h;obtain ⟨cs,_,_,rfl⟩:=h;exact cB.push _ _)
  ·rename_i f args O4 xD
   simp only [xD] at h
   split at h
   ·simp only [jC,hr.ext] at h
    exact hr.call _ _ _ _ _ h
   ·rw [hr.yield] at h;cases h
   ·cases h
  ·cases ho
theorem Dx (hr:uv P fs) (ho:xU P o=true) (h:aZ P fs ops ρ H o=some (y,H')):cB H H':=by
 unfold aZ at h
 split at h
 ·exact Ot hr ho h
 ·simp only [Option.some.injEq,Prod.mk.injEq] at h;obtain ⟨_,rfl⟩:=h;exact cB.refl _
 ·cases h
def ln (σ σ':St):Prop:=cB σ.H σ'.H/\σ'.defers=σ.defers
theorem ln.refl (σ:St):ln σ σ:=⟨cB.refl _,rfl⟩
theorem ln.trans {A B D:St} (h:ln A B) (k:ln B D):ln A D:=⟨h.1.trans k.1,k.2.trans h.2⟩
theorem BN {Γ:bz} (hr:uv P fs):∀ (os:List Oper) (σ σ':St),os.all (xU P)=true->fc P Γ fs ops os σ=some σ'->ln σ σ'
 | [],σ,σ',_,h=>by simp only [fc,Option.some.injEq] at h;subst h;exact ln.refl _
 | o::os,σ,σ',ho,h=>by
  simp only [List.all_cons,Bool.and_eq_true] at ho
  simp only [fc] at h
  split at h
  ·rename_i y H' cA
   exact ln.trans (B:={ σ with tmps:=dt σ.tmps o.dst y,H:=H' }) ⟨Dx hr ho.1 cA,rfl⟩ (BN hr os _ _ ho.2 h)
  ·cases h
theorem jS {Γ:bz} {fp:B7} {Ms:List Nat} {aC:List (Option Tmp)} (hr:uv P fs):∀ (os:List Oper) (j:Nat) (acc fQ:List Rec),os.all (xU P)=true->
  dF fp P Γ fs ops Ms aC σ os j acc=some fQ->cB (aS σ.H acc) (aS σ.H fQ)
 | [],j,acc,fQ,_,h=>by simp only [dF,Option.some.injEq] at h;subst h;exact cB.refl _
 | o::os,j,acc,fQ,ho,h=>by
  simp only [List.all_cons,Bool.and_eq_true] at ho
  simp only [dF] at h
  split at h
  ·split at h
   ·have:=jS hr os _ _ _ ho.2 h
    simpa [aS] using this
   ·cases h
  ·split at h
   ·rename_i y H' cA
    split at h
    ·split at h
     ·have:=jS hr os _ _ _ ho.2 h
      simpa [aS] using this
     ·cases h
    ·split at h
     ·have:=jS hr os _ _ _ ho.2 h
      simpa [aS] using this
     split at h
     ·have:=jS hr os _ _ _ ho.2 h
      simp only [aS,if_true] at this
      exact (Dx hr ho.1 cA).trans this
     ·split at h
      ·split at h
       ·have:=jS hr os _ _ _ ho.2 h
        simpa [aS] using this
       ·cases h
      ·cases h
   ·cases h
theorem BO:∀ (rs:List Rec) (tmps:List AV) (H:af),cB H (cf rs tmps H).2
 | [],tmps,H=>cB.refl _
 | r::rs,tmps,H=>by
  simp only [cf]
  split
  ·exact (BO rs tmps H).trans (cB.push _ _)
  ·exact BO rs tmps H
theorem RY {α:Type} {p:α->Bool} {l:List α} (h:l.all p=true) (n:Nat):(l.take n).all p=true:=by
 rw [List.all_eq_true] at h ⊢
 exact fun x hx=>h x (List.mem_of_mem_take hx)
theorem RZ {α:Type} {p:α->Bool} {l:List α} (h:l.all p=true) (n:Nat):(l.drop n).all p=true:=by
 rw [List.all_eq_true] at h ⊢
 exact fun x hx=>h x (List.mem_of_mem_drop hx)
theorem KB {Γ:bz} {fp:B7} (hr:uv P fs) (ho:ops.toList.all (xU P)=true) (h:m9 fp P Γ fs ops σ=some σ'):ln σ σ':=by
 unfold m9 at h
 split at h
 ·simp only at h
  split at h
  ·split at h
   ·rename_i acc xK
    have h1:=jS hr _ _ _ _ (RY ho _) xK
    have h2:=BO acc (bJ σ.tmps acc) (aS σ.H acc)
    exact ln.trans (B:={ σ with tmps:=(cf acc (bJ σ.tmps acc) (aS σ.H acc)).1,H:=(cf acc (bJ σ.tmps acc) (aS σ.H acc)).2 }) ⟨h1.trans h2,rfl⟩ (BN hr _ _ _ (RZ ho _) h)
   ·cases h
  ·cases h
 ·cases h
theorem R0 {o:Oper} (h:DL o.op=true):xU P o=false:=by
 unfold DL at h
 unfold xU quietAt
 cases ho:o.op<;>rw [ho] at h<;>simp_all [iU]
theorem sJ {Γ:bz} {fp:B7} (hr:uv P fs) (ho:ops.toList.all (xU P)=true) (h:uS fp P Γ fs ops σ=some σ'):ln σ σ':=by
 unfold uS at h
 split at h
 ·rename_i hl
  exfalso
  unfold Pf at hl
  split at hl
  ·split at hl
   ·rename_i o o' e1 e2
    simp only [Bool.and_eq_true] at hl
    have h1:=hl.1.1.1.1.2
    have h2:=List.all_eq_true.1 ho o (List.mem_of_getElem? e1)
    rw [R0 h1] at h2;cases h2
   ·cases hl
  ·cases hl
 ·exact KB hr ho h
theorem Dy {step:St->Option (Exit × St)} (hs:∀ σ e σ',step σ=some (e,σ')->ln σ σ'):∀ n σ e σ',fo step n σ=some (e,σ')->ln σ σ'
 | 0,σ,e,σ',h=>by cases h
 | n+1,σ,e,σ',h=>by
  simp only [fo] at h
  split at h
  ·rename_i σ1 h1
   exact (hs _ _ _ h1).trans (Dy hs n _ _ _ h)
  ·exact hs _ _ _ h
theorem Dz {dr:Array Oper->St->Option St} {lf:Nat} (hr:uv P fs) (zg:∀ ops σ σ',ops.toList.all (xU P)=true->dr ops σ=some σ'->ln σ σ'):
  ∀ (c:Code),fZ P c=true->∀ (σ:St) (e:Exit) (σ':St),aV P (fun _=>none) fs dr lf none c σ=some (e,σ')->ln σ σ':=by
 intro c
 induction c with
 | region id ops d=>
  intro hc σ e σ' h
  simp only [fZ] at hc
  simp only [aV] at h
  cases d with
  | true=>
   simp only at h
   split at h
   ·rename_i σ1 h1
    simp only [Option.some.injEq,Prod.mk.injEq] at h;obtain ⟨_,rfl⟩:=h
    exact zg _ _ _ hc h1
   ·cases h
  | false=>
   simp only at h
   split at h
   ·rename_i σ1 h1
    simp only [Option.some.injEq,Prod.mk.injEq] at h;obtain ⟨_,rfl⟩:=h
    exact BN hr _ _ _ hc h1
   ·cases h
 | seq x y xz CF=>
  intro hc σ e σ' h
  simp only [fZ,Bool.and_eq_true] at hc
  simp only [aV] at h
  split at h
  ·rename_i σ1 h1
   exact (xz hc.1 _ _ _ h1).trans (CF hc.2 _ _ _ h)
  ·exact xz hc.1 _ _ _ h
 | cond b x y xz CF=>
  intro hc σ e σ' h
  simp only [fZ,Bool.and_eq_true] at hc
  simp only [aV] at h
  split at h
  ·exact xz hc.1 _ _ _ h
  ·exact CF hc.2 _ _ _ h
  ·cases h
 | block id x ih=>
  intro hc σ e σ' h
  simp only [fZ] at hc
  simp only [aV] at h
  split at h
  ·rename_i k σ1 h1
   split at h
   ·simp only [Option.some.injEq,Prod.mk.injEq] at h;obtain ⟨_,rfl⟩:=h;exact ih hc _ _ _ h1
   ·simp only [Option.some.injEq,Prod.mk.injEq] at h;obtain ⟨_,rfl⟩:=h;exact ih hc _ _ _ h1
  ·exact ih hc _ _ _ h
 | loop x ih=>
  intro hc σ e σ' h
  simp only [fZ] at hc
  simp only [aV] at h
  exact Dy (fun σ e σ' h=>ih hc σ e σ' h) _ _ _ _ h
 | scope x ih=>
  intro hc σ e σ' h
  simp only [fZ] at hc
  simp only [aV] at h
  split at h
  ·cases h
  ·exact ih hc _ _ _ h
 | skip=>intro hc σ e σ' h;simp only [aV,Option.some.injEq,Prod.mk.injEq] at h;obtain ⟨_,rfl⟩:=h;exact ln.refl _
 | label l=>intro hc σ e σ' h;simp only [aV,Option.some.injEq,Prod.mk.injEq] at h;obtain ⟨_,rfl⟩:=h;exact ln.refl _
 | exit l=>intro hc σ e σ' h;simp only [aV,Option.some.injEq,Prod.mk.injEq] at h;obtain ⟨_,rfl⟩:=h;exact ln.refl _
 | goto l=>intro hc σ e σ' h;simp only [aV,Option.some.injEq,Prod.mk.injEq] at h;obtain ⟨_,rfl⟩:=h;exact ln.refl _
 | ret=>intro hc σ e σ' h;simp only [aV,Option.some.injEq,Prod.mk.injEq] at h;obtain ⟨_,rfl⟩:=h;exact ln.refl _
 | _=>intro hc;simp [fZ] at hc
theorem vX {dr:Array Oper->St->Option St} {lf:Nat} (hr:uv P fs) (zg:∀ ops σ σ',ops.toList.all (xU P)=true->dr ops σ=some σ'->ln σ σ') {g:FuncId} (hg:RG P g=true) {args:List AV}
  (h:mA P (aV P (fun _=>none) fs dr lf none) g args H=some (y,H')):cB H H':=by
 have fin:∀ (fn:Func) (σ1:St),ln { tmps:=args++List.replicate (fn.ntmps-args.length) (cM undef),H:=H,defers:=[] } σ1->iE P fn σ1=some (y,H')->cB H H':=by
  intro fn σ1 hs hl
  unfold iE at hl
  have hd:σ1.defers=[]:=hs.2
  rw [hd] at hl
  simp only [gQ] at hl
  split at hl
  ·simp only [Option.some.injEq,Prod.mk.injEq] at hl;obtain ⟨_,rfl⟩:=hl;exact hs.1
  ·cases hl
 unfold RG at hg
 unfold mA at h
 split at h
 ·rename_i fn K5
  simp only [K5] at hg
  split at h
  ·rename_i c hc
   simp only [hc] at hg
   split at h
   ·rename_i σ1 h1;exact fin fn σ1 (Dz hr zg c hg _ _ _ h1) h
   ·rename_i σ1 h1;exact fin fn σ1 (Dz hr zg c hg _ _ _ h1) h
   ·cases h
  ·cases h
 ·cases h
end
theorem ue {P:Program} {T:qG} {cm jn:FuncId->Bool} {N:Nat} (hT:iN P T cm):∀ k,uv P (gy P T cm jn N k true)
 | 0=>⟨fun _ _ _ _ _ h=>by simp [gy] at h,fun _ _ _=>rfl,fun _ _=>rfl,rfl⟩
 | k+1=>by
  have ih:=ue (jn:=jn) (N:=N) hT k
  refine ⟨fun g args H y H' h=>?_,fun _ _ _=>rfl,fun _ _=>rfl,rfl⟩
  simp only [gy,Bool.true_or] at h
  split at h
  ·rename_i hd;exact xx hT hd h
  ·split at h
   ·rename_i hg;exact vX ih (fun ops σ σ' ho h=>sJ ih ho h) hg h
   ·cases h
section
variable {P : Program} {T : qG} {cm jn : FuncId → Bool} {N : Nat}
theorem He (hT:iN P T cm) (ro:Bool):∀ k,ji (fun g=>cm g||jn g) (gy P T cm jn N k ro)
 | 0=>fun g args H y H' hd h=>by cases h
 | k+1=>fun g args H y H' hd h=>by
  simp only [gy] at h
  split at h
  ·rename_i B_;exact xx hT B_ h
  ·rename_i B_
   have hj:jn g=true:=by simpa [B_] using hd
   simp only [hj,Bool.or_true] at h
   split at h
   ·rename_i hg;exact vX (ue hT k) (fun ops σ σ' ho h=>sJ (ue hT k) ho h) hg h
   ·cases h
def qn (td:FuncId->Bool) (fs:fb):Prop:=∀ g args H y H',td g=true->(∀ x∈args,Pure x)->fs.call g args H=some (y,H')->Pure y->∀ H2,fs.call g args H2=some (y,H2)
theorem pD {H H2:af} {x:AV} (hp:Pure x) {p:AV × Bool} (h:cg H x=some p):cg H2 x=some p/\p.2=false:=by
 unfold cg at h ⊢
 split at h
 ·cases hp
 ·simp only [Option.some.injEq] at h;subst h;exact ⟨rfl,rfl⟩
 ·split at h
  ·simp only [Option.some.injEq] at h;subst h
   rename_i hc
   exact ⟨if_pos hc,rfl⟩
  ·cases h
theorem nR {H H2:af}:∀ {xs:List AV},(∀ x∈xs,Pure x)->∀ {p:List AV × Bool},da H xs=some p->da H2 xs=some p/\p.2=false
 | [],_,p,h=>by simp only [da,Option.some.injEq] at h;subst h;exact ⟨rfl,rfl⟩
 | x::xs,hp,p,h=>by
  simp only [da] at h
  split at h
  ·rename_i y b ys b' h1 h2
   obtain ⟨k1,k2⟩:=pD (H2:=H2) (hp x List.mem_cons_self) h1
   obtain ⟨k3,k4⟩:=nR (H2:=H2) (fun x hx=>hp x (List.mem_cons_of_mem _ hx)) h2
   simp only [Option.some.injEq] at h;subst h
   simp only at k2 k4
   exact ⟨by simp only [da,k1,k3],by simp [k2,k4]⟩
  ·cases h
theorem pE {H H2:af}:∀ {xs:List AV},(∀ x∈xs,Pure x)->∀ {p:List AV × Bool},normArgs H xs=some p->normArgs H2 xs=some p/\p.2=false
 | [],_,p,h=>by simp only [normArgs,Option.some.injEq] at h;subst h;exact ⟨rfl,rfl⟩
 | x::xs,hp,p,h=>by
  simp only [normArgs] at h
  split at h
  ·rename_i y b ys b' h1 h2
   have k:normArg H2 x=some (y,b)/\b=false:=by
    have hx:=hp x List.mem_cons_self
    unfold normArg at h1 ⊢
    split at h1
    ·rename_i cs
     split at h1
     ·rename_i zs c h3
      obtain ⟨j1,j2⟩:=nR (H2:=H2) (by cases hx;assumption) h3
      simp only [Option.some.injEq,Prod.mk.injEq] at h1
      obtain ⟨rfl,rfl⟩:=h1
      exact ⟨by simp only [j1],j2⟩
     ·cases h1
    ·exact pD hx h1
   obtain ⟨k1,k2⟩:=k
   obtain ⟨k3,k4⟩:=pE (H2:=H2) (fun x hx=>hp x (List.mem_cons_of_mem _ hx)) h2
   simp only [Option.some.injEq] at h;subst h
   simp only at k4
   exact ⟨by simp only [normArgs,k1,k3],by simp [k2,k4]⟩
  ·cases h
theorem lU {H H2:af}:∀ (d:List aa),(∀ x∈(a_ d H).1,Pure x)->a_ d H2=((a_ d H).1,H2)
 | [],_=>rfl
 | .v x::ls,h=>by
  have:=lU (H:=H) (H2:=H2) ls fun y hy=>h y (by simp only [a_];exact List.mem_cons_of_mem _ hy)
  simp only [a_,this]
 | .fz n cs::ls,h=>by
  have:=lU (H:=H) (H2:=H2) ls fun y hy=>h y (by simp only [a_];exact List.mem_cons_of_mem _ hy)
  simp only [a_,this]
 | .own e n cs::ls,h=>by
  by_cases hn:n=0
  ·have:=lU (H:=H) (H2:=H2) ls fun y hy=>h y (by simp only [a_,if_pos hn];exact List.mem_cons_of_mem _ hy)
   simp only [a_,if_pos hn,this]
  ·have:=h (.slice H.n 0 n e) (by simp only [a_,if_neg hn];exact List.mem_cons_self)
   cases this
theorem HO {xs:List AV} (h:Pure (eV xs)):∀ x∈xs,Pure x:=by
 unfold eV at h
 split at h
 ·intro x hx
  rw [List.mem_singleton] at hx;subst hx;exact h
 ·cases h with | tuple _ h=>exact h
theorem NR (hT:iN P T cm) (ro:Bool):∀ k,qn cm (gy P T cm jn N k ro)
 | 0=>fun g args H y H' hd ha h=>by cases h
 | k+1=>fun g args H y H' hd ha h hy H2=>by
  simp only [gy,hd] at h ⊢
  unfold nD at h ⊢
  split at h
  ·rename_i ai gU hn
   obtain ⟨k1,k2⟩:=pE (H2:=H2) ha hn
   simp only at k2
   subst k2
   simp only [k1]
   split at h
   ·rename_i U1
    rw [if_pos U1]
    obtain ⟨d,B_,hl,_⟩:=hT g ai (AV × af) _ _ hd U1 h
    rw [B_] at h ⊢
    simp only [Bool.false_eq_true,false_and,if_false,Option.some.injEq,Prod.mk.injEq] at h ⊢
    obtain ⟨rfl,_⟩:=h
    have:=lU (H:=H) (H2:=H2) d (HO hy)
    rw [this]
    exact ⟨rfl,rfl⟩
   ·cases h
  ·cases h
end
end Go.Abs
end
noncomputable section
namespace Go.Abs
open Classical
section
variable {C : cp} {ι : Nat → Nat} {rows : Rows} {H : af} {P : Program} {R : Type} {r : R} {fs : fb} {cE : sS} {T : qG} {cm : FuncId → Bool} {N : Nat}
theorem gl {v:AV} (hp:Pure v) (h1:∀ cs,v≠.agg cs) (h2:v≠.av) (h3:∀ r o l e,v≠.slice r o l e):cg H v=some (v,false):=by
 unfold cg
 split
 ·exact absurd rfl (h3 _ _ _ _)
 ·exact absurd rfl h2
 ·rw [if_pos ⟨hp,h1⟩]
theorem Dl {v:AV} (hc:Cell v):cg H v=some (v,false):=by
 refine gl hc.pure ?_ ?_ ?_<;>cases hc<;>simp
theorem L3 (hE:aE C ι rows H) {x:S2} {v a:AV} {b:Bool} (hx:R2 ι rows x v) (h:Hp rows x=some (a,b)):∃ b',cg H v=some (a,b')/\(b'=true->b=true):=by
 unfold Hp at h
 split at h
 ·rename_i x
  split at h
  ·rename_i q aW aA
   split at h
   ·rename_i nb v' es n cs aG
    split at h
    ·rename_i ef
     have ef:=Nat.eq_of_beq_eq_true ef
     subst ef
     simp only [Option.some.injEq,Prod.mk.injEq] at h
     obtain ⟨rfl,rfl⟩:=h
     have hx:R1 ι rows (.own q aW aA) v:=hx
     obtain ⟨e,hv⟩:=(hx.2 _ _ _ _ (dk aG)).2 rfl
     obtain ⟨g1,g2,g3⟩:=hE.row _ _ aG
     subst e
     subst hv
     refine ⟨decide (¬ (nb=true/\n=0)),?_,fun _=>rfl⟩
     unfold dc
     by_cases hn:nb=true/\n=0
     ·rw [if_pos hn]
      have:cs=[]:=by rw [hn.2,Nat.zero_mul] at g1;exact List.eq_nil_of_length_eq_zero g1
      simp [cg,hn,this]
     ·rw [if_neg hn]
      simp only [cg,fG (g3 hn)]
      rw [if_pos ⟨by rw [g1];omega,g2⟩]
      simp only [List.drop_zero]
      rw [List.take_of_length_le (by omega)]
      simp [hn]
    ·cases h
   ·cases h
  ·rename_i q aW off n aA
   split at h
   ·rename_i nb v' es m cs aG
    split at h
    ·rename_i ef
     have ef:=Nat.eq_of_beq_eq_true ef
     subst ef
     simp only [Option.some.injEq,Prod.mk.injEq] at h
     obtain ⟨rfl,rfl⟩:=h
     have hx:R1 ι rows (.sub q aW off n aA) v:=hx
     obtain ⟨e,hle,hv⟩:=(hx.2 _ _ _ _ (dk aG)).2 rfl
     obtain ⟨g1,g2,g3⟩:=hE.row _ _ aG
     subst e
     have hl:off*aA+n*aA<=cs.length:=by rw [g1,←Nat.add_mul];exact Nat.mul_le_mul_right _ hle
     unfold mS at hv
     split at hv
     ·rename_i hn
      have:n=0:=by omega
      subst hv;subst this
      exact ⟨false,by simp [cg],fun h=>by cases h⟩
     ·rename_i hn
      rcases hv with hv | ⟨n9,hv⟩
      ·subst hv
       refine ⟨true,?_,fun _=>rfl⟩
       simp only [cg,fG (g3 hn)]
       rw [if_pos ⟨hl,g2⟩]
      ·subst hv;subst n9
       exact ⟨false,by simp only [Nat.zero_mul,List.take_zero];exact Dl (.list 0 [] fun x hx=>(by cases hx)),fun h=>by cases h⟩
    ·cases h
   ·cases h
  ·rename_i q off n aA
   split at h
   ·rename_i cs aG
    split at h
    ·rename_i us RD
     split at h
     ·rename_i hb
      rw [Nat.ble_eq] at hb
      simp only [Option.some.injEq,Prod.mk.injEq] at h
      obtain ⟨rfl,rfl⟩:=h
      have hx:R1 ι rows (.fX q off n aA) v:=hx
      have hv:=hx.2 (iP aG)
      subst hv
      obtain ⟨dE,g1,g2⟩:=hE.row _ _ aG
      obtain ⟨e,hc⟩:=eP g2 RD
      subst e
      refine ⟨true,?_,fun _=>rfl⟩
      simp only [cg,fG g1]
      rw [if_pos ⟨hb,hc⟩]
     ·cases h
    ·cases h
   ·cases h
  ·have hx:v=.av:=hx
   simp only [Option.some.injEq,Prod.mk.injEq] at h
   obtain ⟨rfl,rfl⟩:=h
   exact ⟨false,by rw [hx];rfl,fun h=>h⟩
  ·have hx:v=.bI:=hx
   simp only [Option.some.injEq,Prod.mk.injEq] at h
   obtain ⟨rfl,rfl⟩:=h
   exact ⟨false,by rw [hx];exact gl .bI (by simp) (by simp) (by simp),fun h=>h⟩
  ·have hx:v=.nilFunc:=hx
   simp only [Option.some.injEq,Prod.mk.injEq] at h
   obtain ⟨rfl,rfl⟩:=h
   exact ⟨false,by rw [hx];exact gl .nilFunc (by simp) (by simp) (by simp),fun h=>h⟩
  ·rename_i cs off
   have hx:R1 ι rows (.fm cs off) v:=hx
   simp only [Option.some.injEq,Prod.mk.injEq] at h
   obtain ⟨rfl,rfl⟩:=h
   exact ⟨false,by rw [hx.1];exact gl (.dK _ _ fun x hx'=>(hx.2 x hx').pure) (by simp) (by simp) (by simp),fun h=>h⟩
  ·split at h
   ·rename_i u hu
    simp only [Option.some.injEq,Prod.mk.injEq] at h
    obtain ⟨rfl,rfl⟩:=h
    obtain ⟨e,hc⟩:=ib (show R1 ι rows _ v from hx) hu
    rw [e]
    exact ⟨false,Dl hc,fun h=>h⟩
   ·cases h
 ·split at h
  ·rename_i f
   simp only [Option.some.injEq,Prod.mk.injEq] at h
   obtain ⟨rfl,rfl⟩:=h
   obtain ⟨cX,nU,e,h1,h2⟩:=hx
   cases h1;cases h2
   rw [e]
   exact ⟨false,gl (.func _ _ _ (by simp) (by simp)) (by simp) (by simp) (by simp),fun h=>h⟩
  ·cases h
theorem Hv (hE:aE C ι rows H):∀ {xs:List S2} {vs as:List AV} {b:Bool},aQ (R2 ι rows) xs vs->pj rows xs=some (as,b)->∃ b',da H vs=some (as,b')/\(b'=true->b=true)
 | [],[],as,b,_,h=>by
  simp only [pj,Option.some.injEq,Prod.mk.injEq] at h
  obtain ⟨rfl,rfl⟩:=h
  exact ⟨false,rfl,fun h=>h⟩
 | x::xs,v::vs,as,b,.cons hx ht,h=>by
  simp only [pj] at h
  split at h
  ·rename_i y b1 ys b2 h1 h2
   simp only [Option.some.injEq,Prod.mk.injEq] at h
   obtain ⟨rfl,rfl⟩:=h
   obtain ⟨c1,k1,k2⟩:=L3 hE hx h1
   obtain ⟨c2,k3,k4⟩:=Hv hE ht h2
   refine ⟨c1||c2,by simp only [da,k1,k3],fun h=>?_⟩
   rcases Bool.or_eq_true_iff.1 h with h | h
   ·simp [k2 h]
   ·simp [k4 h]
  ·cases h
theorem Cl {v:AV} (h:∀ cs,v≠.agg cs):normArg H v=cg H v:=by
 unfold normArg
 split
 ·exact absurd rfl (h _)
 ·rfl
theorem U2 (hE:aE C ι rows H) {x:SV} {v a:AV} {b:Bool} (hx:RV ι rows x v) (h:N7 rows x=some (a,b)):∃ b',normArg H v=some (a,b')/\(b'=true->b=true):=by
 unfold N7 at h
 split at h
 ·obtain ⟨b',k1,k2⟩:=L3 hE hx h
  refine ⟨b',?_,k2⟩
  rw [Cl]
  ·exact k1
  ·rintro cs rfl
   simp [cg] at k1
 ·split at h
  ·rename_i ys b1 h1
   simp only [Option.some.injEq,Prod.mk.injEq] at h
   obtain ⟨rfl,rfl⟩:=h
   obtain ⟨dE,e,cR⟩:=hx
   obtain ⟨b',k1,k2⟩:=Hv hE cR h1
   exact ⟨b',by rw [e];simp only [normArg,k1],k2⟩
  ·cases h
 ·cases h
theorem Hw (hE:aE C ι rows H):∀ {xs:List SV} {vs as:List AV} {b:Bool},aQ (RV ι rows) xs vs->xk rows xs=some (as,b)->∃ b',normArgs H vs=some (as,b')/\(b'=true->b=true)
 | [],[],as,b,_,h=>by
  simp only [xk,Option.some.injEq,Prod.mk.injEq] at h
  obtain ⟨rfl,rfl⟩:=h
  exact ⟨false,rfl,fun h=>h⟩
 | x::xs,v::vs,as,b,.cons hx ht,h=>by
  simp only [xk] at h
  split at h
  ·rename_i y b1 ys b2 h1 h2
   simp only [Option.some.injEq,Prod.mk.injEq] at h
   obtain ⟨rfl,rfl⟩:=h
   obtain ⟨c1,k1,k2⟩:=U2 hE hx h1
   obtain ⟨c2,k3,k4⟩:=Hw hE ht h2
   refine ⟨c1||c2,by simp only [normArgs,k1,k3],fun h=>?_⟩
   rcases Bool.or_eq_true_iff.1 h with h | h
   ·simp [k2 h]
   ·simp [k4 h]
  ·cases h
theorem lS {x:AV} (h:∀ n cs,x=.list n cs->∀ c∈cs,Cell c) (h':∀ n cs,x=.nl n cs->∀ c∈cs,Cell c):R1 ι rows (lQ x) x:=by
 unfold lQ
 split
 all_goals first
  | rfl
  | exact ⟨rfl,h _ _ rfl⟩
  | exact ⟨rfl,h' _ _ rfl⟩
theorem Kj {x:AV} (h:gT (.v x)):R3 ι rows (Kg x) x:=by
 obtain ⟨h1,h2,h3⟩:=h
 unfold Kg
 split
 ·rename_i cs
  refine ⟨cs,rfl,?_⟩
  have:=aQ.of_map (R:=R2 ι rows) (fun c=>.b (lQ c)) id cs fun c hc=>(lS (x:=c) (fun n dE e=>by
   have:=h3 cs rfl c hc
   subst e
   cases this with
   | list _ _ h=>exact h) (fun n dE e=>by
   have:=h3 cs rfl c hc
   subst e
   cases this with
   | nl _ _ h=>exact h))
  simpa using this
 ·trivial
 ·rename_i hn
  exact lS h2 fun n cs e=>absurd e (hn n cs)
theorem po:∀ (d:List aa) (ι:Nat->Nat) (rows:Rows) (H:af) (K:List S3->Rows->Option R),aE C ι rows H->(∀ l∈d,gT l)->Ht d rows K=some r->
  ∃ ys ah ι',aE C ι' ah (a_ d H).2/\aQ (R3 ι' ah) ys (a_ d H).1/\Le ι rows ι' ah/\K ys ah=some r
 | [],ι,rows,H,K,hE,hl,h=>⟨[],rows,ι,hE,.nil,Le.refl _ _,h⟩
 | .v x::ls,ι,rows,H,K,hE,hl,h=>by
  obtain ⟨ys,ah,ι',k1,k2,k3,k4⟩:=po ls ι rows H _ hE (fun l nJ=>hl l (List.mem_cons_of_mem _ nJ)) h
  exact ⟨_,ah,ι',k1,.cons (Kj (hl _ List.mem_cons_self)) k2,k3,k4⟩
 | .fz n cs::ls,ι,rows,H,K,hE,hl,h=>by
  obtain ⟨ys,ah,ι',k1,k2,k3,k4⟩:=po ls ι rows H _ hE (fun l nJ=>hl l (List.mem_cons_of_mem _ nJ)) h
  exact ⟨.o (.b (.list n cs))::ys,ah,ι',k1,.cons (show R1 ι' ah (.list n cs) _ from ⟨rfl,hl _ List.mem_cons_self⟩) k2,k3,k4⟩
 | .own aA n cs::ls,ι,rows,H,K,hE,hl,h=>by
  have ho:=hl _ List.mem_cons_self
  have hls:∀ l∈ls,gT l:=fun l nJ=>hl l (List.mem_cons_of_mem _ nJ)
  by_cases hn:n=0
  ·subst hn
   have te:cs=[]:=by have:=ho.1;rw [Nat.zero_mul] at this;exact List.eq_nil_of_length_eq_zero this
   subst te
   obtain ⟨ys,ah,ι',k1,k2,k3,k4⟩:=po ls ι _ H _ (hE.ghost aA) hls h
   have Cc:=nE ι rows (some (.vec true 0 aA 0 []))
   refine ⟨_,ah,ι',by simp only [a_,if_true];exact k1,?_,Cc.trans k3,k4⟩
   simp only [a_,if_true]
   refine .cons (k3.r3 (x:=.o (.b (.own rows.length 0 aA))) ?_) k2
   refine ⟨by simp,fun m5 v' e' n' hs=>?_⟩
   unfold sg at hs
   rw [List.getElem?_append_right (Nat.le_refl _)] at hs
   simp only [Nat.sub_self,List.getElem?_cons_zero,Option.some.injEq,Prod.mk.injEq] at hs
   obtain ⟨rfl,rfl,rfl,rfl⟩:=hs
   exact ⟨Nat.le_refl _,fun _=>⟨rfl,by simp [dc]⟩⟩
  ·obtain ⟨ys,ah,ι',k1,k2,k3,k4⟩:=po ls _ _ _ _ (ud hE (nb:=true) ho.1 ho.2) hls h
   have Cc:=jr ι rows (some (.vec true 0 aA n cs)) H.n
   refine ⟨_,ah,ι',by simp only [a_,if_neg hn];exact k1,?_,Cc.trans k3,k4⟩
   simp only [a_,if_neg hn]
   refine .cons (k3.r3 (x:=.o (.b (.own rows.length 0 aA))) ?_) k2
   have:=yr (ι:=ι) (rows:=rows) (b:=H.n) (nb:=true) (aA:=aA) (n:=n) (cs:=cs)
   unfold dc at this
   rw [if_neg (by rintro ⟨_,h⟩;exact hn h)] at this
   exact this
theorem Hx {xs:List S3} {vs:List AV} (h:aQ (R3 ι rows) xs vs):RV ι rows (aaD xs) (eV vs):=by
 cases h with
 | nil=>exact ⟨[],rfl,.nil⟩
 | cons h t=>cases t with
  | nil=>exact h
  | cons h2 t=>exact ⟨_,rfl,.cons h (.cons h2 t)⟩
theorem Br {x:S2} {v a:AV} {b:Bool} (hE:aE C ι rows H) (hx:R2 ι rows x v) (h:Hp rows x=some (a,b)):uZ a:=by
 unfold Hp at h
 split at h
 ·rename_i x
  split at h
  ·split at h
   ·rename_i nb v' es n cs aG
    split at h
    ·simp only [Option.some.injEq,Prod.mk.injEq] at h
     obtain ⟨rfl,rfl⟩:=h
     exact (hE.row _ _ aG).2.1
    ·cases h
   ·cases h
  ·split at h
   ·rename_i nb v' es m cs aG
    split at h
    ·simp only [Option.some.injEq,Prod.mk.injEq] at h
     obtain ⟨rfl,rfl⟩:=h
     exact fun c hc=>(hE.row _ _ aG).2.1 c (List.mem_of_mem_drop (List.mem_of_mem_take hc))
    ·cases h
   ·cases h
  ·split at h
   ·rename_i cs aG
    split at h
    ·rename_i us RD
     split at h
     ·simp only [Option.some.injEq,Prod.mk.injEq] at h
      obtain ⟨rfl,rfl⟩:=h
      obtain ⟨dE,g1,g2⟩:=hE.row _ _ aG
      obtain ⟨_,hc⟩:=eP g2 RD
      exact fun c KZ=>hc c (List.mem_of_mem_drop (List.mem_of_mem_take KZ))
     ·cases h
    ·cases h
   ·cases h
  ·simp only [Option.some.injEq,Prod.mk.injEq] at h
   obtain ⟨rfl,rfl⟩:=h
   exact fun c hc=>by cases hc
  ·simp only [Option.some.injEq,Prod.mk.injEq] at h
   obtain ⟨rfl,rfl⟩:=h
   trivial
  ·simp only [Option.some.injEq,Prod.mk.injEq] at h
   obtain ⟨rfl,rfl⟩:=h
   trivial
  ·rename_i cs off
   simp only [Option.some.injEq,Prod.mk.injEq] at h
   obtain ⟨rfl,rfl⟩:=h
   have hx:R1 ι rows (.fm cs off) v:=hx
   exact hx.2
  ·split at h
   ·rename_i u hu
    simp only [Option.some.injEq,Prod.mk.injEq] at h
    obtain ⟨rfl,rfl⟩:=h
    obtain ⟨_,hc⟩:=ib (show R1 ι rows _ v from hx) hu
    cases hc<;>first | trivial | assumption
   ·cases h
 ·split at h
  ·simp only [Option.some.injEq,Prod.mk.injEq] at h
   obtain ⟨rfl,rfl⟩:=h
   trivial
  ·cases h
theorem xl (hE:aE C ι rows H):∀ {xs:List S2} {vs as:List AV} {b:Bool},aQ (R2 ι rows) xs vs->pj rows xs=some (as,b)->∀ a∈as,uZ a
 | [],[],as,b,_,h=>by
  simp only [pj,Option.some.injEq,Prod.mk.injEq] at h
  obtain ⟨rfl,rfl⟩:=h
  exact fun a ha=>by cases ha
 | x::xs,v::vs,as,b,.cons hx ht,h=>by
  simp only [pj] at h
  split at h
  ·rename_i y b1 ys b2 h1 h2
   simp only [Option.some.injEq,Prod.mk.injEq] at h
   obtain ⟨rfl,rfl⟩:=h
   intro a ha
   rcases List.mem_cons.1 ha with rfl | ha
   ·exact Br hE hx h1
   ·exact xl hE ht h2 a ha
  ·cases h
theorem Oa {x:AV} (h:uZ x):lG x:=by
 unfold lG
 split
 ·exact h.elim
 ·exact h
theorem xm (hE:aE C ι rows H):∀ {xs:List SV} {vs as:List AV} {b:Bool},aQ (RV ι rows) xs vs->xk rows xs=some (as,b)->∀ a∈as,lG a
 | [],[],as,b,_,h=>by
  simp only [xk,Option.some.injEq,Prod.mk.injEq] at h
  obtain ⟨rfl,rfl⟩:=h
  exact fun a ha=>by cases ha
 | x::xs,v::vs,as,b,.cons hx ht,h=>by
  simp only [xk] at h
  split at h
  ·rename_i y b1 ys b2 h1 h2
   simp only [Option.some.injEq,Prod.mk.injEq] at h
   obtain ⟨rfl,rfl⟩:=h
   intro a ha
   rcases List.mem_cons.1 ha with rfl | ha
   ·unfold N7 at h1
    split at h1
    ·exact Oa (Br hE hx h1)
    ·split at h1
     ·rename_i ys' b3 h3
      simp only [Option.some.injEq,Prod.mk.injEq] at h1
      obtain ⟨rfl,rfl⟩:=h1
      obtain ⟨dE,e,cR⟩:=hx
      exact xl hE cR h3
     ·cases h1
    ·cases h1
   ·exact xm hE ht h2 a ha
  ·cases h
theorem RI (hT:iN P T cm) {g:FuncId} (hd:cm g=true) {args:List SV} {ai:List AV} {K:SV->Rows->Option R} (hE:aE C ι rows H) (ha:aQ (RV ι rows) args ai) (h:RH T g args rows K=some r):
  bK C ι rows (nD T g ai H) K r:=by
 unfold RH at h
 split at h
 ·rename_i as gU has
  obtain ⟨b',k1,k2⟩:=Hw hE ha has
  have U1:=xm hE ha has
  obtain ⟨d,d1,d2,d3⟩:=hT g as R _ r hd U1 h
  rw [d1] at h
  split at h
  ·cases h
  ·rename_i hb
   obtain ⟨ys,ah,ι',l1,l2,l3,l4⟩:=po d ι rows H _ hE d2 h
   refine ⟨_,_,_,ah,ι',?_,l1,Hx l2,l3,l4⟩
   unfold nD
   simp only [k1]
   rw [if_pos U1,d1,if_neg]
   rintro ⟨e1,e2⟩
   rw [k2 e1,e2] at hb
   simp at hb
 ·cases h
theorem aE.U3 (hE:aE C ι rows H) {d:Nat} (h0:rows[d]?=some (some .deferred)):aE C ι (rows.set d none) (H.kill (ι d))/\Le ι rows ι (rows.set d none):=by
 have cC:=bQ h0
 have hd:H.get (ι d)=some .deferred:=hE.row _ _ h0
 have hn:=af.cT hd
 have sgd:sg rows d=none:=by unfold sg;rw [h0]
 have Rr:sg (rows.set d none) d=none:=by unfold sg;rw [List.getElem?_set_self cC]
 have le:Le ι rows ι (rows.set d none):=Le.of (by simp) fun s hs=>.inl ⟨rfl,by
  by_cases e:d=s
  ·subst e;rw [sgd,Rr]
  ·exact eK e⟩
 have split:∀ s row,(rows.set d none)[s]?=some (some row)->s≠d/\rows[s]?=some (some row):=by
  intro s row h
  by_cases e:d=s
  ·subst e;rw [List.getElem?_set_self cC] at h;cases h
  ·rw [List.getElem?_set_ne e] at h;exact ⟨fun h=>e h.symm,h⟩
 refine ⟨⟨fun s row h=>?_,fun s s' row cS h h' hr gL e=>?_,by simp [af.kill,hE.ok],hE.fH⟩,le⟩
 ·obtain ⟨ek,h⟩:=split s row h
  refine (hE.row s row h).mono le (fun hr=>⟨rfl,fun ar ha=>?_⟩) fun p hp ER=>⟨rfl,?_⟩
  ·rw [af.fa hE.ok hn,if_neg]
   ·exact ha
   ·intro e;exact ek (hE.inj s d row _ h h0 hr trivial e)
  ·by_cases e:d=p
   ·subst e;exact Rr
   ·rw [eK e];exact ER
 ·exact hE.inj _ _ _ _ (split _ _ h).2 (split _ _ h').2 hr gL e
theorem Bs:∀ (ds:List Nat) (rows ah:Rows) (H:af),aE C ι rows H->uc ds rows=some ah->∃ H',gQ (ds.map ι) H=some H'/\aE C ι ah H'/\Le ι rows ι ah
 | [],rows,ah,H,hE,h=>by simp only [uc,Option.some.injEq] at h;subst h;exact ⟨H,rfl,hE,Le.refl _ _⟩
 | d::ds,rows,ah,H,hE,h=>by
  simp only [uc] at h
  split at h
  ·rename_i h0
   obtain ⟨k1,k2⟩:=hE.U3 h0
   obtain ⟨H',k3,k4,k5⟩:=Bs ds _ _ _ k1 h
   refine ⟨H',?_,k4,k2.trans k5⟩
   have hd:H.get (ι d)=some .deferred:=hE.row _ _ h0
   simp only [List.map_cons,gQ,hd]
   rw [if_pos (by rw [hE.fH];exact Nat.zero_le _)]
   exact k3
  ·cases h
theorem pq (hE:aE C ι rows H) {tmps:List SV} {bl:List AV} (ht:aQ (RV ι rows) tmps bl):∀ (rs:List ResultVar) (K:List S3->Option R),mT P tmps rows rs K=some r->
  ∃ xs vs,gh P bl H rs=some vs/\aQ (R3 ι rows) xs vs/\K xs=some r
 | [],K,h=>⟨[],[],rfl,.nil,h⟩
 | .tmp t::rs,K,h=>by
  simp only [mT] at h
  split at h
  ·rename_i x hx
   obtain ⟨v,hv,hr⟩:=ht.get hx
   obtain ⟨xs,vs,k1,k2,k3⟩:=pq hE ht rs _ h
   exact ⟨x::xs,v::vs,by simp only [gh,pR,hv,k1],.cons hr k2,k3⟩
  ·cases h
 | .cell a t::rs,K,h=>by
  simp only [mT] at h
  split at h
  ·rename_i y hy
   obtain ⟨v,hv,hr⟩:=ht.get hy
   obtain ⟨z,zs,l1,l2,l3⟩:=Hy hE (bo hr) h
   split at l3
   ·rename_i x
    obtain ⟨xs,vs,k1,k2,k3⟩:=pq hE ht rs _ l3
    exact ⟨x::xs,z::vs,by simp only [gh,pR,hv,l1,k1],.cons l2 k2,k3⟩
   ·cases l3
  ·cases h
theorem Ob {s:bX} {σ:St} (hE:fg C ι s σ) {fn:Func} {K:SV->Rows->Option R} (h:Bq P fn s K=some r):∃ y H' ys ah,iE P fn σ=some (y,H')/\aE C ι ah H'/\RV ι ah ys y/\Le ι s.rows ι ah/\K ys ah=some r:=by
 unfold Bq at h
 split at h
 ·rename_i rows hu
  obtain ⟨H',k1,k2,k3⟩:=Bs _ _ _ _ hE.rows hu
  obtain ⟨xs,vs,l1,l2,l3⟩:=pq (P:=P) k2 (hE.tmps.mono fun _ _=>k3.rv) _ _ h
  refine ⟨_,H',_,rows,?_,k2,Hx l2,k3,l3⟩
  unfold iE
  rw [hE.defers,k1]
  simp only [l1]
 ·cases h
theorem Bt {dr:Array Oper->St->Option St} {Ik:Array Oper->bX->(bX->Option R)->Option R} {live:FuncId->Nat->Nat} {dL:FuncId->Nat->J0} (cI:ir P (aI P) cE fs) (zg:De P fs dr Ik)
  {g:FuncId} {args:List SV} {ai:List AV} {K:SV->Rows->Option R} (hE:aE (aI P) ι rows H) (ha:aQ (RV ι rows) args ai) (h:Hu P cE Ik N live dL g args rows K=some r):
  bK (aI P) ι rows (mA P (aV P (fun _=>none) fs dr N none) g ai H) K r:=by
 unfold Hu at h
 split at h
 ·rename_i fn K5
  split at h
  ·rename_i c hc
   rw [dQ] at h
   have hC:aI P g []=some c:=by simp only [aI,K5,hc,LP]
   have hEm:fg (aI P) ι ⟨args++List.replicate (fn.ntmps-args.length) (.tuple []),rows,[]⟩ { tmps:=ai++List.replicate (fn.ntmps-ai.length) (cM undef),H:=H,defers:=[] }:=by
    refine ⟨?_,hE,rfl,fun r hr=>by cases hr⟩
    show aQ _ (args++_) (ai++_)
    rw [ha.length]
    exact ha.append (aQ.replicate (x:=SV.tuple []) (y:=cM undef) ⟨[],rfl,.nil⟩ _)
   obtain ⟨e,σ',s',ι',k1,k2,k3,k4⟩:=Be (N:=N) (live:=live g) (dL:=dL g) cI zg none c [] 0 rows.length hC ι rows ι _ _ _ r rfl (Le.refl _ _) hEm (fun l h=>by cases h) h
   have fin:Bq P fn s' K=some r->(e=.normal\/e=.ret)->bK (aI P) ι rows (mA P (aV P (fun _=>none) fs dr N none) g ai H) K r:=by
    intro hl he
    obtain ⟨y,H',ys,ah,l1,l2,l3,l4,l5⟩:=Ob k2 hl
    refine ⟨y,H',ys,ah,ι',?_,l2,l3,k3.trans l4,l5⟩
    have k1:aV P (fun _=>none) fs dr N none c { tmps:=ai++List.replicate (fn.ntmps-ai.length) (cM undef),H:=H,defers:=[] }=some (e,σ'):=k1
    unfold mA
    simp only [K5,hc,k1]
    rcases he with rfl | rfl<;>exact l1
   cases e with
   | normal=>exact fin k4 (.inl rfl)
   | ret=>exact fin k4 (.inr rfl)
   | _=>cases k4
  ·cases h
 ·cases h
theorem U4 (hE:aE C ι rows H) {q:Nat} {j:Option Code} {K:SV->Rows->Option R} (h:Kh q j rows K=some r):bK C ι rows (uT (ι q) j H) K r:=by
 unfold Kh at h
 split at h
 ·rename_i L hL
  obtain ⟨A,q1,_⟩:=hE.row _ _ hL
  have dm:H.fH<=ι q:=by rw [hE.fH];exact Nat.zero_le _
  split at h
  ·have gI:=hE.lB hL .ready none q1
   exact ⟨.bool true,_,.aT (.bool true),_,ι,by simp only [uT,q1,dm,if_true];rfl,gI.1,rfl,gI.2,h⟩
  ·rename_i c
   have gI:=hE.lB hL .done (some c) q1
   exact ⟨.bool false,_,.aT (.bool false),_,ι,by simp only [uT,q1,dm,if_true];rfl,gI.1,rfl,gI.2,h⟩
 ·cases h
theorem xn:∀ (ts:List Tmp) (xs:List SV) (vs:List AV) (tmps:List SV) (bl:List AV),aQ (RV ι rows) xs vs->aQ (RV ι rows) tmps bl->aQ (RV ι rows) (yp ts xs tmps) (gR ts vs bl)
 | [],xs,vs,tmps,bl,hx,ht=>by cases xs<;>cases hx<;>exact ht
 | t::ts,[],[],tmps,bl,hx,ht=>ht
 | t::ts,x::xs,v::vs,tmps,bl,.cons h hx,ht=>xn ts xs vs _ _ hx (ht.set h t)
theorem bK.after {ff:Rows} {ι1:Nat->Nat} {a:Option (AV × af)} {K:SV->Rows->Option R} (le:Le ι rows ι1 ff) (h:bK C ι1 ff a K r):bK C ι rows a K r:=by
 obtain ⟨y,H',ys,ah,ι',k1,k2,k3,k4,k5⟩:=h
 exact ⟨y,H',ys,ah,ι',k1,k2,k3,le.trans k4,k5⟩
theorem Oc {dr:Array Oper->St->Option St} {Ik:Array Oper->bX->(bX->Option R)->Option R} {live:FuncId->Nat->Nat} {dL:FuncId->Nat->J0} (cI:ir P (aI P) cE fs) (zg:De P fs dr Ik)
  {q:Nat} {args:List SV} {ai:List AV} {K:SV->Rows->Option R} (hE:aE (aI P) ι rows H) (ha:aQ (RV ι rows) args ai) (hq1:q<rows.length) (Pd:sg rows q=none) (h:Ki P cE Ik N live dL q args rows K=some r):
  bK (aI P) ι rows (iD (fun r=>aV P (fun _=>none) fs dr N (some r)) (ι q) ai H) K r:=by
 unfold Ki at h
 split at h
 ·rename_i L hL
  obtain ⟨A,q1,q2,q3,⟨g0,q4⟩,q5,q6,q7,q8⟩:=hE.row _ _ hL
  split at h
  ·rename_i g ps as bd hC
   rw [hC] at q4
   simp only [Option.some.injEq,Code.rangeFunc.injEq] at q4
   obtain ⟨_,e1,e2,e3⟩:=q4
   split at h
   ·rename_i hlen
    have hlen:=Nat.eq_of_beq_eq_true hlen
    have hEm:fg (aI P) ι ⟨yp ps.toList args L.tmps,rows,[]⟩ { tmps:=gR A.params.toList ai A.tmps,H:=H,defers:=[] }:=by
     refine ⟨?_,hE,rfl,fun r hr=>by cases hr⟩
     rw [←e1]
     exact xn _ _ _ _ _ ha q5
    have uJ:∀ l,some q=some l->l<rows.length/\sg rows l=none:=by rintro l h;cases h;exact ⟨hq1,Pd⟩
    obtain ⟨e,σ1,s1,ι1,k1,k2,k3,k4⟩:=Be (N:=N) (live:=live L.fn) (dL:=dL L.fn) cI zg (some q) as (0::L.path) 0 rows.length (dB hC rfl) ι rows ι _ _ _ r rfl (Le.refl _ _) hEm uJ h
    cases e with
    | normal=>
     simp only at k4
     split at k4
     ·rename_i L1 Ph
      obtain ⟨A1,p1,p2,p3,p4,p5,p6,p7,p8⟩:=k2.rows.row _ _ Ph
      have hι1:ι1 q=ι q:=(k3.st q hq1 Pd).2
      rw [hι1] at p1
      split at k4
      ·rename_i cA
       have gI:=k2.rows.lB Ph .busy L1.pending (A:=A1) (by rw [hι1];exact p1)
       have hE2:fg (aI P) ι1 { s1 with rows:=s1.rows.set q (some (.loop { L1 with state:=.busy })) } { σ1 with H:=σ1.H.ij (ι q) (.loop { A1 with state:=.busy }) }:=by
        refine ⟨k2.tmps.mono fun _ _=>gI.2.rv,?_,k2.defers,fun d hd=>?_⟩
        ·have:=gI.1
         rw [hι1,←p3] at this
         have h2:=gI.1
         rw [hι1] at h2
         have e:({ A1 with state:=.busy,pending:=L1.pending }:oD)={ A1 with state:=.busy }:=by rw [←p3]
         rw [e] at h2
         exact h2
        ·obtain ⟨a,b⟩:=k2.mZ d hd
         exact ⟨Nat.lt_of_lt_of_le a gI.2.len,(gI.2.st d a b).1⟩
       have adk:q<s1.rows.length:=Nat.lt_of_lt_of_le hq1 k3.len
       have afH:sg s1.rows q=none:=(k3.st q hq1 Pd).1
       have afI:∀ l,some q=some l->l<(s1.rows.set q (some (.loop { L1 with state:=.busy }))).length/\sg (s1.rows.set q (some (.loop { L1 with state:=.busy }))) l=none:=by
        rintro l h;cases h
        exact ⟨by simpa using adk,(gI.2.st q adk afH).1⟩
       obtain ⟨e',σ2,s2,ι2,j1,j2,j3,j4⟩:=Be (N:=N) (live:=live L.fn) (dL:=dL L.fn) cI zg (some q) bd (1::L.path) 0 s1.rows.length (dB hC rfl) ι1 (s1.rows.set q (some (.loop { L1 with state:=.busy }))) ι1 _ _ _ r (by simp) (Le.refl _ _) hE2 afI k4
       have wS:Le ι rows ι2 s2.rows:=(k3.trans gI.2).trans j3
       have hι2:ι2 q=ι q:=(wS.st q hq1 Pd).2
       have dm:σ1.H.fH<=ι q:=by rw [k2.rows.fH];exact Nat.zero_le _
       have cW:ai.length=A.params.size:=by rw [←ha.length,hlen,e1]
       have hr1:aV P (fun _=>none) fs dr N (some (ι q)) A.assign { tmps:=gR A.params.toList ai A.tmps,H:=H,defers:=[] }=some (.normal,σ1):=by rw [←e2];exact k1
       have Tr:aV P (fun _=>none) fs dr N (some (ι q)) A.body { σ1 with H:=σ1.H.ij (ι q) (.loop { A1 with state:=.busy }) }=some (e',σ2):=by
        rw [←e3]
        have:(some q).map ι1=some (ι q):=by simp [hι1]
        rw [this] at j1
        exact j1
       have fin:∀ j,DP e'=some j->Kh q j s2.rows K=some r->bK (aI P) ι rows (iD (fun r=>aV P (fun _=>none) fs dr N (some r)) (ι q) ai H) K r:=by
        intro j hj he
        have:=(U4 j2.rows he).after wS
        rw [hι2] at this
        have hay:iD (fun r=>aV P (fun _=>none) fs dr N (some r)) (ι q) ai H=uT (ι q) j σ2.H:=by
         unfold iD
         simp only [q1,cW,if_true,hr1,p1,p2,cA,dm,Tr]
         cases e'<;>simp only [DP,Option.some.injEq,reduceCtorEq] at hj<;>subst hj<;>rfl
        rw [hay];exact this
       cases e' with
       | normal=>exact fin _ rfl j4
       | ret=>exact fin _ rfl j4
       | exit k=>exact fin _ rfl j4
       | goto k=>exact fin _ rfl j4
       | _=>cases j4
      ·cases k4
     ·cases k4
    | _=>cases k4
   ·cases h
  ·cases h
 ·cases h
theorem RJ (hT:iN P T cm) {jn:FuncId->Bool} {dr:sS->(R:Type)->Array Oper->bX->(bX->Option R)->Option R}
  (live:FuncId->Nat->Nat) (dL:FuncId->Nat->J0) (zg:∀ k ro,ir P (aI P) (jx P T cm jn dr N live dL k ro) (gy P T cm jn N k ro)->∀ R,De P (gy P T cm jn N k ro) (nB P (gy P T cm jn N k ro)) (dr (jx P T cm jn dr N live dL k ro) R)):
  ∀ k ro,ir P (aI P) (jx P T cm jn dr N live dL k ro) (gy P T cm jn N k ro):=by
 intro k
 induction k with
 | zero=>
  intro ro
  refine ⟨?_,?_,fun _ _=>rfl,rfl,fun _ _ _ _ _ h=>by cases h⟩
  ·intro R g args rows K r ι H ai h;cases h
  ·intro R g args rows K r ι H ai h;cases h
 | succ k ih=>
  intro ro
  refine ⟨fun R g args rows K r ι H ai h hE ha=>?_,fun R q args rows K r ι H ai h hE ha h1 h2=>?_,fun _ _=>rfl,rfl,fun g args H y H' hd h=>He hT ro (k+1) g args H y H' hd h⟩
  ·simp only [jx] at h
   simp only [gy]
   split at h
   ·rename_i hd
    try simp only [hd]
    exact RI hT hd hE ha h
   ·rename_i hd
    try simp only [hd]
    split at h
    ·rename_i hj
     try simp only [hj,Bool.or_true]
     split at h
     ·rename_i uJ
      try simp only [uJ]
      split at h
      ·rename_i ck VR
       obtain ⟨v,hv,VO⟩:=bE h
       obtain ⟨y,H',ys,ah,ι',k1,k2,k3,k4,k5⟩:=Bt (ih true) (zg k true (ih true) AV) hE ha hv
       have hx:cB H H':=vX (ue hT k) (fun ops σ σ' ho h=>sJ (ue hT k) ho h) uJ k1
       have hsc:y=v/\Cell v:=by
        replace k5:IQ ys=some v:=k5
        unfold IQ at k5
        split at k5
        ·rename_i x
         have k3:R1 ι' ah x y:=k3
         exact ib k3 k5
        ·cases k5
       obtain ⟨rfl,cP⟩:=hsc
       obtain ⟨c,e1,e2,_⟩:=E9 (ι:=ι) (rows:=rows) VO cP
       exact ⟨y,H',.s (.o c),rows,ι,k1,hE.ext hx k2.ok k2.fH,e1,Le.refl _ _,e2⟩
      ·cases h
     ·cases h
    ·rename_i hj
     try simp only [hj,Bool.or_false]
     split at h
     ·split at h
      ·rename_i uJ
       try simp only [uJ]
       exact Bt (ih true) (zg k true (ih true) R) hE ha h
      ·cases h
     ·exact Bt (ih false) (zg k false (ih false) R) hE ha h
  ·cases ro with
   | true=>simp [jx] at h
   | false=>exact Oc (ih false) (zg k false (ih false) R) hE ha h1 h2 h
theorem UT (hT:iN P T cm) {jn:FuncId->Bool} {dr:sS->(R:Type)->Array Oper->bX->(bX->Option R)->Option R}
  (live:FuncId->Nat->Nat) (dL:FuncId->Nat->J0) (zg:∀ k ro,ir P (aI P) (jx P T cm jn dr N live dL k ro) (gy P T cm jn N k ro)->∀ R,De P (gy P T cm jn N k ro) (nB P (gy P T cm jn N k ro)) (dr (jx P T cm jn dr N live dL k ro) R)):
  ∀ k,ir P (aI P) (ac6 P T cm jn dr N live dL k) (fsX P T cm jn N k):=fun k=>RJ hT live dL zg k false
end
end Go.Abs
end
noncomputable section
namespace Go.Abs
open Classical
def cz {α:Type} (top:α) (Ms:List Nat) (j:Nat):List (Option Tmp)->Nat->List α->List α
  | [],_,l=>l
  | d::ds,k,l=>match d with
    | some t=>match iX Ms j k with
      | true=>cz top Ms j ds (k+1) l
      | false=>cz top Ms j ds (k+1) (l.set t top)
    | none=>cz top Ms j ds (k+1) l
def hD {α:Type} (cn:List α) (Ms:List Nat) (j:Nat):List (Option Tmp)->Nat->List α->List α
  | [],_,l=>l
  | d::ds,k,l=>match d with
    | some t=>match iX Ms j k with
      | true=>hD cn Ms j ds (k+1) l
      | false=>match cn[t]? with
        | some x=>hD cn Ms j ds (k+1) (l.set t x)
        | none=>hD cn Ms j ds (k+1) l
    | none=>hD cn Ms j ds (k+1) l
def hidden (Ms:List Nat) (j:Nat):List (Option Tmp)->Nat->List Nat
  | [],_=>[]
  | d::ds,k=>match d with
    | some t=>match iX Ms j k with
      | true=>hidden Ms j ds (k+1)
      | false=>t::hidden Ms j ds (k+1)
    | none=>hidden Ms j ds (k+1)
def pb {α:Type} (top:α):List Nat->List α->List α
  | [],l=>l
  | t::hs,l=>pb top hs (l.set t top)
theorem ET {α:Type} (top:α) (Ms:List Nat) (j:Nat):∀ (ds:List (Option Tmp)) (k:Nat) (l:List α),cz top Ms j ds k l=pb top (hidden Ms j ds k) l
  | [],k,l=>rfl
  | d::ds,k,l=>by
    cases d with
    | none=>simp only [cz,hidden,ET top Ms j ds]
    | some t=>cases h:iX Ms j k<;>simp only [cz,hidden,h,pb,ET top Ms j ds]
def lP {α:Type} (cn:List α):List Nat->List α->List α
  | [],l=>l
  | t::hs,l=>match cn[t]? with
    | some x=>lP cn hs (l.set t x)
    | none=>lP cn hs l
theorem EU {α:Type} (cn:List α) (Ms:List Nat) (j:Nat):∀ (ds:List (Option Tmp)) (k:Nat) (l:List α),hD cn Ms j ds k l=lP cn (hidden Ms j ds k) l
  | [],k,l=>rfl
  | d::ds,k,l=>by
    cases d with
    | none=>simp only [hD,hidden,EU cn Ms j ds]
    | some t=>cases h:iX Ms j k<;>simp only [hD,hidden,h,lP,EU cn Ms j ds]
def mc:Nat->List Nat->Bool
  | _,[]=>true
  | i,t::hs=>Nat.ble i t&&mc (t+1) hs
def Df {α X:Type} (top:α):List α->List Nat->Nat->(List α->X)->X
  | [],_,_,K=>K []
  | x::xs,hs,i,K=>match hs with
    | []=>K (x::xs)
    | t::et=>match Nat.beq t i with
      | true=>Df top xs et (i+1) fun l=>K (top::l)
      | false=>Df top xs (t::et) (i+1) fun l=>K (x::l)
def hP (i:Nat) (hs:List Nat):List Nat:=hs.map (· - i)
theorem sF {α:Type} (top x:α):∀ (hs:List Nat) (xs:List α) (i:Nat),mc (i+1) hs=true->pb top (hP i hs) (x::xs)=x::pb top (hP (i+1) hs) xs
  | [],xs,i,h=>rfl
  | t::hs,xs,i,h=>by
    simp only [mc,Bool.and_eq_true,Nat.ble_eq] at h
    have e:t-i=(t-(i+1))+1:=by omega
    have ha:mc (i+1) hs=true:=by
      cases hs with
      | nil=>rfl
      | cons u us=>
        simp only [mc,Bool.and_eq_true,Nat.ble_eq] at h ⊢
        exact ⟨by omega,h.2.2⟩
    simp only [hP,List.map_cons,pb,e,List.set_cons_succ]
    exact sF top x hs _ i ha
theorem Dg {α:Type} (top:α):∀ (hs:List Nat),pb top hs ([]:List α)=[]
  | []=>rfl
  | t::hs=>by simp only [pb,List.set_nil];exact Dg top hs
theorem Bh {α X:Type} (top:α):∀ (l:List α) (hs:List Nat) (i:Nat) (K:List α->X),mc i hs=true->Df top l hs i K=K (pb top (hP i hs) l)
  | [],hs,i,K,h=>by rw [Df,Dg]
  | x::xs,[],i,K,h=>rfl
  | x::xs,t::hs,i,K,h=>by
    simp only [mc,Bool.and_eq_true,Nat.ble_eq] at h
    simp only [Df]
    cases hb:Nat.beq t i with
    | true=>
      have e:=Nat.eq_of_beq_eq_true hb
      subst e
      simp only
      rw [Bh top xs hs (t+1) _ h.2]
      simp only [hP,List.map_cons,Nat.sub_self,pb,List.set_cons_zero]
      have:=sF top top hs xs t h.2
      simp only [hP] at this
      rw [this]
    | false=>
      have ek:t≠i:=by rintro rfl;rw [Nat.beq_refl] at hb;cases hb
      have ha:mc (i+1) (t::hs)=true:=by
        simp only [mc,Bool.and_eq_true,Nat.ble_eq]
        exact ⟨by omega,h.2⟩
      simp only
      rw [Bh top xs (t::hs) (i+1) _ ha,sF top x (t::hs) xs i ha]
def xe {α X:Type}:List α->List α->List Nat->Nat->(List α->X)->X
  | [],_,_,_,K=>K []
  | x::xs,cn,hs,i,K=>match hs with
    | []=>K (x::xs)
    | t::et=>match cn with
      | []=>K (x::xs)
      | o::ac_=>match Nat.beq t i with
        | true=>xe xs ac_ et (i+1) fun l=>K (o::l)
        | false=>xe xs ac_ (t::et) (i+1) fun l=>K (x::l)
theorem nv {α:Type} (o x:α) (cn:List α):∀ (hs:List Nat) (xs:List α) (i:Nat),mc (i+1) hs=true->lP (o::cn) (hP i hs) (x::xs)=x::lP cn (hP (i+1) hs) xs
  | [],xs,i,h=>rfl
  | t::hs,xs,i,h=>by
    simp only [mc,Bool.and_eq_true,Nat.ble_eq] at h
    have e:t-i=(t-(i+1))+1:=by omega
    have ha:mc (i+1) hs=true:=by
      cases hs with
      | nil=>rfl
      | cons u us=>
        simp only [mc,Bool.and_eq_true,Nat.ble_eq] at h ⊢
        exact ⟨by omega,h.2.2⟩
    simp only [hP,List.map_cons,lP,e,List.getElem?_cons_succ]
    cases cn[t-(i+1)]? with
    | none=>exact nv o x cn hs _ i ha
    | some y=>simp only [List.set_cons_succ];exact nv o x cn hs _ i ha
theorem Dh {α:Type}:∀ (hs:List Nat) (l:List α),lP [] hs l=l
  | [],l=>rfl
  | t::hs,l=>by simp only [lP,List.getElem?_nil];exact Dh hs l
theorem sG {α:Type} (cn:List α):∀ (hs:List Nat),lP cn hs []=[]
  | []=>rfl
  | t::hs=>by
    simp only [lP]
    cases cn[t]? with
    | none=>exact sG cn hs
    | some x=>simp only [List.set_nil];exact sG cn hs
theorem Bi {α X:Type}:∀ (l cn:List α) (hs:List Nat) (i:Nat) (K:List α->X),mc i hs=true->xe l cn hs i K=K (lP cn (hP i hs) l)
  | [],cn,hs,i,K,h=>by rw [xe,sG]
  | x::xs,cn,[],i,K,h=>by simp only [xe];rfl
  | x::xs,[],t::hs,i,K,h=>by simp only [xe,Dh]
  | x::xs,o::cn,t::hs,i,K,h=>by
    simp only [mc,Bool.and_eq_true,Nat.ble_eq] at h
    simp only [xe]
    cases hb:Nat.beq t i with
    | true=>
      have e:=Nat.eq_of_beq_eq_true hb
      subst e
      simp only
      rw [Bi xs cn hs (t+1) _ h.2]
      simp only [hP,List.map_cons,Nat.sub_self,lP,List.getElem?_cons_zero,List.set_cons_zero]
      have:=nv o o cn hs xs t h.2
      simp only [hP] at this
      rw [this]
    | false=>
      have ek:t≠i:=by rintro rfl;rw [Nat.beq_refl] at hb;cases hb
      have ha:mc (i+1) (t::hs)=true:=by
        simp only [mc,Bool.and_eq_true,Nat.ble_eq]
        exact ⟨by omega,h.2⟩
      simp only
      rw [Bi xs cn (t::hs) (i+1) _ ha,nv o x cn (t::hs) xs i ha]
theorem xf (hs:List Nat):hP 0 hs=hs:=by simp [hP]
def yn {X:Type}:List Nat->(List Nat->X)->X
  | [],K=>K []
  | x::xs,K=>yn xs fun ys=>K (x::ys)
theorem Bj {X:Type}:∀ (l:List Nat) (K:List Nat->X),yn l K=K l
  | [],K=>rfl
  | x::xs,K=>by simp only [yn,Bj xs]
def LU {X:Type} (Ms:List Nat) (j:Nat) (ds:List (Option Tmp)) (l:List SV) (K:List Nat->List SV->X):X:=
  yn (hidden Ms j ds 0) fun hs=>match mc 0 hs with
    | true=>Df (.aT .top) l hs 0 (K hs)
    | false=>vN (pb (.aT .top) hs l) (K hs)
theorem Hh {X:Type} (Ms:List Nat) (j:Nat) (ds:List (Option Tmp)) (l:List SV) (K:List Nat->List SV->X):LU Ms j ds l K=K (hidden Ms j ds 0) (cz (.aT .top) Ms j ds 0 l):=by
  unfold LU
  rw [Bj,ET]
  cases h:mc 0 (hidden Ms j ds 0) with
  | true=>simp only;rw [Bh _ _ _ _ _ h,xf]
  | false=>simp only [qk]
def tY {X:Type} (hs:List Nat) (cn l:List SV) (K:List SV->X):X:=
  match mc 0 hs with
  | true=>xe l cn hs 0 K
  | false=>vN (lP cn hs l) K
theorem Rs {X:Type} (Ms:List Nat) (j:Nat) (ds:List (Option Tmp)) (cn l:List SV) (K:List SV->X):tY (hidden Ms j ds 0) cn l K=K (hD cn Ms j ds 0 l):=by
  unfold tY
  rw [EU]
  cases h:mc 0 (hidden Ms j ds 0) with
  | true=>simp only;rw [Bi _ _ _ _ _ h,xf]
  | false=>simp only [qk]
theorem fh {α:Type} (top:α) (Ms:List Nat) (j t:Nat):∀ (ds:List (Option Tmp)) (k:Nat) (l:List α),(cz top Ms j ds k l)[t]?=if dN Ms t j ds k=true then l[t]? else (l[t]?).map fun _=>top
  | [],k,l=>by simp [cz,dN]
  | d::ds,k,l=>by
    cases d with
    | none=>simp only [cz,dN,Bool.true_and];exact fh top Ms j t ds (k+1) l
    | some u=>
      simp only [cz,dN]
      by_cases e:u=t
      · subst e
        simp only [beq_self_eq_true,if_true]
        cases hc:iX Ms j k with
        | true=>simp only [Bool.true_and];exact fh top Ms j u ds (k+1) l
        | false=>
          simp only [Bool.false_and,Bool.false_eq_true,if_false]
          rw [fh top Ms j u ds (k+1) (l.set u top),List.getElem?_set]
          simp only [if_true]
          by_cases hl:u<l.length
          · rw [if_pos hl,List.getElem?_eq_getElem hl];split<;>rfl
          · rw [if_neg hl,List.getElem?_eq_none (Nat.le_of_not_lt hl)];split<;>rfl
      · have e':(u==t)=false:=by simpa using e
        simp only [e',Bool.false_eq_true,if_false,Bool.true_and]
        cases hc:iX Ms j k with
        | true=>exact fh top Ms j t ds (k+1) l
        | false=>
          rw [fh top Ms j t ds (k+1) (l.set u top),List.getElem?_set_ne e]
theorem gH {α:Type} (cn:List α) (Ms:List Nat) (j t:Nat):∀ (ds:List (Option Tmp)) (k:Nat) (l:List α),l.length=cn.length->(hD cn Ms j ds k l)[t]?=if dN Ms t j ds k=true then l[t]? else cn[t]?
  | [],k,l,hl=>by simp [hD,dN]
  | d::ds,k,l,hl=>by
    cases d with
    | none=>simp only [hD,dN,Bool.true_and];exact gH cn Ms j t ds (k+1) l hl
    | some u=>
      simp only [hD,dN]
      by_cases e:u=t
      · subst e
        simp only [beq_self_eq_true,if_true]
        cases hc:iX Ms j k with
        | true=>simp only [Bool.true_and];exact gH cn Ms j u ds (k+1) l hl
        | false=>
          simp only [Bool.false_and,Bool.false_eq_true,if_false]
          cases ho:cn[u]? with
          | none=>
            simp only
            rw [gH cn Ms j u ds (k+1) l hl,ho]
            have:cn.length<=u:=List.getElem?_eq_none_iff.1 ho
            rw [List.getElem?_eq_none (by omega)];split<;>rfl
          | some x=>
            simp only
            have hu:u<cn.length:=(List.getElem?_eq_some_iff.1 ho).1
            rw [gH cn Ms j u ds (k+1) (l.set u x) (by simpa using hl),List.getElem?_set,ho]
            simp only [if_true]
            rw [show (if u<l.length then some x else none)=some x from if_pos (by rw [hl];exact hu)];split<;>rfl
      · have e':(u==t)=false:=by simpa using e
        simp only [e',Bool.false_eq_true,if_false,Bool.true_and]
        cases hc:iX Ms j k with
        | true=>exact gH cn Ms j t ds (k+1) l hl
        | false=>
          cases ho:cn[u]? with
          | none=>exact gH cn Ms j t ds (k+1) l hl
          | some x=>simp only;rw [gH cn Ms j t ds (k+1) (l.set u x) (by simpa using hl),List.getElem?_set_ne e]
theorem e_ {α:Type} (top:α) (Ms:List Nat) (j:Nat):∀ (ds:List (Option Tmp)) (k:Nat) (l:List α),(cz top Ms j ds k l).length=l.length
  | [],k,l=>rfl
  | d::ds,k,l=>by
    cases d with
    | none=>exact e_ top Ms j ds (k+1) l
    | some u=>
      simp only [cz]
      cases iX Ms j k with
      | true=>exact e_ top Ms j ds (k+1) l
      | false=>simp only;rw [e_ top Ms j ds (k+1)];simp
theorem hU {α:Type} (cn:List α) (Ms:List Nat) (j:Nat):∀ (ds:List (Option Tmp)) (k:Nat) (l:List α),(hD cn Ms j ds k l).length=l.length
  | [],k,l=>rfl
  | d::ds,k,l=>by
    cases d with
    | none=>exact hU cn Ms j ds (k+1) l
    | some u=>
      simp only [hD]
      cases iX Ms j k with
      | true=>exact hU cn Ms j ds (k+1) l
      | false=>
        cases cn[u]? with
        | none=>exact hU cn Ms j ds (k+1) l
        | some x=>simp only;rw [hU cn Ms j ds (k+1)];simp
theorem pe {α β:Type} {Q:α->β->Prop}:∀ {xs:List α} {ys:List β},xs.length=ys.length->(∀ (t:Nat) (x:α) (y:β),xs[t]?=some x->ys[t]?=some y->Q x y)->aQ Q xs ys
  | [],[],_,_=>.nil
  | x::xs,y::ys,hl,h=>.cons (h 0 x y rfl rfl) (pe (by simpa using hl) fun t x' y' h1 h2=>h (t+1) x' y' (by simpa using h1) (by simpa using h2))
  | [],_::_,hl,_=>by simp at hl
  | _::_,[],hl,_=>by simp at hl
def J6 (P:Program) (cm:FuncId->Bool) (o:Oper):Bool:=
  match o.op with
  | .alloc _ | .box _ _ | .makeSlice _ _ _ | .makeMap _ _=>true
  | .buildSlice t _ _=>!DR P t
  | .call { callee:=.value (.func g),.. }=>cm g
  | _=>false
def EV (cm:FuncId->Bool) (tmps:List SV) (o:Oper):Bool:=
  match o.op with
  | .call { callee:=.value f,.. }=>match qT tmps f with
    | .s (.o (.fn g _ _))=>cm g
    | _=>false
  | _=>false
def mR (P:Program) (cm:FuncId->Bool) (tmps:List SV) (o:Oper):Bool:=J6 P cm o||EV cm tmps o
def pf (bc:Rows):S1->Bool
  | .fm _ _=>true
  | .ptr q _=>match bc[q]? with
    | some (some (.lit _))=>true
    | _=>false
  | _=>false
def J7 (bc:Rows):SV->Bool
  | .tuple xs=>xs.isEmpty
  | v=>pf bc v.b1
def addrOf:Op->Option Operand
  | .load _ a=>some a
  | _=>none
structure tZ where
  fk:Nat
  fU:Nat
  cu:Nat
  live:Nat
def tZ.plus (pl:tZ) (push:Bool) (j:Nat):tZ:=
  match push with
  | true=>{ pl with fk:=pl.fk|||2 ^ j,fU:=pl.fU|||2 ^ j }
  | false=>{ pl with fk:=pl.fk|||2 ^ j,fU:=0,live:=0 }
structure qH where
  mask:Nat
  rows:List Nat
def qH.load (lt:qH) (bc:Rows) (j:Nat) (x:SV):qH:=
  match J7 bc x with
  | true=>match x.b1 with
    | .ptr q _=>⟨lt.mask|||2 ^ j,q::lt.rows⟩
    | _=>⟨lt.mask|||2 ^ j,lt.rows⟩
  | false=>lt
def isLit (rows:Rows) (q:Nat):Bool:=
  match rows[q]? with
  | some (some (.lit _))=>true
  | _=>false
def Bk (rows:Rows):S1->Bool
  | .own r aW _=>(match rows[r]? with
    | some (some (.vec _ v _ _ _))=>Nat.beq aW v
    | _=>false)
  | .raw .av=>true
  | _=>false
def nw (rows:Rows):S1->Bool
  | .own r aW e=>Bk rows (.own r aW e)
  | .raw .av=>true
  | .bool _ | .int _ _ | .aL _ _ | .string _ | .list _ _ | .nl _ _=>true
  | _=>false
def EW (rows:Rows):SV->Bool
  | .s (.agg cs)=>cs.all fun c=>match c with | .b x=>nw rows x | .fn _ _ _=>false
  | .s (.o (.b x))=>nw rows x
  | _=>false
def J8 (P:Program) (rows:Rows) (tmps:List SV) (o:Oper):Bool:=
  match o.op with
  | .call { callee:=.builtin .append,args,.. }=>match args.toList with
    | [s,_]=>Bk rows (qT tmps s).b1
    | _=>false
  | .buildSlice t _ parts=>parts.toList.all fun p=>EW rows (qT tmps p.2)
  | _=>false
def vQ (rows:Rows) (lt:qH) (tmps:List SV) (o:Oper):Bool:=
  match o.op with
  | .store _ a _=>match (qT tmps a).b1 with
    | .ptr q _=>isLit rows q&&!l9 q lt.rows
    | _=>false
  | _=>false
def xg (P:Program) (rows:Rows) (lt:qH) (tmps:List SV) (o:Oper):Bool:=(J8 P rows tmps o||vQ rows lt tmps o)&&lt.rows.all (isLit rows)
def db (a b:Nat):Bool:=Nat.beq (a&&& b) a
def ft (P:Program) (o:Oper):Bool:=
  match o.op with
  | .slice t _ _ _ none=>match P.underlying t with
    | some (.slice _)=>true
    | some .string=>true
    | _=>false
  | _=>false
def Bl (P:Program) (o:Oper):Bool:=eA o.op||ft P o
section
variable {R : Type}
def UX (rows:Rows) (k:Option R):S1->S1->Option R
  | .bool a,.bool b=>gO (S_ (decide (a=b))) k
  | .int i a,.int j b=>match decide (i=j) with
    | true=>gO (S_ (decide (a=b))) k
    | false=>none
  | .aL i a,.aL j b=>match decide (i=j) with
    | true=>gO (S_ (decide (a=b))) k
    | false=>none
  | .string a,.string b=>gO (S_ (decide (a=b))) k
  | .list n cs,.list m ds=>gO (S_ (decide (n=m/\cs=ds))) k
  | .nl n cs,.nl m ds=>gO (S_ (decide (n=m/\cs=ds))) k
  | .mp r,.mp q=>match Nat.beq r q with
    | true=>(match rows[r]? with
      | some (some (.dM _ _))=>k
      | _=>none)
    | false=>none
  | .ptr r a,.ptr q b=>match Nat.beq r q&&Nat.beq a b with
    | true=>(match rows[r]? with
      | some (some (.lit _))=>k
      | _=>none)
    | false=>none
  | _,_=>none
def J9 (rows:Rows) (k:Option R):List S1->List S1->Option R
  | [],[]=>k
  | x::xs,y::ys=>UX rows (J9 rows k xs ys) x y
  | _,_=>none
def Bm (rows:Rows) (k:Option R):List S2->List S2->Option R
  | [],[]=>k
  | .b x::xs,.b y::ys=>UX rows (Bm rows k xs ys) x y
  | .fn f a c::xs,.fn g b d::ys=>match Nat.beq f g with
    | true=>J9 rows (J9 rows (Bm rows k xs ys) c d) a b
    | false=>none
  | _,_=>none
def t_ (rows ah:Rows) (k:Option R):List Nat->Option R
  | []=>k
  | q::qs=>match rows[q]?,ah[q]? with
    | some (some (.lit cs)),some (some (.lit dE))=>Bm rows (t_ rows ah k qs) cs dE
    | _,_=>none
def Rt (rows:Rows) (lt:qH) (o:Oper):Bool:=
  match o.op with
  | .call { callee:=.value _,.. }=>lt.rows.all (isLit rows)
  | _=>false
def J' (P:Program) (Ms:List Nat) (j:Nat) (o:Oper):Bool:=
  match o.op with
  | .buildSlice t _ _=>(match o.guard with | none=>true | some _=>false)&&K3 j Ms&&!DR P t&&(match P.underlying t with
    | some (.slice e)=>(match zeroOf P e with | some z=>z.cells.all mw | none=>false)
    | _=>false)
  | _=>false
def Ru:SV->Bool
  | .s (.o (.b (.bool _))) | .s (.o (.b (.int ..))) | .s (.o (.b (.aL ..))) | .s (.o (.b (.string _)))=>true
  | _=>false
def J_ (l0:List SV) (o:Oper):Bool:=
  match o.op with
  | .buildSlice _ _ ps=>ps.toList.all fun p=>Ru (qT l0 p.2)
  | _=>false
def rl1:S1->Bool
  | .bool _ | .int .. | .aL .. | .string _ | .list .. | .nl ..=>true
  | .raw .av | .raw .bI | .raw .nilFunc=>true
  | _=>false
def rl2:S2->Bool
  | .b x=>rl1 x
  | .fn _ [] []=>true
  | _=>false
def rl3:S3->Bool
  | .o x=>rl2 x
  | .agg cs=>cs.all rl2
def rlV:SV->Bool
  | .s x=>rl3 x
  | .tuple xs=>xs.all rl3
def Ka (td:FuncId->Bool) (l0:List SV) (o:Oper):Bool:=
  match o.op with
  | .call { callee:=.value (.func g),args,.. }=>(match o.guard with | none=>true | some _=>false)&&td g&&args.toList.all fun x=>rlV (qT l0 x)
  | _=>false
def Wm (tmps:List SV):Option Tmp->Bool
  | some d=>match tmps[d]? with
    | some x=>rlV x
    | none=>false
  | none=>false
def vR (P:Program) (td cm:FuncId->Bool) (cE:sS) (ops:Array Oper) (Ms:List Nat) (aC:List (Option Tmp)) (bc:Rows):List Oper->Nat->tZ->qH->bX->(bX->Option R)->Option R
  | [],_,_,_,s,K=>K s
  | o::os,j,pl,lt,s,K=>match rf P Ms j o with
    | some _=>match os with
      | []=>match fV o.dst j aC 0 with
        | true=>lM P cE ops o s K
        | false=>none
      | _::_=>none
    | none=>LU Ms j aC s.tmps fun hs l0=>match quietAt P o with
      | true=>match Bl P o with
        | true=>lM P cE ops o { s with tmps:=l0 } fun s'=>tY hs s.tmps s'.tmps fun l1=>vR P td cm cE ops Ms aC bc os (j+1) pl lt { s' with tmps:=l1 } K
        | false=>match db pl.fk (Ms.getD j 0)||(db (pl.fk ^^^ (pl.fk&&& Ms.getD j 0)) pl.fU&&(match addrOf o.op with | some a=>J7 bc (qT l0 a) | none=>false)) with
          | true=>lM P cE ops o { s with tmps:=l0 } fun s'=>tY hs s.tmps s'.tmps fun l1=>vR P td cm cE ops Ms aC bc os (j+1) { pl with cu:=pl.cu|||2 ^ j,live:=(match addrOf o.op with | some _=>pl.live|||2 ^ j | none=>pl.live) } (match addrOf o.op with | some a=>lt.load bc j (qT l0 a) | none=>lt) { s' with tmps:=l1 } K
          | false=>none
      | false=>match Ka td l0 o with
       | true=>lM P cE ops o { s with tmps:=l0 } fun s'=>match Wm s'.tmps o.dst with
        | true=>tY hs s.tmps s'.tmps fun l1=>vR P td cm cE ops Ms aC bc os (j+1) pl lt { s' with tmps:=l1 } K
        | false=>match db pl.fk (Ms.getD j 0)&&(db pl.cu (Ms.getD j 0)||(mR P cm l0 o&&db (pl.cu ^^^ (pl.cu&&& Ms.getD j 0)) pl.live)||(xg P s.rows lt l0 o&&db (pl.cu ^^^ (pl.cu&&& Ms.getD j 0)) lt.mask)) with
          | true=>tY hs s.tmps s'.tmps fun l1=>vR P td cm cE ops Ms aC bc os (j+1) (pl.plus (mR P cm l0 o) j) (match mR P cm l0 o||xg P s.rows lt l0 o with | true=>lt | false=>⟨0,[]⟩) { s' with tmps:=l1 } K
          | false=>none
       | false=>match db pl.fk (Ms.getD j 0)&&(db pl.cu (Ms.getD j 0)||(mR P cm l0 o&&db (pl.cu ^^^ (pl.cu&&& Ms.getD j 0)) pl.live)||(xg P s.rows lt l0 o&&db (pl.cu ^^^ (pl.cu&&& Ms.getD j 0)) lt.mask)) with
        | true=>lM P cE ops o { s with tmps:=l0 } fun s'=>tY hs s.tmps s'.tmps fun l1=>vR P td cm cE ops Ms aC bc os (j+1)
            (pl.plus (mR P cm l0 o) j) (match mR P cm l0 o||xg P s.rows lt l0 o with | true=>lt | false=>⟨0,[]⟩) { s' with tmps:=l1 } K
        | false=>match db pl.fk (Ms.getD j 0)&&(Rt s.rows lt o&&db (pl.cu ^^^ (pl.cu&&& Ms.getD j 0)) lt.mask) with
          | true=>lM P cE ops o { s with tmps:=l0 } fun s'=>t_ s.rows s'.rows (tY hs s.tmps s'.tmps fun l1=>vR P td cm cE ops Ms aC bc os (j+1) (pl.plus false j) lt { s' with tmps:=l1 } K) lt.rows
          | false=>match os with
            | []=>match J' P Ms j o&&(fV o.dst j aC 0&&J_ l0 o) with
              | true=>lM P cE ops o { s with tmps:=l0 } fun s'=>tY hs s.tmps s'.tmps fun l1=>K { s' with tmps:=l1 }
              | false=>none
            | _::_=>none
def Kb (P:Program) (td cm:FuncId->Bool) (cE:sS) (ops:Array Oper) (s:bX) (K:bX->Option R):Option R:=
  match lY ops.toList 0 [] with
  | some Ms=>match cV (Ms.take (bb Ms 0 0)) ((ops.toList.take (bb Ms 0 0)).map (·.dst)) ((ops.toList.take (bb Ms 0 0)).map (·.dst)) 0 with
    | true=>vR P td cm cE ops (Ms.take (bb Ms 0 0)) ((ops.toList.take (bb Ms 0 0)).map (·.dst)) s.rows (ops.toList.take (bb Ms 0 0)) 0 ⟨0,0,0,0⟩ ⟨0,[]⟩ s fun s'=>
        J1 P cE ops (ops.toList.drop (bb Ms 0 0)) s' K
    | false=>none
  | none=>none
def Kc (P:Program) (td cm:FuncId->Bool) (cE:sS) (ops:Array Oper) (s:bX) (K:bX->Option R):Option R:=
  match lY ops.toList 0 [] with
  | some Mf=>match ops.toList[bb Mf 0 0-1]? with
    | some o=>match tb P Mf ops.toList (bb Mf 0 0-1) o with
      | true=>vR P td cm cE ops (Mf.take (bb Mf 0 0-1)) ((ops.toList.take (bb Mf 0 0-1)).map (·.dst)) s.rows (ops.toList.take (bb Mf 0 0-1)) 0 ⟨0,0,0,0⟩ ⟨0,[]⟩ s fun s'=>
          LU (Mf.take (bb Mf 0 0-1+1)) (bb Mf 0 0-1) ((ops.toList.take (bb Mf 0 0-1)).map (·.dst)) s'.tmps fun _ l0=>lM P cE ops o { s' with tmps:=l0 } fun s2=>
            J1 P cE ops (ops.toList.drop (bb Mf 0 0-1+1)) { s2 with tmps:=s'.tmps } K
      | false=>none
    | none=>none
  | none=>none
def Ri (P:Program) (td cm:FuncId->Bool) (cE:sS) (ops:Array Oper) (s:bX) (K:bX->Option R):Option R:=
  match Pf P ops with
  | true=>Kc P td cm cE ops s K
  | false=>Kb P td cm cE ops s K
end
section
variable {P : Program} {fs : fb} {ops : Array Oper} {ρ : Operand → AV} {H H' : af} {o : Oper} {y : AV} {cm : FuncId → Bool}
theorem Rv (FD:fs.fz=DR P) (hd:ji cm fs) (eT:∀ g args,fs.ext g args=none) {tmps:List AV} (hp:J6 P cm o=true) (h:aZ P fs ops (ev (fun _=>none) tmps) H o=some (y,H')):cB H H':=by
  unfold aZ at h
  split at h
  · unfold J6 at hp
    unfold bj at h
    split at hp
    · rename_i t ho
      simp only [ho,fi] at h
      split at h
      · simp only [Option.some.injEq,Prod.mk.injEq] at h;obtain ⟨_,rfl⟩:=h;exact cB.push _ _
      · cases h
    · rename_i t x ho
      simp only [ho,fi] at h
      split at h
      · simp only [Option.some.injEq,Prod.mk.injEq] at h;obtain ⟨_,rfl⟩:=h;exact cB.push _ _
      · cases h
    · rename_i t l c ho
      simp only [ho,fi,dY] at h
      repeat' (split at h)
      all_goals first
        | (cases h;done)
        | (simp only [Option.some.injEq,Prod.mk.injEq] at h;obtain ⟨_,rfl⟩:=h;exact cB.push _ _)
    · rename_i t hint ho
      simp only [ho,fi,jb] at h
      repeat' (split at h)
      all_goals first
        | (cases h;done)
        | (simp only [Option.some.injEq,Prod.mk.injEq] at h;obtain ⟨_,rfl⟩:=h;exact cB.push _ _)
    · rename_i t n ps ho
      have hb:DR P t=false:=by simpa using hp
      simp only [ho,FD,hb,Bool.false_eq_true,if_false,fi,bC] at h
      repeat' (split at h)
      all_goals first
        | (cases h;done)
        | (simp only [Option.map_eq_some_iff,Prod.mk.injEq] at h;obtain ⟨cs,_,_,rfl⟩:=h;exact cB.push _ _)
    · rename_i g args O4 ho
      simp only [ho,ev,jC,eT] at h
      exact hd _ _ _ _ _ hp h
    · cases hp
  · simp only [Option.some.injEq,Prod.mk.injEq] at h;obtain ⟨_,rfl⟩:=h;exact cB.refl _
  · cases h
theorem UY {ι:Nat->Nat} {rows:Rows} {tmps:List SV} {bl:List AV} (hd:ji cm fs) (eT:∀ g args,fs.ext g args=none) (hR:aQ (RV ι rows) tmps bl) (hp:EV cm tmps o=true)
    (h:aZ P fs ops (ev (fun _=>none) bl) H o=some (y,H')):cB H H':=by
  unfold aZ at h
  split at h
  · unfold EV at hp
    unfold bj at h
    split at hp
    · rename_i f args O4 ho
      split at hp
      · rename_i g first cap hf
        have hv:=dw hR f
        rw [hf] at hv
        obtain ⟨cX,nU,hv,_,_⟩:=hv
        simp only [ho,hv,jC,eT] at h
        exact hd _ _ _ _ _ hp h
      · cases hp
    · cases hp
  · simp only [Option.some.injEq,Prod.mk.injEq] at h;obtain ⟨_,rfl⟩:=h;exact cB.refl _
  · cases h
theorem NY {ι:Nat->Nat} {rows:Rows} {tmps:List SV} {bl:List AV} (FD:fs.fz=DR P) (hd:ji cm fs) (eT:∀ g args,fs.ext g args=none) (hR:aQ (RV ι rows) tmps bl) (hp:mR P cm tmps o=true)
    (h:aZ P fs ops (ev (fun _=>none) bl) H o=some (y,H')):cB H H':=by
  rcases Bool.or_eq_true_iff.1 hp with hp | hp
  · exact Rv FD hd eT hp h
  · exact UY hd eT hR hp h
theorem qm {t:TypeId} {a:Operand} (ho:o.op=.load t a) {H2:af} (hr:∀ r off,ρ a=.ptr r off->H2.get r=H.get r) (h:aZ P fs ops ρ H o=some (y,H')):∃ H2',aZ P fs ops ρ H2 o=some (y,H2'):=by
  unfold aZ at h ⊢
  split at h
  · simp only [bj,ho,fi] at h ⊢
    split at h
    · rename_i z hz
      simp only [Option.some.injEq,Prod.mk.injEq] at h
      obtain ⟨rfl,rfl⟩:=h
      have:nN P H2 t (ρ a)=some z:=by
        rw [←hz]
        unfold nN
        split
        · split
          · rename_i d i r off hx
            have:=hr r off hx
            unfold rowOf
            rw [this]
          · rfl
          · rfl
        · rfl
      simp only [this]
      exact ⟨_,rfl⟩
    · cases h
  · simp only [Option.some.injEq,Prod.mk.injEq] at h;obtain ⟨rfl,_⟩:=h;exact ⟨_,rfl⟩
  · cases h
theorem hY {a b:Nat} (h:db a b=true) (k:Nat) (hk:a.testBit k=true):b.testBit k=true:=by
  have:=Nat.eq_of_beq_eq_true h
  have h2:=congrArg (fun x=>x.testBit k) this
  simp only [Nat.testBit_and,hk,Bool.true_and] at h2
  exact h2
theorem jE {a m b:Nat} (h:db (a ^^^ (a&&& m)) b=true) (k:Nat) (hk:a.testBit k=true) (hm:m.testBit k=false):b.testBit k=true:=by
  refine hY h k ?_
  simp [Nat.testBit_xor,Nat.testBit_and,hk,hm]
end
section
variable {P : Program} {fs : fb} {cE : sS} {ops : Array Oper} {o : Oper} {y : AV} {cm : FuncId → Bool} {Ms : List Nat} {aC : List (Option Tmp)} {σ0 : St} {R : Type} {r : R} {H H' : af} {ρ : Operand → AV}
theorem jF (acc:List Rec):cK (fun _=>none) Ms aC σ0.tmps acc acc.length=ev (fun _=>none) (cz .top Ms acc.length aC 0 (bJ σ0.tmps acc)):=by
  funext x
  cases x with
  | tmp t=>
    simp only [cK,ev,fh]
    cases ha:dN Ms t acc.length aC 0 with
    | false=>
      simp only [Bool.false_eq_true,if_false]
      cases (bJ σ0.tmps acc)[t]?<;>rfl
    | true=>
      simp only [if_true]
      cases hx:(bJ σ0.tmps acc)[t]? with
      | none=>
        have:σ0.tmps.length<=t:=by
          have:=List.getElem?_eq_none_iff.1 hx
          rwa [gP] at this
        rw [List.getElem?_eq_none this];rfl
      | some v=>
        have cC:t<σ0.tmps.length:=by
          have:=(List.getElem?_eq_some_iff.1 hx).1
          rwa [gP] at this
        rcases pO σ0.tmps acc hx with h | ⟨h,h2⟩
        · rw [List.getElem?_eq_getElem cC,h];rfl
        · rw [h2,h];rfl
  | _=>rfl
theorem Hi {t:TypeId} {a:Operand} (ho:o.op=.load t a) {H2:af} (hx:cB H H2) (h:∃ H',aZ P fs ops ρ H o=some (y,H')):∃ H2',aZ P fs ops ρ H2 o=some (y,H2'):=by
  obtain ⟨H',h⟩:=h
  unfold aZ at h ⊢
  split at h
  · simp only [bj,ho,fi] at h ⊢
    split at h
    · rename_i z hz
      simp only [Option.some.injEq,Prod.mk.injEq] at h
      obtain ⟨rfl,rfl⟩:=h
      have:nN P H2 t (ρ a)=some z:=by
        rw [←hz]
        unfold nN at hz ⊢
        split at hz
        · split at hz
          · rename_i q off hq
            have hg:∃ row,H.get q=some row:=by
              unfold rowOf at hz
              split at hz
              · rename_i hc;split at hc
                · rename_i hg;exact ⟨_,hg⟩
                · cases hc
              · cases hz
            obtain ⟨row,hg⟩:=hg
            unfold rowOf
            rw [hx.get q (af.cT hg)]
          · rfl
          · cases hz
        · cases hz
      simp only [this]
      exact ⟨_,rfl⟩
    · cases h
  · simp only [Option.some.injEq,Prod.mk.injEq] at h;obtain ⟨rfl,_⟩:=h;exact ⟨_,rfl⟩
  · cases h
theorem LV (hc:ft P o=true) (h:aZ P fs ops ρ H o=some (y,H')) (H2:af):∃ H2',aZ P fs ops ρ H2 o=some (y,H2'):=by
  unfold aZ at h ⊢
  split at h
  · unfold ft at hc
    split at hc
    · rename_i t x lo hi ho
      simp only [bj,ho,fi] at h ⊢
      split at h
      · rename_i z hz
        simp only [Option.some.injEq,Prod.mk.injEq] at h
        obtain ⟨rfl,rfl⟩:=h
        have:q_ P H2 t (ρ x) (SG ρ lo) (SG ρ hi)=some z:=by
          rw [←hz]
          unfold q_
          split at hc
          · rename_i e hu;simp only [hu]
          · rename_i hu;simp only [hu]
          · cases hc
        simp only [this]
        exact ⟨_,rfl⟩
      · cases h
    · cases hc
  · simp only [Option.some.injEq,Prod.mk.injEq] at h;obtain ⟨rfl,_⟩:=h;exact ⟨_,rfl⟩
  · cases h
theorem vS {m:Nat}:∀ (rs:List Rec),(∀ pre q rest,rs=pre++q::rest->q.add=true->m.testBit rest.length=true)->lZ m rs rs.length=true
  | [],_=>rfl
  | q::rs,h=>by
    simp only [lZ,List.length_cons,Nat.add_sub_cancel,Bool.and_eq_true,Bool.or_eq_true,Bool.not_eq_true']
    refine ⟨?_,vS rs fun pre q' rest e hq=>h (q::pre) q' rest (by rw [e];rfl) hq⟩
    cases hq:q.add with
    | false=>exact .inl rfl
    | true=>exact .inr (h [] q rs rfl hq)
theorem vT {fp:B7} {m:Nat} {H:af}:∀ (rs:List Rec),(∀ pre q rest,rs=pre++q::rest->q.add=false->eA q.o.op=false->m.testBit rest.length=false->fp q.o q.ρ q.y H=true)->l6 fp m H rs rs.length=true
  | [],_=>rfl
  | q::rs,h=>by
    simp only [l6,List.length_cons,Nat.add_sub_cancel,Bool.and_eq_true]
    refine ⟨?_,vT rs fun pre q' rest e h1 h2 h3=>h (q::pre) q' rest (by rw [e];rfl) h1 h2 h3⟩
    cases h1:q.add with
    | true=>simp
    | false=>
      cases h2:eA q.o.op with
      | true=>simp
      | false=>
        cases h3:m.testBit rs.length with
        | true=>simp
        | false=>simp [h [] q rs rfl h1 h2 h3]
theorem pg {fp:B7} {m:Nat} {H0:af}:∀ (rs:List Rec),(∀ pre q rest,rs=pre++q::rest->q.add=true->m.testBit rest.length=false->fp o ρ y (aS H0 rest)=true)->gf fp m o ρ y H0 rs rs.length=true
  | [],_=>rfl
  | q::rs,h=>by
    simp only [gf,List.length_cons,Nat.add_sub_cancel]
    have ih:=pg (fp:=fp) (m:=m) (H0:=H0) rs fun pre q' rest e h1 h2=>h (q::pre) q' rest (by rw [e];rfl) h1 h2
    cases h1:q.add with
    | false=>simp only [Bool.false_eq_true,if_false];exact ih
    | true=>
      simp only [if_true]
      cases h2:m.testBit rs.length with
      | true=>simp
      | false=>simp only [Bool.false_eq_true,if_false,Bool.and_eq_true];exact ⟨h [] q rs rfl h1 h2,ih⟩
theorem Bn {C:cp} {ι:Nat->Nat} {rows:Rows} {x:S1} {v:AV} (hE:aE C ι rows H) (hx:R1 ι rows x v) (h:Bk rows x=true) {q:Nat} {cs:List S2} (hq:rows[q]?=some (some (.lit cs))) {off n e:Nat}:
    v≠.slice (ι q) off n e:=by
  unfold Bk at h
  split at h
  · rename_i r aW es
    split at h
    · rename_i nb v' cN m dE aG
      have ef:=Nat.eq_of_beq_eq_true h
      subst ef
      have hx:R1 ι rows (.own r aW es) v:=hx
      obtain ⟨e1,hv⟩:=(hx.2 _ _ _ _ (dk aG)).2 rfl
      rw [hv]
      unfold dc
      by_cases hn:nb=true/\m=0
      · rw [if_pos hn];intro hc;cases hc
      · rw [if_neg hn]
        intro hc
        simp only [AV.slice.injEq] at hc
        have:=hE.inj r q _ _ aG hq hn trivial hc.1
        subst this
        rw [aG] at hq;cases hq
    · cases h
  · have hx:v=.av:=hx
    subst hx
    intro hc;cases hc
  · cases h
theorem EX {sT xT:TypeId} {s x:AV} (h:jy P H sT xT s x=some (y,H')) (bw:H.rev.length=H.n) {q:Nat} (hq:q<H.n) (hs:∀ off n e,s≠.slice q off n e):H'.get q=H.get q:=by
  unfold jy at h
  repeat' (split at h)
  all_goals first
    | (cases h;done)
    | (simp only [Option.some.injEq,Prod.mk.injEq] at h
       obtain ⟨_,rfl⟩:=h
       first
        | rfl
        | exact af.dV hq
        | (rw [af.dV (by simpa using hq),af.fa bw (af.cT (j9 (by assumption)))]
           rw [if_neg (by rintro rfl;exact hs _ _ _ rfl)]))
theorem Hj {C:cp} {ι:Nat->Nat} {rows:Rows} {x:S1} {v:AV} (hE:aE C ι rows H) (hx:R1 ι rows x v) (h:nw rows x=true) {q:Nat} {cs:List S2} (hq:rows[q]?=some (some (.lit cs))) {H1:af} (bw:H1.rev.length=H1.n):
    (B1 H1 v).2.get (ι q)=H1.get (ι q):=by
  have key:(∀ off n e,v≠.slice (ι q) off n e)->(B1 H1 v).2.get (ι q)=H1.get (ι q):=by
    intro hn
    unfold B1
    split
    · split
      · rename_i hr
        show (H1.kill _).get _=_
        rw [af.fa bw (af.cT hr)]
        rw [if_neg (by rintro rfl;exact hn _ _ _ rfl)]
      · rfl
    · rfl
    · rfl
  refine key fun off n e=>?_
  unfold nw at h
  split at h
  · exact Bn hE hx h hq
  · have hx:v=.av:=hx
    rw [hx];intro hc;cases hc
  · have hx:v=_:=hx
    rw [hx];intro hc;cases hc
  · have hx:v=_:=hx
    rw [hx];intro hc;cases hc
  · have hx:v=_:=hx
    rw [hx];intro hc;cases hc
  · have hx:v=_:=hx
    rw [hx];intro hc;cases hc
  · have hx:v=_/\_:=hx
    rw [hx.1];intro hc;cases hc
  · have hx:v=_/\_:=hx
    rw [hx.1];intro hc;cases hc
  · cases h
theorem Hk {C:cp} {ι:Nat->Nat} {rows:Rows} {x:S1} {v:AV} (hE:aE C ι rows H) (hx:R1 ι rows x v) (h:nw rows x=true) (cs:List AV):v≠.agg cs:=by
  unfold nw at h
  split at h
  · rename_i r aW es
    unfold Bk at h
    simp only at h
    split at h
    · rename_i nb v' cN m dE aG
      have ef:=Nat.eq_of_beq_eq_true h
      subst ef
      have hx:R1 ι rows (.own r aW es) v:=hx
      obtain ⟨e1,hv⟩:=(hx.2 _ _ _ _ (dk aG)).2 rfl
      rw [hv]
      unfold dc
      split<;>(intro hc;cases hc)
    · cases h
  · have hx:v=.av:=hx
    rw [hx];intro hc;cases hc
  · have hx:v=_:=hx
    rw [hx];intro hc;cases hc
  · have hx:v=_:=hx
    rw [hx];intro hc;cases hc
  · have hx:v=_:=hx
    rw [hx];intro hc;cases hc
  · have hx:v=_:=hx
    rw [hx];intro hc;cases hc
  · have hx:v=_/\_:=hx
    rw [hx.1];intro hc;cases hc
  · have hx:v=_/\_:=hx
    rw [hx.1];intro hc;cases hc
  · cases h
theorem Hl {C:cp} {ι:Nat->Nat} {rows:Rows} (hE:aE C ι rows H) {q:Nat} {cs:List S2} (hq:rows[q]?=some (some (.lit cs))):
    ∀ {xs:List S2} {vs:List AV} {H1:af},aQ (R2 ι rows) xs vs->(xs.all fun c=>match c with | .b x=>nw rows x | .fn _ _ _=>false)=true->H1.rev.length=H1.n->(OG H1 vs).2.get (ι q)=H1.get (ι q)
  | [],_,H1,.nil,_,_=>rfl
  | .b x::xs,v::vs,H1,.cons hx ht,h,bw=>by
    simp only [List.all_cons,Bool.and_eq_true] at h
    have h1:=Hj (H1:=H1) hE (show R1 ι rows x v from hx) h.1 hq bw
    have h2:=Hl hE hq (H1:=(B1 H1 v).2) ht h.2 (tg bw v).ok
    exact h2.trans h1
  | .fn _ _ _::xs,_,H1,_,h,_=>by simp at h
theorem Di {C:cp} {ι:Nat->Nat} {rows:Rows} (hE:aE C ι rows H) {q:Nat} {cs:List S2} (hq:rows[q]?=some (some (.lit cs))) {ρs:Operand->SV} {ρ:Operand->AV} (hρ:∀ x,RV ι rows (ρs x) (ρ x)):
    ∀ {ps:List (Nat × Operand)} {H1:af},(ps.all fun p=>EW rows (ρs p.2))=true->H1.rev.length=H1.n->(ox H1 (ps.map fun p=>(p.1,ρ p.2))).2.get (ι q)=H1.get (ι q)/\(ox H1 (ps.map fun p=>(p.1,ρ p.2))).2.n=H1.n
  | [],H1,_,_=>⟨rfl,rfl⟩
  | (k,x)::ps,H1,h,bw=>by
    simp only [List.all_cons,Bool.and_eq_true] at h
    have Wl:∀ (v:AV) (H1:af),(B1 H1 v).2.n=H1.n:=by
      intro v H1;unfold B1;split
      · split<;>rfl
      · rfl
      · rfl
    have hnL:∀ (vs:List AV) (H1:af),(OG H1 vs).2.n=H1.n:=by
      intro vs
      induction vs with
      | nil=>intro H1;rfl
      | cons v vs ih=>intro H1;exact (ih _).trans (Wl v H1)
    have h1:(FB H1 (ρ x)).2.get (ι q)=H1.get (ι q)/\(FB H1 (ρ x)).2.n=H1.n:=by
      have hx:=hρ x
      have hk:=h.1
      revert hx hk
      generalize ρs x=xs
      generalize ρ x=v
      intro hx hk
      unfold EW at hk
      split at hk
      · obtain ⟨vs,e,hs⟩:=hx
        subst e
        exact ⟨Hl hE hq hs hk bw,hnL _ _⟩
      · rename_i x1
        have hx:R1 ι rows x1 v:=hx
        have e:FB H1 v=B1 H1 v:=by
          unfold FB
          split
          · exact absurd rfl (Hk hE hx hk _)
          · rfl
        rw [e]
        exact ⟨Hj hE hx hk hq bw,Wl v H1⟩
      · cases hk
    have h2:=Di hE hq hρ (ps:=ps) (H1:=(FB H1 (ρ x)).2) h.2 (zh bw (ρ x)).ok
    exact ⟨h2.1.trans h1.1,h2.2.trans h1.2⟩
theorem UZ {C:cp} {ι:Nat->Nat} {rows:Rows} (FD:fs.fz=DR P) (hE:aE C ι rows H) {tmps:List SV} {bl:List AV} (ht:aQ (RV ι rows) tmps bl) (hk:J8 P rows tmps o=true)
    (h:aZ P fs ops (ev (fun _=>none) bl) H o=some (y,H')) {q:Nat} {cs:List S2} (hq:rows[q]?=some (some (.lit cs))):H'.get (ι q)=H.get (ι q):=by
  have cC:ι q<H.n:=hE.lt hq trivial
  unfold aZ at h
  split at h
  · unfold J8 at hk
    split at hk
    · rename_i args O4 ho
      simp only [bj,ho,fi] at h
      split at hk
      · rename_i s x cW
        simp only [cW,List.map_cons,List.map_nil] at h
        unfold dn at h
        split at h
        · rename_i sv xv aiV aiW adb
          simp only [List.cons.injEq,and_true] at adb
          obtain ⟨rfl,rfl⟩:=adb
          exact EX h hE.ok cC fun off n e=>Bn hE (bo (dw ht s)) hk hq
        all_goals first
          | (cases h;done)
          | simp_all
      · cases hk
    · rename_i t n ps ho
      simp only [bj,ho,FD] at h
      have Rw:∀ {H1:af} {qs:List (Nat × AV)},bC P H1 t n qs=some (y,H')->ι q<H1.n->H'.get (ι q)=H1.get (ι q):=by
        intro H1 qs h hl
        simp only [bC] at h
        repeat' (split at h)
        all_goals first
          | (cases h;done)
          | (simp only [Option.map_eq_some_iff,Prod.mk.injEq] at h;obtain ⟨cs,_,_,rfl⟩:=h;exact af.dV hl)
      split at h
      · obtain ⟨k1,k2⟩:=Di hE hq (fun x=>dw ht x) (H1:=H) hk hE.ok
        exact (Rw h (by rw [k2];exact cC)).trans k1
      · simp only [fi,ho] at h
        exact Rw h cC
    · cases hk
  · simp only [Option.some.injEq,Prod.mk.injEq] at h;obtain ⟨_,rfl⟩:=h;rfl
  · cases h
theorem EY {C:cp} {ι:Nat->Nat} {rows:Rows} (hE:aE C ι rows H) {lt:qH} {tmps:List SV} {bl:List AV} (ht:aQ (RV ι rows) tmps bl) (hk:vQ rows lt tmps o=true)
    (h:aZ P fs ops (ev (fun _=>none) bl) H o=some (y,H')) {p:Nat} {cs:List S2} (hp:rows[p]?=some (some (.lit cs))) (hm:p∈lt.rows):H'.get (ι p)=H.get (ι p):=by
  unfold aZ at h
  split at h
  · unfold vQ at hk
    split at hk
    · rename_i t a x ho
      split at hk
      · rename_i q off hq
        simp only [Bool.and_eq_true,Bool.not_eq_true'] at hk
        obtain ⟨h1,h2⟩:=hk
        unfold isLit at h1
        split at h1
        · rename_i dE aG
          have hb:=bo (dw ht a)
          rw [hq] at hb
          have hv:=hb.2 (iP aG)
          have ek:ι p≠ι q:=by
            intro e
            have:=hE.inj p q _ _ hp aG trivial trivial e
            subst this
            rw [sH.2 hm] at h2;cases h2
          simp only [bj,ho,fi] at h
          split at h
          · rename_i H1 hs
            simp only [Option.some.injEq,Prod.mk.injEq] at h
            obtain ⟨_,rfl⟩:=h
            rw [hv] at hs
            simp only [n5] at hs
            repeat' (split at hs)
            all_goals first
              | (cases hs;done)
              | (simp only [Option.some.injEq] at hs;subst hs;rw [af.iS hE.ok _ (af.cT (hE.row _ _ aG).choose_spec.1),if_neg ek])
          · cases h
        · cases h1
      · cases hk
    · cases hk
  · simp only [Option.some.injEq,Prod.mk.injEq] at h;obtain ⟨_,rfl⟩:=h;rfl
  · cases h
structure hZ (P:Program) (fs:fb) (ops:Array Oper) (σ0:St) (pl:tZ) (acc:List Rec):Prop where
  fl:∀ q∈acc,q.fl=none
  fk:∀ pre q rest,acc=pre++q::rest->q.add=true->pl.fk.testBit rest.length=true
  fU:∀ pre q rest,acc=pre++q::rest->q.add=true->pl.fU.testBit rest.length=true->cB (aS σ0.H rest) (aS σ0.H acc)
  cu:∀ pre q rest,acc=pre++q::rest->q.add=false->Bl P q.o=false->pl.cu.testBit rest.length=true\/∀ H,aZ P fs ops q.ρ H q.o=some (q.y,H)
  NZ:∀ q∈acc,q.add=false->ft P q.o=true->∀ H2,∃ H2',aZ P fs ops q.ρ H2 q.o=some (q.y,H2')
  live:∀ pre q rest,acc=pre++q::rest->pl.live.testBit rest.length=true->(∃ t a,q.o.op=.load t a)/\∃ H',aZ P fs ops q.ρ (aS σ0.H acc) q.o=some (q.y,H')
  bound:∀ k,acc.length<=k->pl.fk.testBit k=false/\pl.fU.testBit k=false/\pl.cu.testBit k=false/\pl.live.testBit k=false
  grow:∀ pre rest,acc=pre++rest->σ0.H.n<=(aS σ0.H rest).n
theorem h_ (a j k:Nat):(a|||2 ^ j).testBit k=(a.testBit k||decide (k=j)):=by
  rw [Nat.testBit_or,Nat.testBit_two_pow]
  congr 1
  exact decide_eq_decide.2 eq_comm
theorem ia {ι:Nat->Nat} {rows:Rows} {tmps:List SV} {bl:List AV} (h:aQ (RV ι rows) tmps bl) (j:Nat):aQ (RV ι rows) (cz (.aT .top) Ms j aC 0 tmps) (cz .top Ms j aC 0 bl):=by
  refine pe (by rw [e_,e_,h.length]) fun t x v h1 h2=>?_
  rw [fh] at h1 h2
  cases ha:dN Ms t j aC 0 with
  | true=>
    rw [ha,if_pos rfl] at h1 h2
    obtain ⟨v',hv,hr⟩:=h.get h1
    rw [hv] at h2;cases h2
    exact hr
  | false=>
    rw [ha] at h1
    simp only [Bool.false_eq_true,if_false,Option.map_eq_some_iff] at h1
    obtain ⟨_,_,rfl⟩:=h1
    trivial
theorem Rx {ι:Nat->Nat} {rows:Rows} {tmps new:List SV} {bl:List AV} (hw:cV Ms aC aC 0=true) {j:Nat} {dst:Option Tmp} (hd:aC[j]?=some dst) (hold:aQ (RV ι rows) tmps bl)
    (nT:aQ (RV ι rows) new (dt (cz .top Ms j aC 0 bl) dst y)):aQ (RV ι rows) (hD tmps Ms j aC 0 new) (dt bl dst y):=by
  have hlen:new.length=tmps.length:=by rw [nT.length,eM,e_,hold.length]
  refine pe (by rw [hU,hlen,eM,hold.length]) fun t x v h1 h2=>?_
  rw [gH _ _ _ _ _ _ _ hlen] at h1
  have ade:∀ u,dst=some u->dN Ms u j aC 0=true:=by
    intro u hu
    have:=qK _ _ hw j u (by rw [hd,hu])
    rwa [Nat.zero_add] at this
  cases ha:dN Ms t j aC 0 with
  | true=>
    rw [ha,if_pos rfl] at h1
    obtain ⟨v',hv,hr⟩:=nT.get h1
    have:(dt (cz .top Ms j aC 0 bl) dst y)[t]?=(dt bl dst y)[t]?:=by
      cases dst with
      | none=>simp only [dt,fh,ha,if_true]
      | some u=>
        simp only [dt,List.getElem?_set,fh,ha,if_true,e_]
    rw [this,h2] at hv
    cases hv
    exact hr
  | false=>
    rw [ha] at h1
    simp only [Bool.false_eq_true,if_false] at h1
    have ek:dst≠some t:=fun e=>by rw [ade t e] at ha;cases ha
    obtain ⟨v',hv,hr⟩:=hold.get h1
    have:(dt bl dst y)[t]?=bl[t]?:=by
      cases dst with
      | none=>rfl
      | some u=>simp only [dt];exact List.getElem?_set_ne (fun e=>ek (by rw [e]))
    rw [this,hv] at h2
    cases h2
    exact hr
end
end Go.Abs
end
noncomputable section
namespace Go.Abs
open Classical
section
variable {P : Program} {fs : fb} {cE : sS} {ops : Array Oper} {td cm : FuncId → Bool} {Ms : List Nat} {aC : List (Option Tmp)} {σ0 : St} {R : Type} {r : R} {s0 : bX} {ι0 : Nat → Nat}
theorem bW {q0:Rec} {acc pre:List Rec} {q:Rec} {rest:List Rec} (h:q0::acc=pre++q::rest):(pre=[]/\q=q0/\rest=acc)\/(∃ cd,pre=q0::cd/\acc=cd++q::rest):=by
 cases pre with
 | nil=>simp only [List.nil_append,List.cons.injEq] at h;exact .inl ⟨rfl,h.1.symm,h.2.symm⟩
 | cons p cd=>simp only [List.cons_append,List.cons.injEq] at h;exact .inr ⟨cd,by rw [h.1],h.2⟩
theorem yo {acc pre:List Rec} {q:Rec} {rest:List Rec} (h:acc=pre++q::rest):rest.length<acc.length:=by rw [h];simp;omega
theorem hZ.quiet {pl:tZ} {acc:List Rec} (hp:hZ P fs ops σ0 pl acc) {o:Oper} {y:AV} {ρ:Operand->AV} {H':af} (B2:tZ) (ha:B2.fk=pl.fk) (ht:B2.fU=pl.fU)
  (hl:∀ k,B2.cu.testBit k=(pl.cu.testBit k||(decide (k=acc.length)&&!Bl P o))) (hv:∀ k,B2.live.testBit k=true->pl.live.testBit k=true\/(k=acc.length/\∃ t a,o.op=.load t a))
  (cA:aZ P fs ops ρ (aS σ0.H acc) o=some (y,H')):hZ P fs ops σ0 B2 (⟨o,ρ,y,H',false,none⟩::acc):=by
 have ny:aS σ0.H (⟨o,ρ,y,H',false,none⟩::acc)=aS σ0.H acc:=by simp [aS]
 refine ⟨fun q hq=>?_,fun pre q rest e h1=>?_,fun pre q rest e h1 h2=>?_,fun pre q rest e h1 h2=>?_,fun q hq h1 h2=>?_,fun pre q rest e h1=>?_,fun k hk=>?_,fun pre rest e=>by
  cases pre with
  | nil=>simp only [List.nil_append] at e;subst e;rw [ny];exact hp.grow [] acc rfl
  | cons p pre=>simp only [List.cons_append,List.cons.injEq] at e;exact hp.grow pre rest e.2⟩
 ·rcases List.mem_cons.1 hq with rfl | hq
  ·rfl
  ·exact hp.fl q hq
 ·rcases bW e with ⟨_,rfl,_⟩ | ⟨cd,_,e⟩
  ·cases h1
  ·rw [ha];exact hp.fk _ _ _ e h1
 ·rw [ny]
  rcases bW e with ⟨_,rfl,_⟩ | ⟨cd,_,e⟩
  ·cases h1
  ·rw [ht] at h2;exact hp.fU _ _ _ e h1 h2
 ·rw [hl]
  rcases bW e with ⟨_,rfl,rfl⟩ | ⟨cd,_,e⟩
  ·simp only at h2;left;simp [h2]
  ·rcases hp.cu _ _ _ e h1 h2 with h | h
   ·rw [h];simp
   ·exact .inr h
 ·rcases List.mem_cons.1 hq with rfl | hq
  ·exact LV h2 cA
  ·exact hp.NZ q hq h1 h2
 ·rw [ny]
  rcases bW e with ⟨_,rfl,rfl⟩ | ⟨cd,_,e⟩
  ·rcases hv _ h1 with h | ⟨_,h⟩
   ·exact absurd h (by rw [(hp.bound _ (Nat.le_refl _)).2.2.2];simp)
   ·exact ⟨h,H',cA⟩
  ·rcases hv _ h1 with h | ⟨h,_⟩
   ·exact hp.live _ _ _ e h
   ·have:=yo e;omega
 ·simp only [List.length_cons] at hk
  obtain ⟨b1,b2,b3,b4⟩:=hp.bound k (by omega)
  refine ⟨by rw [ha];exact b1,by rw [ht];exact b2,?_,?_⟩
  ·rw [hl,b3];simp;omega
  ·cases h:B2.live.testBit k with
   | false=>rfl
   | true=>
    rcases hv k h with h | ⟨h,_⟩
    ·rw [b4] at h;cases h
    ·omega
theorem hZ.still {pl:tZ} {acc:List Rec} (hp:hZ P fs ops σ0 pl acc) {o:Oper} {y:AV} {ρ:Operand->AV} {H':af} (B2:tZ) (ha:∀ k,pl.fk.testBit k=true->B2.fk.testBit k=true)
  (ht:∀ k,k<acc.length->B2.fU.testBit k=true->pl.fU.testBit k=true) (hl:B2.cu=pl.cu) (hv:∀ k,B2.live.testBit k=true->pl.live.testBit k=true)
  (hb:∀ k,acc.length+1<=k->B2.fk.testBit k=false/\B2.fU.testBit k=false) (hc:ft P o=false) (cA:∀ H,aZ P fs ops ρ H o=some (y,H)):hZ P fs ops σ0 B2 (⟨o,ρ,y,H',false,none⟩::acc):=by
 have ny:aS σ0.H (⟨o,ρ,y,H',false,none⟩::acc)=aS σ0.H acc:=by simp [aS]
 refine ⟨fun q hq=>?_,fun pre q rest e h1=>?_,fun pre q rest e h1 h2=>?_,fun pre q rest e h1 h2=>?_,fun q hq h1 h2=>?_,fun pre q rest e h1=>?_,fun k hk=>?_,fun pre rest e=>by
  cases pre with
  | nil=>simp only [List.nil_append] at e;subst e;rw [ny];exact hp.grow [] acc rfl
  | cons p pre=>simp only [List.cons_append,List.cons.injEq] at e;exact hp.grow pre rest e.2⟩
 ·rcases List.mem_cons.1 hq with rfl | hq
  ·rfl
  ·exact hp.fl q hq
 ·rcases bW e with ⟨_,rfl,_⟩ | ⟨cd,_,e⟩
  ·cases h1
  ·exact ha _ (hp.fk _ _ _ e h1)
 ·rw [ny]
  rcases bW e with ⟨_,rfl,_⟩ | ⟨cd,_,e⟩
  ·cases h1
  ·exact hp.fU _ _ _ e h1 (ht _ (yo e) h2)
 ·rw [hl]
  rcases bW e with ⟨_,rfl,rfl⟩ | ⟨cd,_,e⟩
  ·exact .inr cA
  ·exact hp.cu _ _ _ e h1 h2
 ·rcases List.mem_cons.1 hq with rfl | hq
  ·rw [hc] at h2;cases h2
  ·exact hp.NZ q hq h1 h2
 ·rw [ny]
  have h1:=hv _ h1
  rcases bW e with ⟨_,rfl,rfl⟩ | ⟨cd,_,e⟩
  ·rw [(hp.bound _ (Nat.le_refl _)).2.2.2] at h1;cases h1
  ·exact hp.live _ _ _ e h1
 ·simp only [List.length_cons] at hk
  obtain ⟨b1,b2,b3,b4⟩:=hp.bound k (by omega)
  obtain ⟨c1,c2⟩:=hb k (by omega)
  refine ⟨c1,c2,by rw [hl];exact b3,?_⟩
  cases h:B2.live.testBit k with
  | false=>rfl
  | true=>rw [hv k h] at b4;cases b4
theorem hZ.Dj {pl:tZ} {acc:List Rec} (hp:hZ P fs ops σ0 pl acc) {o:Oper} {y:AV} {ρ:Operand->AV} {H':af} (push:Bool) (hc:ft P o=false) (cA:∀ H,aZ P fs ops ρ H o=some (y,H)):
  hZ P fs ops σ0 (pl.plus push acc.length) (⟨o,ρ,y,H',false,none⟩::acc):=by
 have e1:(pl.plus push acc.length).fk=pl.fk|||2 ^ acc.length:=by cases push<;>rfl
 have e2:(pl.plus push acc.length).cu=pl.cu:=by cases push<;>rfl
 refine hp.still _ (fun k hk=>by rw [e1,h_,hk];rfl) (fun k hk h=>?_) e2 (fun k h=>?_) (fun k hk=>⟨?_,?_⟩) hc cA
 ·cases push with
  | true=>
   have h:(pl.fU|||2 ^ acc.length).testBit k=true:=h
   rw [h_] at h
   rcases Bool.or_eq_true_iff.1 h with h | h
   ·exact h
   ·have:=of_decide_eq_true h;omega
  | false=>have h:(0:Nat).testBit k=true:=h;simp at h
 ·cases push with
  | true=>exact h
  | false=>have h:(0:Nat).testBit k=true:=h;simp at h
 ·rw [e1,h_,(hp.bound k (by omega)).1]
  have:¬ k=acc.length:=by omega
  simp [this]
 ·cases push with
  | true=>
   show (pl.fU|||2 ^ acc.length).testBit k=false
   rw [h_,(hp.bound k (by omega)).2.1]
   have:¬ k=acc.length:=by omega
   simp [this]
  | false=>exact Nat.zero_testBit k
theorem Ry {ι:Nat->Nat} {rows:Rows} {x:S1} {v:AV} (hx:R1 ι rows x v) (h:rl1 x=true):Pure v:=by
 unfold rl1 at h
 split at h
 ·have:v=_:=hx;rw [this];exact .bool _
 ·have:v=_:=hx;rw [this];exact .int _ _
 ·have:v=_:=hx;rw [this];rename_i o;cases o;exact .nan _;exact .float _ _
 ·have:v=_:=hx;rw [this];exact .string _
 ·obtain ⟨e,hc⟩:=hx;rw [e];exact .list _ _ fun c KZ=>(hc c KZ).pure
 ·obtain ⟨e,hc⟩:=hx;rw [e];exact .nl _ _ fun c KZ=>(hc c KZ).pure
 ·have:v=_:=hx;rw [this];exact .av
 ·have:v=_:=hx;rw [this];exact .bI
 ·have:v=_:=hx;rw [this];exact .nilFunc
 ·cases h
theorem Hm {ι:Nat->Nat} {rows:Rows} {x:S2} {v:AV} (hx:R2 ι rows x v) (h:rl2 x=true):Pure v:=by
 unfold rl2 at h
 split at h
 ·exact Ry hx h
 ·obtain ⟨a,b,e,h1,h2⟩:=hx
  cases h1;cases h2
  rw [e]
  exact .func _ _ _ (fun x h=>by cases h) (fun x h=>by cases h)
 ·cases h
theorem vU {α:Type} {R:α->AV->Prop} {p:α->Bool} (hR:∀ x v,R x v->p x=true->Pure v):∀ {xs:List α} {vs:List AV},aQ R xs vs->xs.all p=true->∀ v∈vs,Pure v
 | _,_,.nil,_=>fun v h=>by cases h
 | _,_,.cons h1 h2,h=>fun v hv=>by
  simp only [List.all_cons,Bool.and_eq_true] at h
  rcases List.mem_cons.1 hv with rfl | hv
  ·exact hR _ _ h1 h.1
  ·exact vU hR h2 h.2 v hv
theorem Hn {ι:Nat->Nat} {rows:Rows} {x:S3} {v:AV} (hx:R3 ι rows x v) (h:rl3 x=true):Pure v:=by
 cases x with
 | o x=>exact Hm hx h
 | agg cs=>
  obtain ⟨a,e,h1⟩:=hx
  rw [e]
  exact .agg _ (vU (p:=rl2) (fun _ _ h1 h2=>Hm h1 h2) h1 h)
theorem Ho {ι:Nat->Nat} {rows:Rows} {x:SV} {v:AV} (hx:RV ι rows x v) (h:rlV x=true):Pure v:=by
 cases x with
 | s x=>exact Hn hx h
 | tuple cs=>
  obtain ⟨a,e,h1⟩:=hx
  rw [e]
  exact .tuple _ (vU (p:=rl3) (fun _ _ h1 h2=>Hn h1 h2) h1 h)
theorem N2 {td:FuncId->Bool} {l0:List SV} {T:List AV} {ι:Nat->Nat} {rows:Rows} {o:Oper} {H H':af} {y:AV} (hs:qn td fs) (eT:∀ g args,fs.ext g args=none) (hT:aQ (RV ι rows) l0 T) (h:Ka td l0 o=true)
  (cA:aZ P fs ops (ev (fun _=>none) T) H o=some (y,H')) (hy:Pure y):ft P o=false/\∀ H2,aZ P fs ops (ev (fun _=>none) T) H2 o=some (y,H2):=by
 unfold Ka at h
 split at h
 ·rename_i g args O4 ho
  simp only [Bool.and_eq_true] at h
  obtain ⟨⟨hg,hd⟩,ha⟩:=h
  have VG:o.guard=none:=by cases h:o.guard<;>simp [h] at hg;rfl
  refine ⟨by unfold ft;rw [ho],fun H2=>?_⟩
  simp only [aZ,dU,VG,bj,ho,ev,jC,eT] at cA ⊢
  refine hs _ _ _ _ _ hd ?_ cA hy H2
  intro x hx
  simp only [List.nil_append,List.append_nil,List.mem_map] at hx
  obtain ⟨z,hz,rfl⟩:=hx
  exact Ho (dw hT z) (List.all_eq_true.1 ha z hz)
 ·cases h
theorem hZ.add {pl:tZ} {acc:List Rec} (hp:hZ P fs ops σ0 pl acc) {o:Oper} {y:AV} {ρ:Operand->AV} {H':af} (push:Bool) (hx:push=true->cB (aS σ0.H acc) H') (hn:(aS σ0.H acc).n<=H'.n):
  hZ P fs ops σ0 (pl.plus push acc.length) (⟨o,ρ,y,H',true,none⟩::acc):=by
 have ny:aS σ0.H (⟨o,ρ,y,H',true,none⟩::acc)=H':=by simp [aS]
 cases push with
 | true=>
  have hx:=hx rfl
  refine ⟨fun q hq=>?_,fun pre q rest e h1=>?_,fun pre q rest e h1 h2=>?_,fun pre q rest e h1 h2=>?_,fun q hq h1 h2=>?_,fun pre q rest e h1=>?_,fun k hk=>?_,fun pre rest e=>by
   cases pre with
   | nil=>simp only [List.nil_append] at e;subst e;rw [ny];exact Nat.le_trans (hp.grow [] acc rfl) hn
   | cons p pre=>simp only [List.cons_append,List.cons.injEq] at e;exact hp.grow pre rest e.2⟩
  ·rcases List.mem_cons.1 hq with rfl | hq
   ·rfl
   ·exact hp.fl q hq
  ·show (pl.fk|||2 ^ acc.length).testBit _=true
   rw [h_]
   rcases bW e with ⟨_,rfl,rfl⟩ | ⟨cd,_,e⟩
   ·simp
   ·rw [hp.fk _ _ _ e h1];simp
  ·rw [ny]
   rcases bW e with ⟨_,rfl,rfl⟩ | ⟨cd,_,e⟩
   ·exact hx
   ·have h2:(pl.fU|||2 ^ acc.length).testBit rest.length=true:=h2
    rw [h_] at h2
    have:=yo e
    have h2:pl.fU.testBit rest.length=true:=by
     rcases Bool.or_eq_true_iff.1 h2 with h | h
     ·exact h
     ·have:=of_decide_eq_true h;omega
    exact (hp.fU _ _ _ e h1 h2).trans hx
  ·rcases bW e with ⟨_,rfl,rfl⟩ | ⟨cd,_,e⟩
   ·cases h1
   ·exact hp.cu _ _ _ e h1 h2
  ·rcases List.mem_cons.1 hq with rfl | hq
   ·cases h1
   ·exact hp.NZ q hq h1 h2
  ·rw [ny]
   rcases bW e with ⟨_,rfl,rfl⟩ | ⟨cd,_,e⟩
   ·have h1:pl.live.testBit _=true:=h1
    rw [(hp.bound _ (Nat.le_refl _)).2.2.2] at h1
    cases h1
   ·obtain ⟨⟨t,a,ho⟩,cA⟩:=hp.live _ _ _ e h1
    exact ⟨⟨t,a,ho⟩,Hi ho hx cA⟩
  ·simp only [List.length_cons] at hk
   obtain ⟨b1,b2,b3,b4⟩:=hp.bound k (by omega)
   have:¬ k=acc.length:=by omega
   exact ⟨by show (pl.fk|||2 ^ acc.length).testBit k=false;rw [h_,b1];simp [this],by show (pl.fU|||2 ^ acc.length).testBit k=false;rw [h_,b2];simp [this],b3,b4⟩
 | false=>
  refine ⟨fun q hq=>?_,fun pre q rest e h1=>?_,fun pre q rest e h1 h2=>?_,fun pre q rest e h1 h2=>?_,fun q hq h1 h2=>?_,fun pre q rest e h1=>?_,fun k hk=>?_,fun pre rest e=>by
   cases pre with
   | nil=>simp only [List.nil_append] at e;subst e;rw [ny];exact Nat.le_trans (hp.grow [] acc rfl) hn
   | cons p pre=>simp only [List.cons_append,List.cons.injEq] at e;exact hp.grow pre rest e.2⟩
  ·rcases List.mem_cons.1 hq with rfl | hq
   ·rfl
   ·exact hp.fl q hq
  ·show (pl.fk|||2 ^ acc.length).testBit _=true
   rw [h_]
   rcases bW e with ⟨_,rfl,rfl⟩ | ⟨cd,_,e⟩
   ·simp
   ·rw [hp.fk _ _ _ e h1];simp
  ·have h2:(0:Nat).testBit rest.length=true:=h2
   simp at h2
  ·rcases bW e with ⟨_,rfl,rfl⟩ | ⟨cd,_,e⟩
   ·cases h1
   ·exact hp.cu _ _ _ e h1 h2
  ·rcases List.mem_cons.1 hq with rfl | hq
   ·cases h1
   ·exact hp.NZ q hq h1 h2
  ·have h1:(0:Nat).testBit rest.length=true:=h1
   simp at h1
  ·simp only [List.length_cons] at hk
   obtain ⟨b1,b2,b3,b4⟩:=hp.bound k (by omega)
   have:¬ k=acc.length:=by omega
   exact ⟨by show (pl.fk|||2 ^ acc.length).testBit k=false;rw [h_,b1];simp [this],Nat.zero_testBit k,b3,Nat.zero_testBit k⟩
structure jj (P:Program) (fs:fb) (ops:Array Oper) (σ0:St) (bc:Rows) (ι0:Nat->Nat) (lt:qH) (acc:List Rec):Prop where
 ok:∀ pre q rest,acc=pre++q::rest->lt.mask.testBit rest.length=true->
  (∃ t a,q.o.op=.load t a/\∀ r off,q.ρ a=.ptr r off->∃ p cs,p∈lt.rows/\bc[p]?=some (some (.lit cs))/\r=ι0 p)/\∃ H',aZ P fs ops q.ρ (aS σ0.H acc) q.o=some (q.y,H')
 bound:∀ k,acc.length<=k->lt.mask.testBit k=false
theorem jj.none {acc:List Rec}:jj P fs ops σ0 s0.rows ι0 ⟨0,[]⟩ acc:=
 ⟨fun pre q rest e h=>by simp at h,fun k _=>Nat.zero_testBit k⟩
theorem jj.quiet {lt:qH} {acc:List Rec} (h:jj P fs ops σ0 s0.rows ι0 lt acc) {q0:Rec} (ny:aS σ0.H (q0::acc)=aS σ0.H acc):jj P fs ops σ0 s0.rows ι0 lt (q0::acc):=by
 refine ⟨fun pre q rest e hb=>?_,fun k hk=>h.bound k (by simp at hk;omega)⟩
 rw [ny]
 rcases bW e with ⟨_,_,rfl⟩ | ⟨cd,_,e⟩
 ·rw [h.bound _ (Nat.le_refl _)] at hb;cases hb
 ·exact h.ok _ _ _ e hb
theorem jj.add {lt:qH} {acc:List Rec} (h:jj P fs ops σ0 s0.rows ι0 lt acc) {q0:Rec} {H':af} (ny:aS σ0.H (q0::acc)=H')
  (hs:∀ p cs,p∈lt.rows->s0.rows[p]?=some (some (.lit cs))->H'.get (ι0 p)=(aS σ0.H acc).get (ι0 p)):jj P fs ops σ0 s0.rows ι0 lt (q0::acc):=by
 refine ⟨fun pre q rest e hb=>?_,fun k hk=>h.bound k (by simp at hk;omega)⟩
 rw [ny]
 rcases bW e with ⟨_,_,rfl⟩ | ⟨cd,_,e⟩
 ·rw [h.bound _ (Nat.le_refl _)] at hb;cases hb
 ·obtain ⟨⟨t,a,ho,hr⟩,H2,cA⟩:=h.ok _ _ _ e hb
  refine ⟨⟨t,a,ho,hr⟩,qm ho (fun r off hq=>?_) cA⟩
  obtain ⟨p,cs,hp,aG,rfl⟩:=hr r off hq
  exact hs p cs hp aG
theorem jj.load {lt:qH} {acc:List Rec} (h:jj P fs ops σ0 s0.rows ι0 lt acc) {q0:Rec} (ny:aS σ0.H (q0::acc)=aS σ0.H acc) {t:TypeId} {a:Operand} (ho:q0.o.op=.load t a) (cA:∃ H',aZ P fs ops q0.ρ (aS σ0.H acc) q0.o=some (q0.y,H'))
  {x:SV} {ι:Nat->Nat} {rows:Rows} (hx:RV ι rows x (q0.ρ a)) (hle:Le ι0 s0.rows ι rows):jj P fs ops σ0 s0.rows ι0 (lt.load s0.rows acc.length x) (q0::acc):=by
 unfold qH.load
 split
 ·rename_i N3
  have main:∀ ah,(∀ p∈lt.rows,p∈ah)->(∀ r off,q0.ρ a=.ptr r off->∃ p cs,p∈ah/\s0.rows[p]?=some (some (.lit cs))/\r=ι0 p)->jj P fs ops σ0 s0.rows ι0 ⟨lt.mask|||2 ^ acc.length,ah⟩ (q0::acc):=by
   intro ah Ck nT
   refine ⟨fun pre q rest e hb=>?_,fun k hk=>?_⟩
   ·rw [ny]
    rcases bW e with ⟨_,rfl,rfl⟩ | ⟨cd,_,e⟩
    ·exact ⟨⟨t,a,ho,nT⟩,cA⟩
    ·have hb:(lt.mask|||2 ^ acc.length).testBit rest.length=true:=hb
     rw [h_] at hb
     have:=yo e
     have hb:lt.mask.testBit rest.length=true:=by
      rcases Bool.or_eq_true_iff.1 hb with h | h
      ·exact h
      ·have:=of_decide_eq_true h;omega
     obtain ⟨⟨t',a',Ti,hr⟩,hs⟩:=h.ok _ _ _ e hb
     refine ⟨⟨t',a',Ti,fun r off hq=>?_⟩,hs⟩
     obtain ⟨p,cs,hp,aG,e2⟩:=hr r off hq
     exact ⟨p,cs,Ck p hp,aG,e2⟩
   ·simp only [List.length_cons] at hk
    show (lt.mask|||2 ^ acc.length).testBit k=false
    rw [h_,h.bound k (by omega)]
    simp;omega
  split
  ·rename_i p off ye
   refine main _ (fun p hp=>List.mem_cons_of_mem _ hp) fun r Kd hq=>?_
   rw [hq] at hx
   have hv:=bo hx
   rw [ye] at hv
   have N3:pf s0.rows (.ptr p off)=true:=by
    revert N3 ye hx
    cases x with
    | tuple xs=>intro _ _ hx;obtain ⟨_,e0,_⟩:=hx;cases e0
    | s x=>intro N3 ye hx;rw [←ye];exact N3
   simp only [pf] at N3
   split at N3
   ·rename_i cs aG
    obtain ⟨WC,WD⟩:=hle.st p (bQ aG) (iP aG)
    have:=hv.2 WC
    simp only [AV.ptr.injEq] at this
    exact ⟨p,cs,List.mem_cons_self,aG,by rw [this.1,WD]⟩
   ·cases N3
  ·rename_i ye
   refine main _ (fun p hp=>hp) fun r Kd hq=>?_
   exfalso
   rw [hq] at hx
   have hv:=bo hx
   revert N3 hx ye hv
   cases x with
   | tuple xs=>intro _ _ hx _;obtain ⟨_,e0,_⟩:=hx;cases e0
   | s x=>
    intro N3 ye hx hv
    have N3:pf s0.rows (SV.s x).b1=true:=N3
    generalize (SV.s x).b1=xa at N3 ye hv
    cases xa with
    | ptr p off=>exact ye p off rfl
    | fm cs off=>have:=hv.1;cases this
    | _=>simp [pf] at N3
 ·exact h.quiet ny
theorem jQ:∀ (R:List Rec) (tmps:List AV) (H:af),(∀ q∈R,q.fl=none)->cf R tmps H=(tmps,H)
 | [],tmps,H,_=>rfl
 | q::R,tmps,H,h=>by
  have hq:=h q List.mem_cons_self
  simp only [cf,hq]
  exact jQ R tmps H fun q' hq'=>h q' (List.mem_cons_of_mem _ hq')
theorem LW {R:Type} {r:R} {ι ι':Nat->Nat} {rows ah:Rows} {k:Option R} (hle:Le ι rows ι' ah) {x y:S1} (h:UX rows k x y=some r):k=some r/\∀ u v,R1 ι rows x u->R1 ι' ah y v->u=v:=by
 unfold UX at h
 split at h
 ·obtain ⟨h1,h2⟩:=aD h
  rw [ab] at h1
  have e:=of_decide_eq_true h1
  subst e
  exact ⟨h2,fun u v hu hv=>Eq.trans hu (Eq.symm hv)⟩
 ·split at h
  ·rename_i i a j b hij
   obtain ⟨h1,h2⟩:=aD h
   rw [ab] at h1
   have e:=of_decide_eq_true h1
   have e2:=of_decide_eq_true hij
   subst e e2
   exact ⟨h2,fun u v hu hv=>Eq.trans hu (Eq.symm hv)⟩
  ·cases h
 ·split at h
  ·rename_i i a j b hij
   obtain ⟨h1,h2⟩:=aD h
   rw [ab] at h1
   have e:=of_decide_eq_true h1
   have e2:=of_decide_eq_true hij
   subst e e2
   exact ⟨h2,fun u v hu hv=>Eq.trans hu (Eq.symm hv)⟩
  ·cases h
 ·obtain ⟨h1,h2⟩:=aD h
  rw [ab] at h1
  have e:=of_decide_eq_true h1
  subst e
  exact ⟨h2,fun u v hu hv=>Eq.trans hu (Eq.symm hv)⟩
 ·obtain ⟨h1,h2⟩:=aD h
  rw [ab] at h1
  obtain ⟨e1,e2⟩:=of_decide_eq_true h1
  subst e1 e2
  exact ⟨h2,fun u v hu hv=>Eq.trans hu.1 (Eq.symm hv.1)⟩
 ·obtain ⟨h1,h2⟩:=aD h
  rw [ab] at h1
  obtain ⟨e1,e2⟩:=of_decide_eq_true h1
  subst e1 e2
  exact ⟨h2,fun u v hu hv=>Eq.trans hu.1 (Eq.symm hv.1)⟩
 ·split at h
  ·rename_i p q bq hpq
   have e:=Nat.eq_of_beq_eq_true hpq
   subst e
   split at h
   ·rename_i es c aG
    refine ⟨h,fun u v hu hv=>?_⟩
    have hs:sg rows p=none:=by unfold sg;rw [aG]
    obtain ⟨h1,h2⟩:=hle.st p (bQ aG) hs
    rw [hu.2 hs,hv.2 h1,h2]
   ·cases h
  ·cases h
 ·split at h
  ·rename_i p a q b bq hpq
   rw [Bool.and_eq_true] at hpq
   have e:=Nat.eq_of_beq_eq_true hpq.1
   have e2:=Nat.eq_of_beq_eq_true hpq.2
   subst e e2
   split at h
   ·rename_i l aG
    refine ⟨h,fun u v hu hv=>?_⟩
    have hs:=iP aG
    obtain ⟨h1,h2⟩:=hle.st p (bQ aG) hs
    rw [hu.2 hs,hv.2 h1,h2]
   ·cases h
  ·cases h
 ·cases h
theorem EZ {R:Type} {r:R} {ι ι':Nat->Nat} {rows ah:Rows} {k:Option R} (hle:Le ι rows ι' ah):∀ {xs ys:List S1},J9 rows k xs ys=some r->k=some r/\∀ us vs,aQ (R1 ι rows) xs us->aQ (R1 ι' ah) ys vs->us=vs
 | [],[],h=>⟨h,fun us vs hu hv=>by cases hu;cases hv;rfl⟩
 | x::xs,y::ys,h=>by
  simp only [J9] at h
  obtain ⟨h1,h2⟩:=LW hle h
  obtain ⟨h3,h4⟩:=EZ hle h1
  refine ⟨h3,fun us vs hu hv=>?_⟩
  cases hu with
  | cons a1 a2=>cases hv with
   | cons b1 b2=>rw [h2 _ _ a1 b1,h4 _ _ a2 b2]
 | [],_::_,h=>by simp [J9] at h
 | _::_,[],h=>by simp [J9] at h
theorem E0 {R:Type} {r:R} {ι ι':Nat->Nat} {rows ah:Rows} {k:Option R} (hle:Le ι rows ι' ah):∀ {xs ys:List S2},Bm rows k xs ys=some r->k=some r/\∀ us vs,aQ (R2 ι rows) xs us->aQ (R2 ι' ah) ys vs->us=vs
 | [],[],h=>⟨h,fun us vs hu hv=>by cases hu;cases hv;rfl⟩
 | .b x::xs,.b y::ys,h=>by
  simp only [Bm] at h
  obtain ⟨h1,h2⟩:=LW hle h
  obtain ⟨h3,h4⟩:=E0 hle h1
  refine ⟨h3,fun us vs hu hv=>?_⟩
  cases hu with
  | cons a1 a2=>cases hv with
   | cons b1 b2=>rw [h2 _ _ a1 b1,h4 _ _ a2 b2]
 | .fn f a c::xs,.fn g b d::ys,h=>by
  simp only [Bm] at h
  split at h
  ·rename_i SF
   have e:=Nat.eq_of_beq_eq_true SF
   subst e
   obtain ⟨h1,h2⟩:=EZ hle h
   obtain ⟨h3,h4⟩:=EZ hle h1
   obtain ⟨h5,h6⟩:=E0 hle h3
   refine ⟨h5,fun us vs hu hv=>?_⟩
   cases hu with
   | cons a1 a2=>cases hv with
    | cons b1 b2=>
     obtain ⟨p,q,e1,e2,e3⟩:=a1
     obtain ⟨p',q',e1',e2',e3'⟩:=b1
     rw [e1,e1',h2 _ _ e2 e2',h4 _ _ e3 e3',h6 _ _ a2 b2]
  ·cases h
 | [],_::_,h=>by simp [Bm] at h
 | .b _::_,[],h=>by simp [Bm] at h
 | .fn _ _ _::_,[],h=>by simp [Bm] at h
 | .fn _ _ _::_,.b _::_,h=>by simp [Bm] at h
 | .b _::_,.fn _ _ _::_,h=>by simp [Bm] at h
theorem xh {C:cp} {R:Type} {r:R} {ι ι':Nat->Nat} {rows ah:Rows} {H H':af} (hE:aE C ι rows H) (FI:aE C ι' ah H') (hle:Le ι rows ι' ah) {k:Option R}:∀ {qs:List Nat},t_ rows ah k qs=some r->
  k=some r/\∀ q∈qs,H'.get (ι q)=H.get (ι q)
 | [],h=>⟨h,fun q hq=>by cases hq⟩
 | q::qs,h=>by
  unfold t_ at h
  split at h
  ·rename_i cs dE h1 h2
   obtain ⟨h3,h4⟩:=E0 hle h
   obtain ⟨h5,h6⟩:=xh hE FI hle h3
   refine ⟨h5,fun p hp=>?_⟩
   rcases List.mem_cons.1 hp with rfl | hp
   ·obtain ⟨us,a1,a2⟩:=hE.row _ _ h1
    obtain ⟨vs,b1,b2⟩:=FI.row _ _ h2
    have e:=(hle.st p (bQ h1) (iP h1)).2
    rw [←e,b1,e,a1,h4 us vs a2 b2]
   ·exact h6 p hp
  ·cases h
theorem ph:∀ (xs:List AV) (c:List AV) (off:Nat),c.all mw=true->xs.all mw=true->(ag c off xs).all mw=true
 | [],c,off,hc,_=>hc
 | x::xs,c,off,hc,hx=>by
  simp only [List.all_cons,Bool.and_eq_true] at hx
  refine ph xs _ _ ?_ hx.2
  refine List.all_eq_true.2 fun y hy=>?_
  rcases List.mem_or_eq_of_mem_set hy with h | rfl
  ·exact List.all_eq_true.1 hc y h
  ·exact hx.1
theorem xi {pl:Nat->Option (Nat × Nat)}:∀ (ps:List (Nat × AV)) {c cs:List AV},c.all mw=true->(∀ p∈ps,mw p.2=true)->gd pl c ps=some cs->cs.all mw=true
 | [],c,cs,hc,_,h=>by simp only [gd,Option.some.injEq] at h;rw [←h];exact hc
 | (k,x)::ps,c,cs,hc,hp,h=>by
  simp only [gd] at h
  split at h
  ·cases h
  ·split at h
   ·refine xi ps (ph _ _ _ hc ?_) (fun p Ix=>hp p (List.mem_cons_of_mem _ Ix)) h
    have:=hp (k,x) List.mem_cons_self
    cases x<;>simp [mw] at this<;>rfl
   ·cases h
theorem N4 {j:Nat} {o:Oper} {l0:List SV} {T:List AV} {ι:Nat->Nat} {rows:Rows} {H H':af} {y:AV} (FD:fs.fz=DR P) (hT:aQ (RV ι rows) l0 T) (hq:J' P Ms j o=true) (hp:J_ l0 o=true)
  (cA:aZ P fs ops (ev (fun _=>none) T) H o=some (y,H')):∃ z,s8 P fs Ms j o (ev (fun _=>none) T)=some z/\y=FT z.1 H.n/\H'=H.push (.cells z.2):=by
 unfold J' at hq
 split at hq
 ·rename_i t n ps ho
  simp only [Bool.and_eq_true,Bool.not_eq_true'] at hq
  obtain ⟨⟨⟨hg,hn⟩,hf⟩,hz⟩:=hq
  have VG:o.guard=none:=by cases h:o.guard<;>simp [h] at hg;rfl
  simp only [J_,ho] at hp
  simp only [aZ,dU,VG,bj,ho,FD,hf,Bool.false_eq_true,if_false,fi] at cA
  have hr:∀ p∈ps.toList.map (fun p=>(p.1,ev (fun _=>none) T p.2)),mw p.2=true:=by
   intro p Qa
   obtain ⟨q,hq1,rfl⟩:=List.mem_map.1 Qa
   have h1:=List.all_eq_true.1 hp q hq1
   have h2:=dw hT q.2
   revert h1 h2
   generalize qT l0 q.2=x
   generalize ev (fun _=>none) T q.2=v
   intro h1 h2
   unfold Ru at h1
   have h3:=bo h2
   split at h1<;>first | exact absurd h1 (by decide) | (have h4:v=_:=h3;rw [h4];rfl)
  generalize hps:ps.toList.map (fun p=>(p.1,ev (fun _=>none) T p.2))=qs at *
  unfold bC at cA
  cases hu:P.underlying t with
  | none=>simp [hu] at cA
  | some u=>
   cases u with
   | slice e=>
    simp only [hu] at cA hz
    cases hi:P.info? e with
    | none=>simp [hi] at cA
    | some inf=>
     cases hzo:zeroOf P e with
     | none=>simp [hi,hzo] at cA
     | some z=>
      simp only [hi,hzo] at cA hz
      split at cA
      ·rename_i hc
       cases H6:gd (fun k=>some (k*inf.size,inf.size)) (aX z.cells (n*inf.size)) qs with
       | none=>simp [H6] at cA
       | some cs=>
        simp only [H6,Option.map_some,Option.some.injEq,Prod.mk.injEq] at cA
        refine ⟨(.slice 0 0 n inf.size,cs),?_,cA.1.symm,cA.2.symm⟩
        have aG:(aX z.cells (n*inf.size)).all mw=true:=by
         simp only [Bool.and_eq_true,decide_eq_true_eq,beq_iff_eq] at hc
         refine List.all_eq_true.2 fun x hx=>?_
         simp only [aX,List.mem_map,List.mem_range] at hx
         obtain ⟨k,hk,rfl⟩:=hx
         have OX:0<z.cells.length:=by
          rcases Nat.eq_zero_or_pos z.cells.length with h0 | h0
          ·rw [←hc.2,h0] at hk;simp at hk
          ·exact h0
         have hm:k%z.cells.length<z.cells.length:=Nat.mod_lt _ OX
         rw [List.getElem?_eq_getElem hm,Option.getD_some]
         exact List.all_eq_true.1 hz _ (List.getElem_mem hm)
        have cR:=xi _ aG hr H6
        simp only [s8,ho,VG,hn,FD,hf,hps,bC,hu,hi,hzo,H6,Bool.not_false,Bool.and_self,if_true,Option.map_some]
        rw [if_pos hc]
        simp only [af.push,cR,if_true]
      ·cases cA
   | _=>simp [hu] at cA
 ·cases hq
theorem vV {o:Oper} (h:ft P o=true):quietAt P o=true:=by
 unfold ft at h
 split at h
 ·rename_i ho;simp [quietAt,ho,iU]
 ·cases h
theorem jG (cI:ir P (aI P) cE fs) (jw:∀ (o:Oper) (tmps:List AV) (H H':af) (y:AV),H.rev.length=H.n->aZ P fs ops (ev (fun _=>none) tmps) H o=some (y,H')->H.n<=H'.n) (bZ:ji cm fs) (wy:qn td fs)
  (hw:cV Ms aC aC 0=true) (NW:fg (aI P) ι0 s0 σ0):∀ (os:List Oper) (pl:tZ) (lt:qH) (s:bX) (K:bX->Option R) (acc:List Rec) (ι:Nat->Nat),
  (∀ t o,os[t]?=some o->aC[acc.length+t]?=some o.dst)->hZ P fs ops σ0 pl acc->jj P fs ops σ0 s0.rows ι0 lt acc->fg (aI P) ι s { σ0 with tmps:=bJ σ0.tmps acc,H:=aS σ0.H acc }->Le ι0 s0.rows ι s.rows->
  vR P td cm cE ops Ms aC s0.rows os acc.length pl lt s K=some r->
  ∃ fQ s' ι',dF (qI P fs ops) P (fun _=>none) fs ops Ms aC σ0 os acc.length acc=some fQ/\fg (aI P) ι' s' { σ0 with tmps:=(cf fQ (bJ σ0.tmps fQ) (aS σ0.H fQ)).1,H:=(cf fQ (bJ σ0.tmps fQ) (aS σ0.H fQ)).2 }/\Le ι0 s0.rows ι' s'.rows/\K s'=some r
 | [],pl,lt,s,K,acc,ι,Ty,hp,cC,hE,hle,h=>⟨acc,s,ι,rfl,by rw [jQ acc _ _ hp.fl];exact hE,hle,h⟩
 | o::os,pl,lt,s,K,acc,ι,Ty,hp,cC,hE,hle,h=>by
  have Tx:aC[acc.length]?=some o.dst:=by simpa using Ty 0 o rfl
  have Ke:∀ (q:Rec) t o',os[t]?=some o'->aC[(q::acc).length+t]?=some o'.dst:=by
   intro q t o' ht
   have:=Ty (t+1) o' (by simpa using ht)
   rwa [show acc.length+(t+1)=(q::acc).length+t by simp;omega] at this
  simp only [vR] at h
  split at h
  ·rename_i z dg
   split at h
   ·split at h
    ·rename_i Fy
     obtain ⟨σ',s',ι',h1,h2,h3,h4⟩:=o7 cI hE h
     refine ⟨⟨o,cK (fun _=>none) Ms aC σ0.tmps acc acc.length,.top,σ0.H,false,some (.ptr 0 0,z.cells)⟩::acc,s',ι',?_,?_,hle.trans h3,h4⟩
     ·simp only [dF,dg,Fy]
     ·have hz:∃ t,o.op=.alloc t/\o.guard=none/\zeroOf P t=some z:=by
       unfold rf at dg
       split at dg
       ·rename_i t ho
        split at dg
        ·rename_i hg
         split at dg
         ·exact ⟨t,ho,hg,dg⟩
         ·cases dg
        ·cases dg
       ·cases dg
      obtain ⟨t,ho,hg,hz⟩:=hz
      unfold gZ at h1
      split at h1
      ·rename_i y H' cA
       simp only [Option.some.injEq] at h1
       subst h1
       have hyH:y=.ptr (aS σ0.H acc).n 0/\H'=(aS σ0.H acc).push (.cells z.cells):=by
        unfold aZ at cA
        simp only [dU,hg,bj,ho,fi,hz,Option.some.injEq,Prod.mk.injEq] at cA
        exact ⟨cA.1.symm,cA.2.symm⟩
       obtain ⟨rfl,rfl⟩:=hyH
       have e1:aS σ0.H (⟨o,cK (fun _=>none) Ms aC σ0.tmps acc acc.length,.top,σ0.H,false,some (.ptr 0 0,z.cells)⟩::acc)=aS σ0.H acc:=rfl
       have e2:dt (dt (bJ σ0.tmps acc) o.dst .top) o.dst (.ptr (aS σ0.H acc).n 0)=dt (bJ σ0.tmps acc) o.dst (.ptr (aS σ0.H acc).n 0):=by
        cases o.dst with
        | none=>rfl
        | some d=>simp only [dt,List.set_set]
       simp only [e1,cf,bJ,jQ acc _ _ hp.fl,FT,e2]
       exact h2
      ·cases h1
    ·cases h
   ·cases h
  ·rename_i dg
   simp only [Hh,Rs] at h
   have LX:∀ (B2:tZ) (lt':qH) (K':bX->Option R),
     lM P cE ops o { s with tmps:=cz (.aT .top) Ms acc.length aC 0 s.tmps } K'=some r->
     ∃ y H' s1 ι1 s',aZ P fs ops (cK (fun _=>none) Ms aC σ0.tmps acc acc.length) (aS σ0.H acc) o=some (y,H')/\Le ι0 s0.rows ι1 s1.rows/\
      (∀ add,(if add=true then H' else aS σ0.H acc)=H'->fg (aI P) ι1 s1 { σ0 with tmps:=bJ σ0.tmps (⟨o,cK (fun _=>none) Ms aC σ0.tmps acc acc.length,y,H',add,none⟩::acc),H:=aS σ0.H (⟨o,cK (fun _=>none) Ms aC σ0.tmps acc acc.length,y,H',add,none⟩::acc) })/\
      K' s'=some r/\s1={ s' with tmps:=hD s.tmps Ms acc.length aC 0 s'.tmps }/\Le ι s.rows ι1 s'.rows/\(∀ d x,o.dst=some d->s'.tmps[d]?=some x->RV ι1 s'.rows x y):=by
    intro B2 lt' K' h
    have hEj:fg (aI P) ι { s with tmps:=cz (.aT .top) Ms acc.length aC 0 s.tmps } { σ0 with tmps:=cz .top Ms acc.length aC 0 (bJ σ0.tmps acc),H:=aS σ0.H acc }:=
     ⟨ia hE.tmps _,hE.rows,hE.defers,hE.mZ⟩
    obtain ⟨σ',s',ι',h1,h2,h3,h4⟩:=o7 cI hEj h
    unfold gZ at h1
    split at h1
    ·rename_i y H' cA
     simp only [Option.some.injEq] at h1
     subst h1
     rw [←jF] at cA
     refine ⟨y,H',{ s' with tmps:=hD s.tmps Ms acc.length aC 0 s'.tmps },ι',s',cA,hle.trans h3,fun add bZ=>?_,h4,rfl,h3,fun d x hd hx=>?_⟩
     rotate_left
     ·obtain ⟨v,hv,hr⟩:=h2.tmps.get hx
      rw [hd] at hv
      simp only [dt] at hv
      have cC:=(List.getElem?_eq_some_iff.1 hv).1
      rw [List.getElem?_set_self (by simpa using cC)] at hv
      simp only [Option.some.injEq] at hv
      rw [hv];exact hr
     refine ⟨?_,?_,h2.defers,h2.mZ⟩
     ·show aQ _ (hD s.tmps Ms acc.length aC 0 s'.tmps) (dt (bJ σ0.tmps acc) o.dst y)
      exact Rx hw Tx (hE.tmps.mono fun _ _=>h3.rv) h2.tmps
     ·show aE _ _ _ (aS σ0.H _)
      simp only [aS]
      rw [bZ]
      exact h2.rows
    ·cases h1
   have step:∀ (B2:tZ) (lt':qH) (K':bX->Option R),(∀ s',K' s'=vR P td cm cE ops Ms aC s0.rows os (acc.length+1) B2 lt' { s' with tmps:=hD s.tmps Ms acc.length aC 0 s'.tmps } K)->
     lM P cE ops o { s with tmps:=cz (.aT .top) Ms acc.length aC 0 s.tmps } K'=some r->
     ∃ y H' s1 ι1,aZ P fs ops (cK (fun _=>none) Ms aC σ0.tmps acc acc.length) (aS σ0.H acc) o=some (y,H')/\Le ι0 s0.rows ι1 s1.rows/\
      (∀ add,(if add=true then H' else aS σ0.H acc)=H'->fg (aI P) ι1 s1 { σ0 with tmps:=bJ σ0.tmps (⟨o,cK (fun _=>none) Ms aC σ0.tmps acc acc.length,y,H',add,none⟩::acc),H:=aS σ0.H (⟨o,cK (fun _=>none) Ms aC σ0.tmps acc acc.length,y,H',add,none⟩::acc) })/\
      vR P td cm cE ops Ms aC s0.rows os (acc.length+1) B2 lt' s1 K=some r:=by
    intro B2 lt' K' hK' h
    obtain ⟨y,H',s1,ι1,s',k1,k2,k3,k4,rfl,_,_⟩:=LX B2 lt' K' h
    rw [hK'] at k4
    exact ⟨y,H',_,ι1,k1,k2,k3,k4⟩
   have down:∀ {y:AV} {H':af},aZ P fs ops (cK (fun _=>none) Ms aC σ0.tmps acc acc.length) (aS σ0.H acc) o=some (y,H')->
     (db pl.fk (Ms.getD acc.length 0)||(db (pl.fk ^^^ (pl.fk&&& Ms.getD acc.length 0)) pl.fU&&(match addrOf o.op with | some a=>J7 s0.rows (qT (cz (.aT .top) Ms acc.length aC 0 s.tmps) a) | none=>false)))=true->
     gf (qI P fs ops) (Ms.getD acc.length 0) o (cK (fun _=>none) Ms aC σ0.tmps acc acc.length) y σ0.H acc acc.length=true:=by
    intro y H' cA hc
    refine pg acc fun pre q rest e h1 h2=>?_
    have hb:=hp.fk _ _ _ e h1
    rcases Bool.or_eq_true_iff.1 hc with hc | hc
    ·rw [hY hc _ hb] at h2;cases h2
    ·simp only [Bool.and_eq_true] at hc
     obtain ⟨c1,c2⟩:=hc
     have htr:=hp.fU _ _ _ e h1 (jE c1 _ hb h2)
     cases OH:o.op with
     | load t a=>
      rw [OH] at c2
      simp only [addrOf] at c2
      refine nA (by simp [quietAt,OH,iU]) (qm OH (fun q' off hq=>?_) cA)
      have Wn:=dw (ia (Ms:=Ms) (aC:=aC) hE.tmps acc.length) a
      rw [←jF,hq] at Wn
      have hv:=bo Wn
      have c2:pf s0.rows (qT (cz (.aT .top) Ms acc.length aC 0 s.tmps) a).b1=true:=by
       revert c2 Wn
       generalize qT (cz (.aT .top) Ms acc.length aC 0 s.tmps) a=va
       intro c2 Wn
       cases va with
       | tuple xs=>obtain ⟨_,e0,_⟩:=Wn;cases e0
       | s x=>exact c2
      revert c2 hv
      generalize (qT (cz (.aT .top) Ms acc.length aC 0 s.tmps) a).b1=xa
      intro hv c2
      cases xa with
      | fm cs Kd=>have:=hv.1;cases this
      | ptr p Kd=>
       simp only [pf] at c2
       split at c2
       ·rename_i cs aG
        obtain ⟨WC,WD⟩:=hle.st p (bQ aG) (iP aG)
        have:=hv.2 WC
        simp only [AV.ptr.injEq] at this
        obtain ⟨e1,_⟩:=this
        have cC:q' < σ0.H.n:=by rw [e1,WD];exact NW.rows.lt aG trivial
        have OF:σ0.H.n<=(aS σ0.H rest).n:=hp.grow (pre++[q]) rest (by rw [e];simp)
        exact (htr.get q' (Nat.lt_of_lt_of_le cC OF)).symm
       ·cases c2
      | _=>simp [pf] at c2
     | _=>rw [OH] at c2;simp [addrOf] at c2
   cases hq:quietAt P o with
   | true=>
    rw [hq] at h
    cases nL:Bl P o with
    | true=>
     rw [nL] at h
     obtain ⟨y,H',s1,ι1,k1,k2,k3,k4⟩:=step pl lt _ (fun _=>rfl) h
     have hH:=iY hq k1
     obtain ⟨fQ,s',ι',j1,j3,j4,j5⟩:=jG cI jw bZ wy hw NW os pl lt s1 K (⟨o,cK (fun _=>none) Ms aC σ0.tmps acc acc.length,y,H',false,none⟩::acc) ι1 (Ke _)
      (hp.quiet pl rfl rfl (fun k=>by simp [nL]) (fun k h=>.inl h) k1) (cC.quiet (by simp [aS])) (k3 false (by simp [hH])) k2 k4
     refine ⟨fQ,s',ι',?_,j3,j4,j5⟩
     have hpd:(eA o.op||gf (qI P fs ops) (Ms.getD acc.length 0) o (cK (fun _=>none) Ms aC σ0.tmps acc acc.length) y σ0.H acc acc.length)=true:=by
      rcases Bool.or_eq_true_iff.1 nL with h1 | h1
      ·rw [h1];rfl
      ·rw [pg acc fun pre q rest e _ _=>nA hq (LV h1 k1 _),Bool.or_true]
     simp only [dF,dg,k1,hq,hpd]
     exact j1
    | false=>
     rw [nL] at h
     simp only at h
     split at h
     ·rename_i hc
      obtain ⟨y,H',s1,ι1,k1,k2,k3,k4⟩:=step { pl with cu:=pl.cu|||2 ^ acc.length,live:=(match addrOf o.op with | some _=>pl.live|||2 ^ acc.length | none=>pl.live) } (match addrOf o.op with | some a=>lt.load s0.rows acc.length (qT (cz (.aT .top) Ms acc.length aC 0 s.tmps) a) | none=>lt) _ (fun _=>rfl) h
      have hH:=iY hq k1
      obtain ⟨fQ,s',ι',j1,j3,j4,j5⟩:=jG cI jw bZ wy hw NW os { pl with cu:=pl.cu|||2 ^ acc.length,live:=(match addrOf o.op with | some _=>pl.live|||2 ^ acc.length | none=>pl.live) } (match addrOf o.op with | some a=>lt.load s0.rows acc.length (qT (cz (.aT .top) Ms acc.length aC 0 s.tmps) a) | none=>lt) s1 K (⟨o,cK (fun _=>none) Ms aC σ0.tmps acc acc.length,y,H',false,none⟩::acc) ι1 (Ke _)
       (hp.quiet { pl with cu:=pl.cu|||2 ^ acc.length,live:=(match addrOf o.op with | some _=>pl.live|||2 ^ acc.length | none=>pl.live) } rfl rfl (fun k=>by show (pl.cu|||2 ^ acc.length).testBit k=_;rw [h_,nL];simp) (fun k h=>by
        cases OH:o.op with
        | load t a=>
         rw [OH] at h
         simp only [addrOf,h_] at h
         rcases Bool.or_eq_true_iff.1 h with h | h
         ·exact .inl h
         ·exact .inr ⟨of_decide_eq_true h,t,a,rfl⟩
        | _=>rw [OH] at h;exact .inl h) k1) (by
        cases OH:o.op with
        | load t a=>
         simp only [addrOf]
         exact cC.load (by simp [aS]) OH ⟨_,k1⟩ (by rw [jF];exact dw (ia (Ms:=Ms) (aC:=aC) hE.tmps acc.length) a) hle
        | _=>simp only [addrOf];exact cC.quiet (by simp [aS])) (k3 false (by simp [hH])) k2 k4
      refine ⟨fQ,s',ι',?_,j3,j4,j5⟩
      have hpo:eA o.op=false:=by
       unfold Bl at nL
       exact (Bool.or_eq_false_iff.1 nL).1
      simp only [dF,dg,k1,hq,hpo,Bool.false_or,down k1 hc]
      exact j1
     ·cases h
   | false=>
    rw [hq] at h
    simp only at h
    have hcf:ft P o=false:=by
     cases hc:ft P o with
     | false=>rfl
     | true=>rw [vV hc] at hq;cases hq
    have LY:∀ {y:AV} {H':af} {s1:bX} {ι1:Nat->Nat},aZ P fs ops (cK (fun _=>none) Ms aC σ0.tmps acc acc.length) (aS σ0.H acc) o=some (y,H')->Le ι0 s0.rows ι1 s1.rows->
      (∀ add,(if add=true then H' else aS σ0.H acc)=H'->fg (aI P) ι1 s1 { σ0 with tmps:=bJ σ0.tmps (⟨o,(cK (fun _=>none) Ms aC σ0.tmps acc acc.length),y,H',add,none⟩::acc),H:=aS σ0.H (⟨o,(cK (fun _=>none) Ms aC σ0.tmps acc acc.length),y,H',add,none⟩::acc) })->
      (db pl.fk (Ms.getD acc.length 0)&&(db pl.cu (Ms.getD acc.length 0)||(mR P cm (cz (.aT .top) Ms acc.length aC 0 s.tmps) o&&db (pl.cu ^^^ (pl.cu&&& Ms.getD acc.length 0)) pl.live)||(xg P s.rows lt (cz (.aT .top) Ms acc.length aC 0 s.tmps) o&&db (pl.cu ^^^ (pl.cu&&& Ms.getD acc.length 0)) lt.mask)))=true->
      vR P td cm cE ops Ms aC s0.rows os (acc.length+1) (pl.plus (mR P cm (cz (.aT .top) Ms acc.length aC 0 s.tmps) o) acc.length) (match mR P cm (cz (.aT .top) Ms acc.length aC 0 s.tmps) o||xg P s.rows lt (cz (.aT .top) Ms acc.length aC 0 s.tmps) o with | true=>lt | false=>⟨0,[]⟩) s1 K=some r->
      ∃ fQ s' ι',dF (qI P fs ops) P (fun _=>none) fs ops Ms aC σ0 (o::os) acc.length acc=some fQ/\fg (aI P) ι' s' { σ0 with tmps:=(cf fQ (bJ σ0.tmps fQ) (aS σ0.H fQ)).1,H:=(cf fQ (bJ σ0.tmps fQ) (aS σ0.H fQ)).2 }/\Le ι0 s0.rows ι' s'.rows/\K s'=some r:=by
     intro y H' s1 ι1 k1 k2 k3 hc k4
     cases hC:(qI P fs ops).still o (cK (fun _=>none) Ms aC σ0.tmps acc acc.length) y with
     | true=>
      have cA:∀ H,aZ P fs ops (cK (fun _=>none) Ms aC σ0.tmps acc acc.length) H o=some (y,H):=of_decide_eq_true hC
      have hH:H'=aS σ0.H acc:=by
       have:=cA (aS σ0.H acc)
       rw [k1] at this
       simpa using this
      obtain ⟨fQ,s',ι',j1,j3,j4,j5⟩:=jG cI jw bZ wy hw NW os _ _ s1 K (⟨o,(cK (fun _=>none) Ms aC σ0.tmps acc acc.length),y,H',false,none⟩::acc) ι1 (Ke _) (hp.Dj _ hcf cA)
       (by
        split
        ·exact cC.quiet (by simp [aS])
        ·exact jj.none) (k3 false (by simp [hH])) k2 k4
      refine ⟨fQ,s',ι',?_,j3,j4,j5⟩
      simp only [dF,dg,k1,hq,hC]
      exact j1
     | false=>
      simp only [Bool.and_eq_true] at hc
      obtain ⟨c1,c2⟩:=hc
      have aG:(aS σ0.H acc).rev.length=(aS σ0.H acc).n:=hE.rows.ok
      have Wo:=k1
      rw [jF] at Wo
      have hn:=jw _ _ _ _ _ aG Wo
      have hpx:mR P cm (cz (.aT .top) Ms acc.length aC 0 s.tmps) o=true->cB (aS σ0.H acc) H':=fun hpu=>NY cI.fz bZ cI.ext (ia (Ms:=Ms) (aC:=aC) hE.tmps acc.length) hpu Wo
      have adg:∀ p cs,s0.rows[p]?=some (some (.lit cs))->ι0 p<(aS σ0.H acc).n:=fun p cs nQ=>Nat.lt_of_lt_of_le (NW.rows.lt nQ trivial) (hp.grow [] acc rfl)
      have dH:(mR P cm (cz (.aT .top) Ms acc.length aC 0 s.tmps) o||xg P s.rows lt (cz (.aT .top) Ms acc.length aC 0 s.tmps) o)=true->∀ p cs,p∈lt.rows->s0.rows[p]?=some (some (.lit cs))->H'.get (ι0 p)=(aS σ0.H acc).get (ι0 p):=by
       intro hpk p cs Qa nQ
       rcases Bool.or_eq_true_iff.1 hpk with hpu | hke
       ·exact (hpx hpu).get _ (adg p cs nQ)
       ·unfold xg at hke
        simp only [Bool.and_eq_true,List.all_eq_true] at hke
        have hl:=hke.2 p Qa
        unfold isLit at hl
        split at hl
        ·rename_i dE Wp
         have:H'.get (ι p)=(aS σ0.H acc).get (ι p):=by
          rcases Bool.or_eq_true_iff.1 hke.1 with SC | SC
          ·exact UZ cI.fz hE.rows (ia (Ms:=Ms) (aC:=aC) hE.tmps acc.length) SC Wo Wp
          ·exact EY hE.rows (ia (Ms:=Ms) (aC:=aC) hE.tmps acc.length) SC Wo Wp Qa
         have e2:=(hle.st p (bQ nQ) (iP nQ)).2
         rw [e2] at this
         exact this
        ·cases hl
      obtain ⟨fQ,s',ι',j1,j3,j4,j5⟩:=jG cI jw bZ wy hw NW os _ _ s1 K (⟨o,cK (fun _=>none) Ms aC σ0.tmps acc acc.length,y,H',true,none⟩::acc) ι1 (Ke _)
       (hp.add (mR P cm (cz (.aT .top) Ms acc.length aC 0 s.tmps) o) hpx hn) (by
        split
        ·rename_i hpk;exact cC.add (by simp [aS]) (dH hpk)
        ·exact jj.none) (k3 true (by simp)) k2 k4
      refine ⟨fQ,s',ι',?_,j3,j4,j5⟩
      have Th:lZ (Ms.getD acc.length 0) acc acc.length=true:=vS acc fun pre q rest e h1=>hY c1 _ (hp.fk _ _ _ e h1)
      have WM:l6 (qI P fs ops) (Ms.getD acc.length 0) H' acc acc.length=true:=vT acc fun pre q rest e h1 h2 h3=>by
       by_cases Te:ft P q.o=true
       ·exact nA (vV Te) (hp.NZ q (by rw [e];simp) h1 Te _)
       rcases hp.cu _ _ _ e h1 (by unfold Bl;rw [h2];simpa using Te) with hl | Rz
       rotate_left
       ·exact decide_eq_true (Rz _)
       rcases Bool.or_eq_true_iff.1 c2 with c2 | c2
       ·rcases Bool.or_eq_true_iff.1 c2 with c2 | c2
        ·rw [hY c2 _ hl] at h3;cases h3
        ·simp only [Bool.and_eq_true] at c2
         obtain ⟨⟨t,a,ho⟩,cA⟩:=hp.live _ _ _ e (jE c2.2 _ hl h3)
         exact nA (by simp [quietAt,ho,iU]) (Hi ho (hpx c2.1) cA)
       ·simp only [Bool.and_eq_true] at c2
        obtain ⟨⟨t,a,ho,hr⟩,H2,cA⟩:=cC.ok _ _ _ e (jE c2.2 _ hl h3)
        refine nA (by simp [quietAt,ho,iU]) (qm ho (fun r off hq=>?_) cA)
        obtain ⟨p,cs,Qa,nQ,rfl⟩:=hr r off hq
        exact dH (by rw [c2.1,Bool.or_true]) p cs Qa nQ
      simp only [dF,dg,k1,hq,hC,Th,WM,Bool.and_self]
      exact j1

    split at h
    ·rename_i WH
     obtain ⟨y,H',s1,ι1,s',k1,k2,k3,k4,rfl,_,k6⟩:=LX pl lt _ h
     split at k4
     ·rename_i DH
      have hy:Pure y:=by
       unfold Wm at DH
       split at DH
       ·rename_i d hd
        split at DH
        ·rename_i x hx
         exact Ho (k6 d x hd hx) DH
        ·cases DH
       ·cases DH
      have cA:=(N2 wy cI.ext (ia (Ms:=Ms) (aC:=aC) hE.tmps acc.length) WH (by rw [←jF];exact k1) hy).2
      rw [←jF] at cA
      have hH:H'=aS σ0.H acc:=by
       have:=cA (aS σ0.H acc)
       rw [k1] at this
       simpa using this
      have hC:(qI P fs ops).still o (cK (fun _=>none) Ms aC σ0.tmps acc acc.length) y=true:=decide_eq_true cA
      obtain ⟨fQ,s2,ι',j1,j3,j4,j5⟩:=jG cI jw bZ wy hw NW os pl lt _ K (⟨o,(cK (fun _=>none) Ms aC σ0.tmps acc acc.length),y,H',false,none⟩::acc) ι1 (Ke _)
       (hp.still pl (fun _ h=>h) (fun _ _ h=>h) rfl (fun _ h=>h) (fun k hk=>⟨(hp.bound k (by omega)).1,(hp.bound k (by omega)).2.1⟩) hcf cA) (cC.quiet (by simp [aS])) (k3 false (by simp [hH])) k2 k4
      refine ⟨fQ,s2,ι',?_,j3,j4,j5⟩
      simp only [dF,dg,k1,hq,hC]
      exact j1
     ·split at k4
      ·rename_i hc;exact LY k1 k2 k3 hc k4
      ·cases k4
    split at h
    ·rename_i hc
     obtain ⟨y,H',s1,ι1,k1,k2,k3,k4⟩:=step _ _ _ (fun _=>rfl) h
     exact LY k1 k2 k3 hc k4
    ·split at h
     ·rename_i hc
      simp only [Bool.and_eq_true] at hc
      obtain ⟨c1,c2,c3⟩:=hc
      obtain ⟨y,H',s1,ι1,s',k1,k2,k3,k4,rfl,k5,_⟩:=LX (pl.plus false acc.length) lt _ h
      have aG:(aS σ0.H acc).rev.length=(aS σ0.H acc).n:=hE.rows.ok
      have Wo:=k1
      rw [jF] at Wo
      have hn:=jw _ _ _ _ _ aG Wo
      have FI:aE (aI P) ι1 s'.rows H':=(k3 true (by simp)).rows
      obtain ⟨k6,k7⟩:=xh hE.rows FI k5 k4
      have dH:∀ p cs,p∈lt.rows->s0.rows[p]?=some (some (.lit cs))->H'.get (ι0 p)=(aS σ0.H acc).get (ι0 p):=by
       intro p cs Qa nQ
       have e2:=(hle.st p (bQ nQ) (iP nQ)).2
       rw [←e2]
       exact k7 p Qa
      cases hC:(qI P fs ops).still o (cK (fun _=>none) Ms aC σ0.tmps acc acc.length) y with
      | true=>
       have cA:∀ H,aZ P fs ops (cK (fun _=>none) Ms aC σ0.tmps acc acc.length) H o=some (y,H):=of_decide_eq_true hC
       have hH:H'=aS σ0.H acc:=by
        have:=cA (aS σ0.H acc)
        rw [k1] at this
        simpa using this
       obtain ⟨fQ,s2,ι',j1,j3,j4,j5⟩:=jG cI jw bZ wy hw NW os _ _ _ K (⟨o,(cK (fun _=>none) Ms aC σ0.tmps acc acc.length),y,H',false,none⟩::acc) ι1 (Ke _)
        (hp.Dj false hcf cA) (cC.quiet (by simp [aS])) (k3 false (by simp [hH])) k2 k6
       refine ⟨fQ,s2,ι',?_,j3,j4,j5⟩
       simp only [dF,dg,k1,hq,hC]
       exact j1
      | false=>
      obtain ⟨fQ,s2,ι',j1,j3,j4,j5⟩:=jG cI jw bZ wy hw NW os _ _ _ K (⟨o,cK (fun _=>none) Ms aC σ0.tmps acc acc.length,y,H',true,none⟩::acc) ι1 (Ke _)
       (hp.add false (fun e=>by cases e) hn) (cC.add (by simp [aS]) dH) (k3 true (by simp)) k2 k6
      refine ⟨fQ,s2,ι',?_,j3,j4,j5⟩
      have Th:lZ (Ms.getD acc.length 0) acc acc.length=true:=vS acc fun pre q rest e h1=>hY c1 _ (hp.fk _ _ _ e h1)
      have WM:l6 (qI P fs ops) (Ms.getD acc.length 0) H' acc acc.length=true:=vT acc fun pre q rest e h1 h2 h3=>by
       by_cases Te:ft P q.o=true
       ·exact nA (vV Te) (hp.NZ q (by rw [e];simp) h1 Te _)
       rcases hp.cu _ _ _ e h1 (by unfold Bl;rw [h2];simpa using Te) with hl | Rz
       rotate_left
       ·exact decide_eq_true (Rz _)
       obtain ⟨⟨t,a,ho,hr⟩,H2,cA⟩:=cC.ok _ _ _ e (jE c3 _ hl h3)
       refine nA (by simp [quietAt,ho,iU]) (qm ho (fun r off hq=>?_) cA)
       obtain ⟨p,cs,Qa,nQ,rfl⟩:=hr r off hq
       exact dH p cs Qa nQ
      simp only [dF,dg,k1,hq,hC,Th,WM,Bool.and_self]
      exact j1
     ·split at h
      ·split at h
       ·rename_i hc
        simp only [Bool.and_eq_true] at hc
        obtain ⟨c1,c2,c3⟩:=hc
        obtain ⟨y,H',s1,ι1,s',k1,k2,k3,k4,rfl,k5,_⟩:=LX pl lt _ h
        cases hC:(qI P fs ops).still o (cK (fun _=>none) Ms aC σ0.tmps acc acc.length) y with
        | true=>
         have cA:∀ H,aZ P fs ops (cK (fun _=>none) Ms aC σ0.tmps acc acc.length) H o=some (y,H):=of_decide_eq_true hC
         have hH:H'=aS σ0.H acc:=by
          have:=cA (aS σ0.H acc)
          rw [k1] at this
          simpa using this
         refine ⟨⟨o,(cK (fun _=>none) Ms aC σ0.tmps acc acc.length),y,H',false,none⟩::acc,_,ι1,?_,?_,k2,k4⟩
         ·simp only [dF,dg,k1,hq,hC]
         ·rw [jQ _ _ _ (fun q hq=>(List.mem_cons.1 hq).elim (fun e=>by rw [e]) (hp.fl q))]
          exact k3 false (by simp [hH])
        | false=>
        cases Te:lZ (Ms.getD acc.length 0) acc acc.length&&l6 (qI P fs ops) (Ms.getD acc.length 0) H' acc acc.length with
        | true=>
         refine ⟨⟨o,cK (fun _=>none) Ms aC σ0.tmps acc acc.length,y,H',true,none⟩::acc,_,ι1,?_,?_,k2,k4⟩
         ·simp only [dF,dg,k1,hq,hC,Te]
         ·rw [jQ _ _ _ (fun q hq=>(List.mem_cons.1 hq).elim (fun e=>by rw [e]) (hp.fl q))]
          exact k3 true (by simp)
        | false=>
         obtain ⟨z,z1,z2,z3⟩:=N4 (j:=acc.length) cI.fz (ia (Ms:=Ms) (aC:=aC) hE.tmps acc.length) c1 c3 (by rw [←jF];exact k1)
         rw [←jF] at z1
         refine ⟨⟨o,cK (fun _=>none) Ms aC σ0.tmps acc acc.length,.top,σ0.H,false,some z⟩::acc,_,ι1,?_,?_,k2,k4⟩
         ·simp only [dF,dg,k1,hq,hC,Te,z1,c2]
         ·have h2:=k3 true (by simp)
          have e1:aS σ0.H (⟨o,cK (fun _=>none) Ms aC σ0.tmps acc acc.length,.top,σ0.H,false,some z⟩::acc)=aS σ0.H acc:=rfl
          have e2:dt (dt (bJ σ0.tmps acc) o.dst .top) o.dst (FT z.1 (aS σ0.H acc).n)=dt (bJ σ0.tmps acc) o.dst (FT z.1 (aS σ0.H acc).n):=by
           cases o.dst with
           | none=>rfl
           | some d=>simp only [dt,List.set_set]
          simp only [e1,cf,bJ,jQ acc _ _ hp.fl,e2]
          rw [←z2,←z3]
          exact h2
       ·cases h
      ·cases h
theorem Bo:hZ P fs ops σ0 ⟨0,0,0,0⟩ []:=by
 have no:∀ {pre:List Rec} {q:Rec} {rest:List Rec},([]:List Rec)=pre++q::rest->False:=by
  intro pre q rest e
  have:=congrArg List.length e
  simp at this
 refine ⟨fun q hq=>(List.not_mem_nil hq).elim,fun pre q rest e=>(no e).elim,fun pre q rest e=>(no e).elim,fun pre q rest e=>(no e).elim,fun q hq=>(List.not_mem_nil hq).elim,fun pre q rest e=>(no e).elim,fun k _=>⟨Nat.zero_testBit k,Nat.zero_testBit k,Nat.zero_testBit k,Nat.zero_testBit k⟩,fun pre rest e=>?_⟩
 cases rest with
 | nil=>exact Nat.le_refl _
 | cons q rest=>exact (no e).elim
theorem N5 (cI:ir P (aI P) cE fs) (jw:∀ (ops:Array Oper) (o:Oper) (tmps:List AV) (H H':af) (y:AV),H.rev.length=H.n->aZ P fs ops (ev (fun _=>none) tmps) H o=some (y,H')->H.n<=H'.n) (bZ:ji cm fs) (wy:qn td fs)  {ι0:Nat->Nat} {s0:bX} {σ0:St} {K:bX->Option R} {r:R} (hE:fg (aI P) ι0 s0 σ0) (h:Kb P td cm cE ops s0 K=some r):
  ∃ σ' s' ι',m9 (qI P fs ops) P (fun _=>none) fs ops σ0=some σ'/\fg (aI P) ι' s' σ'/\Le ι0 s0.rows ι' s'.rows/\K s'=some r:=by
 unfold Kb at h
 split at h
 ·rename_i Mf Tk
  split at h
  ·rename_i hw
   have OV:(([]:List Rec)).length=0:=rfl
   obtain ⟨acc,s',ι',j1,j3,j4,j5⟩:=jG (r:=r) cI (jw ops) bZ wy hw hE (ops.toList.take (bb Mf 0 0)) ⟨0,0,0,0⟩ ⟨0,[]⟩ s0 _ [] ι0 (fun t o ht=>by
    simp only [List.length_nil,Nat.zero_add,List.getElem?_map,ht,Option.map_some])
    (Bo) jj.none hE (Le.refl _ _) h
   obtain ⟨σ',s2,ι2,k1,k2,k3,k4⟩:=ql cI _ ι' s' _ K r j3 j5
   refine ⟨σ',s2,ι2,?_,k2,j4.trans k3,k4⟩
   unfold m9
   simp only [Tk]
   rw [hw]
   simp only [List.length_nil] at j1
   rw [j1]
   exact k1
  ·cases h
 ·cases h
theorem RA {T:List AV} {q:Nat}:cK (fun _=>none) Ms aC T [] q=ev (fun _=>none) (cz .top Ms q aC 0 T):=by
 funext x
 cases x with
 | tmp t=>
  simp only [cK,ev,fh,gN]
  cases ha:dN Ms t q aC 0<;>cases T[t]?<;>simp
 | const v=>rfl
 | global g=>rfl
 | func f=>rfl
theorem N6 (cI:ir P (aI P) cE fs) (jw:∀ (ops:Array Oper) (o:Oper) (tmps:List AV) (H H':af) (y:AV),H.rev.length=H.n->aZ P fs ops (ev (fun _=>none) tmps) H o=some (y,H')->H.n<=H'.n) (bZ:ji cm fs) (wy:qn td fs)  {ι0:Nat->Nat} {s0:bX} {σ0:St} {K:bX->Option R} {r:R} (hE:fg (aI P) ι0 s0 σ0) (h:Kc P td cm cE ops s0 K=some r):
  ∃ σ' s' ι',za (qI P fs ops) P (fun _=>none) fs ops σ0=some σ'/\fg (aI P) ι' s' σ'/\Le ι0 s0.rows ι' s'.rows/\K s'=some r:=by
 unfold Kc at h
 split at h
 case h_2=>cases h
 rename_i Mf Tk
 split at h
 case h_2=>cases h
 rename_i o ho
 split at h
 case h_2=>cases h
 rename_i hc
 have hw:cV (Mf.take (bb Mf 0 0-1)) ((ops.toList.take (bb Mf 0 0-1)).map (·.dst)) ((ops.toList.take (bb Mf 0 0-1)).map (·.dst)) 0=true:=by
  simp only [tb,Bool.and_eq_true] at hc;exact hc.1.2
 obtain ⟨acc,s',ι',j1,j3,j4,j5⟩:=jG (r:=r) cI (jw ops) bZ wy hw hE (ops.toList.take (bb Mf 0 0-1)) ⟨0,0,0,0⟩ ⟨0,[]⟩ s0 _ [] ι0 (fun t o ht=>by
  simp only [List.length_nil,Nat.zero_add,List.getElem?_map,ht,Option.map_some])
  (Bo) jj.none hE (Le.refl _ _) h
 simp only [Hh] at j5
 have hEj:fg (aI P) ι' { s' with tmps:=cz (.aT .top) (Mf.take (bb Mf 0 0-1+1)) (bb Mf 0 0-1) ((ops.toList.take (bb Mf 0 0-1)).map (·.dst)) 0 s'.tmps }
   { σ0 with tmps:=cz .top (Mf.take (bb Mf 0 0-1+1)) (bb Mf 0 0-1) ((ops.toList.take (bb Mf 0 0-1)).map (·.dst)) 0 (cf acc (bJ σ0.tmps acc) (aS σ0.H acc)).1,H:=(cf acc (bJ σ0.tmps acc) (aS σ0.H acc)).2 }:=
  ⟨ia j3.tmps _,j3.rows,j3.defers,j3.mZ⟩
 obtain ⟨σ1,s2,ι2,h1,h2,h3,h4⟩:=o7 cI hEj j5
 unfold gZ at h1
 split at h1
 case h_2=>cases h1
 rename_i y H' cA
 simp only [Option.some.injEq] at h1
 subst h1
 rw [←RA] at cA
 have hE2:fg (aI P) ι2 { s2 with tmps:=s'.tmps } { σ0 with tmps:=(cf acc (bJ σ0.tmps acc) (aS σ0.H acc)).1,H:=H' }:=
  ⟨j3.tmps.mono fun _ _=>h3.rv,h2.rows,h2.defers,h2.mZ⟩
 obtain ⟨σ',s3,ι3,k1,k2,k3,k4⟩:=ql cI _ ι2 _ _ K r hE2 h4
 refine ⟨σ',s3,ι3,?_,k2,(j4.trans h3).trans k3,k4⟩
 unfold za
 simp only [List.length_nil] at j1
 simp only [Tk,ho]
 rw [hc,j1]
 simp only
 rw [cA]
 exact k1
theorem Rj (cI:ir P (aI P) cE fs) (jw:∀ (ops:Array Oper) (o:Oper) (tmps:List AV) (H H':af) (y:AV),H.rev.length=H.n->aZ P fs ops (ev (fun _=>none) tmps) H o=some (y,H')->H.n<=H'.n) (bZ:ji cm fs) (wy:qn td fs):
  De P fs (nB P fs) (Ri (R:=R) P td cm cE):=by
 intro ops ι0 s0 σ0 K r hE h
 unfold Ri at h
 unfold nB uS
 split at h
 ·rename_i hl
  rw [hl]
  exact N6 cI jw bZ wy hE h
 ·rename_i hl
  rw [hl]
  exact N5 cI jw bZ wy hE h
end
end Go.Abs
end
noncomputable section
namespace Go.Abs
open Classical
def cE (P:Program) (T:qG) (cm jn:FuncId->Bool) (N:Nat) (live:FuncId->Nat->Nat) (dL:FuncId->Nat->J0) (k:Nat):sS:=ac6 P T cm jn (fun f R=>Ri P cm (fun g=>cm g||jn g) f) N live dL k
section
variable {P : Program} {T : qG} {cm jn : FuncId → Bool} {N : Nat} {live : FuncId → Nat → Nat} {dL : FuncId → Nat → J0}
theorem aax (hm:P.follows .mixedOrders=true) (fK:ja P) (hT:iN P T cm):∀ k,ir P (aI P) (cE P T cm jn N live dL k) (fsX P T cm jn N k):=
 UT hT live dL fun k ro ih R=>Rj ih (fun ops o tmps H H' y bw h=>(nc (LL (N:=N) hm fK hT k ro) bw h).n) (He hT ro k) (NR hT ro k)
theorem fsS_call (hm:P.follows .mixedOrders=true) (fK:ja P) (hT:iN P T cm) {k:Nat} {R:Type} {g:FuncId} {args:List SV} {rows:Rows} {K:SV->Rows->Option R} {r:R} {ι:Nat->Nat} {H:af} {ai:List AV}
  (h:(cE P T cm jn N live dL k).call R g args rows K=some r) (hE:aE (aI P) ι rows H) (ha:aQ (RV ι rows) args ai):
  ∃ y H' ys ah ι',CallOk P (fun _=>none) g ai H y H'/\aE (aI P) ι' ah H'/\RV ι' ah ys y/\K ys ah=some r:=by
 obtain ⟨y,H',ys,ah,ι',k1,k2,k3,k4,k5⟩:=(aax hm fK hT k).call R g args rows K r ι H ai h hE ha
 exact ⟨y,H',ys,ah,ι',(aay hm fK hT k).call _ _ _ _ _ k1,k2,k3,k5⟩
end
end Go.Abs
end
noncomputable section
namespace Go.Abs
open Classical
inductive eY:AV->Prop
 | bool (b:Bool):eY (.bool b)
 | int (k:IntKind) (n:Int):eY (.int k n)
 | aL (k:FloatKind) (o:Option Nat):eY (.aL k o)
 | string (s:ByteArray):eY (.string s)
theorem eY.cell {x:AV} (h:eY x):Cell x:=by
 cases h
 ·exact .bool _
 ·exact .int _ _
 ·exact .aL _ _
 ·exact .string _
theorem eY.rel {E E':Env} {x:AV} {v:Value} (h:eY x) (hv:ao E x v):ao E' x v:=by
 cases h<;>cases hv
 ·exact .bool _
 ·exact .int _ _
 ·exact .float _ _
 ·exact .nan _ _ (by assumption)
 ·exact .string _
inductive E3 (H0:af):AV->AV->Prop
 | same {x:AV} (h:Pure x):E3 H0 x x
 | slice {r n aA:Nat} {cs:List AV} (hg:H0.get r=some (.cells cs)) (hc:∀ c∈cs,Cell c) (hl:cs.length=n*aA):E3 H0 (.slice r 0 n aA) (.list n cs)
 | nil:E3 H0 .av (.list 0 [])
 | sub {r o n aA:Nat} {cs:List AV} (hg:H0.get r=some (.cells cs)) (hc:∀ c∈cs,Cell c) (hl:o+n*aA<=cs.length):E3 H0 (.slice r o n aA) (.list n ((cs.drop o).take (n*aA)))
inductive ie (H0:af) (O:Nat->Prop):AV->aa->Prop
 | v {x u:AV} (h:E3 H0 x u) (hO:∀ r o n e,x=.slice r o n e->¬ O r):ie H0 O x (.v u)
 | agg {xs us:List AV} (h:aQ (E3 H0) xs us) (hO:∀ x∈xs,∀ r o n e,x=.slice r o n e->¬ O r):ie H0 O (.agg xs) (.v (.agg us))
 | fz {r n aA:Nat} {cs:List AV} (hg:H0.get r=some (.cells cs)) (hc:∀ c∈cs,eY c) (hl:cs.length=n*aA) (hO:¬ O r):ie H0 O (.slice r 0 n aA) (.fz n cs)
 | ua:ie H0 O .av (.fz 0 [])
 | Bp {r o n aA:Nat} {cs:List AV} (hg:H0.get r=some (.cells cs)) (hc:∀ c∈(cs.drop o).take (n*aA),eY c) (hl:o+n*aA<=cs.length) (hO:¬ O r):ie H0 O (.slice r o n aA) (.fz n ((cs.drop o).take (n*aA)))
 | sI:ie H0 O (.list 0 []) (.fz 0 [])
 | own {r n aA:Nat} {cs:List AV} (hg:H0.get r=some (.cells cs)) (hc:∀ c∈cs,eY c) (hl:cs.length=n*aA) (hn:n≠0) (hO:O r):ie H0 O (.slice r 0 n aA) (.own aA n cs)
 | vW {aA:Nat}:ie H0 O .av (.own aA 0 [])
def kZ:List AV->List aa->List Nat
 | .slice r _ _ _::xs,.own _ _ _::ls=>r::kZ xs ls
 | _::xs,_::ls=>kZ xs ls
 | _,_=>[]
section
variable {P : Program} {F G F' F2 : Nat → Prop} {i i' ic : Nat → Nat} {H H0 Hc : af} {w w' : World}
theorem BG {E E':Env} {x:AV} {v:Value} (h:E7 x=true) (hv:ao E x v):ao E' x v:=by
 cases x with
 | bool b=>cases hv;exact .bool _
 | int k n=>cases hv;exact .int _ _
 | aL k o=>
  cases hv
  ·exact .float _ _
  ·exact .nan _ _ (by assumption)
 | string s=>cases hv;exact .string _
 | bI=>cases hv;exact .bI
 | nilFunc=>cases hv;exact .nilFunc
 | nilIface=>cases hv;exact .nilIface
 | agg cs=>
  cases hv with
  | agg _ vs hl hv=>
   refine .agg _ vs hl fun j x u h1 h2=>?_
   have hx:=hv j x u h1 h2
   simp only [E7,List.all_eq_true] at h
   have hp:=h x (List.mem_of_getElem? h1)
   cases x<;>simp only [Bool.false_eq_true] at hp<;>cases hx<;>constructor
   all_goals assumption
 | _=>cases h
theorem xr {r n aA:Nat} {cs:List AV} {v:Value} {E':Env} (hH0:ba F' G i' H0 w'.heap) (hg:H0.get r=some (.cells cs)) (hl:cs.length=n*aA) (hv:ao ⟨F',w'.heap,i',H0.n⟩ (.slice r 0 n aA) v)
  (hF:E'.F (i' r)) (hh:E'.h=w'.heap) (hc:∀ (x:AV) (u:Value),x∈cs->ao ⟨F',w'.heap,i',H0.n⟩ x u->ao E' x u):ao E' (.list n cs) v:=by
 obtain ⟨o,ho,hr⟩:=hH0.row r _ hg
 cases hr with
 | cells _ c e z bw=>
  cases hv with
  | slice _ _ _ _ cap gL qY hb=>
   have hlen:(c.toList.take cs.length).length=cs.length:=by
    have:=bw.len
    simp only [List.length_take,Array.length_toList];omega
   refine .list n cap cs (i' r) 0 (c.toList.take cs.length) qY hF ⟨c,e,z,by rw [hh];exact ho,by rw [hlen];have:=bw.len;omega,fun j u hj=>?_⟩ hlen.symm fun j x u h1 h2=>?_
   ·rw [List.getElem?_take] at hj
    split at hj
    ·rw [Nat.zero_add];simpa using hj
    ·cases hj
   ·have hj:j<cs.length:=(List.getElem?_eq_some_iff.1 h1).1
    rw [List.getElem?_take,if_pos hj] at h2
    exact hc x u (List.mem_of_getElem? h1) (bw.val j x u h1 (by simpa using h2))
theorem um {r o n aA:Nat} {cs:List AV} {v:Value} {E':Env} (hH0:ba F' G i' H0 w'.heap) (hg:H0.get r=some (.cells cs)) (hl:o+n*aA<=cs.length) (hv:ao ⟨F',w'.heap,i',H0.n⟩ (.slice r o n aA) v)
  (hF:E'.F (i' r)) (hh:E'.h=w'.heap) (hc:∀ (x:AV) (u:Value),x∈(cs.drop o).take (n*aA)->ao ⟨F',w'.heap,i',H0.n⟩ x u->ao E' x u):ao E' (.list n ((cs.drop o).take (n*aA))) v:=by
 obtain ⟨q,ho,hr⟩:=hH0.row r _ hg
 cases hr with
 | cells _ c e z bw=>
  cases hv with
  | slice _ _ _ _ cap gL qY hb=>
   have fI:=bw.len
   have hlen:((c.toList.drop o).take (n*aA)).length=((cs.drop o).take (n*aA)).length:=by
    simp only [List.length_take,List.length_drop,Array.length_toList];omega
   refine .list n cap _ (i' r) o ((c.toList.drop o).take (n*aA)) qY hF ⟨c,e,z,by rw [hh];exact ho,by simp only [List.length_take,List.length_drop,Array.length_toList];omega,fun j u hj=>?_⟩ hlen.symm fun j x u h1 h2=>?_
   ·rw [List.getElem?_take] at hj
    split at hj
    ·rw [List.getElem?_drop] at hj;simpa using hj
    ·cases hj
   ·have bM:=h1
    rw [List.getElem?_take] at h1 h2
    split at h1
    ·rename_i hj
     rw [if_pos hj,List.getElem?_drop] at h2
     rw [List.getElem?_drop] at h1
     exact hc x u (List.mem_of_getElem? bM) (bw.val _ x u h1 (by simpa using h2))
    ·cases h1
structure Hand (F' F2 G:Nat->Prop) (i':Nat->Nat) (H0:af) (w':World) (O:Nat->Prop) (gU:Bool):Prop where
 h0:ba F' (fun _=>False) i' H0 w'.heap
 kept:∀ r row,H0.get r=some row->¬ O r->F2 (i' r)
 own:∀ r row,H0.get r=some row->O r->¬ F2 (i' r)/\¬ G (i' r)
 more:gU=false->∀ b,F' b->F2 b
theorem RT {x:AV} {v:Value} {j:Nat->Nat} {N:Nat} (hF:∀ b,F' b->F2 b) (hp:Pure x) (hv:ao ⟨F',w'.heap,i',H0.n⟩ x v):ao ⟨F2,w'.heap,j,N⟩ x v:=by
 have:=hv.pure hp j N
 have le:Env.le ⟨F',w'.heap,j,N⟩ ⟨F2,w'.heap,j,N⟩:=⟨hF,fun _ _=>rfl,Nat.le_refl _,fun _ _=>rfl,fun b c e z h=>⟨c,e,z,h,Nat.le_refl _⟩⟩
 exact this.mono le
def ado (E:Env):aa->Value->Prop
 | .v u,v=>ao E u v
 | .fz n cs,v=>ao E (.list n cs) v
 | .own _ n _,v=>n=0->ao E .av v
theorem HJ {O:Nat->Prop} (hh:Hand F' F2 G i' H0 w' O false) {x u:AV} {v:Value} (ht:E3 H0 x u) (hO:∀ r o n e,x=.slice r o n e->¬ O r) (hv:ao ⟨F',w'.heap,i',H0.n⟩ x v) (j:Nat->Nat) (N:Nat):
  ao ⟨F2,w'.heap,j,N⟩ u v:=by
 cases ht with
 | same hp=>exact RT (hh.more rfl) hp hv
 | slice hg hc hl=>exact xr hh.h0 hg hl hv (hh.kept _ _ hg (hO _ _ _ _ rfl)) rfl fun x u hx SA=>RT (hh.more rfl) (hc x hx).pure SA
 | nil=>cases hv;exact .bY 0 0 none (Nat.le_refl _)
 | sub hg hc hl=>exact um hh.h0 hg hl hv (hh.kept _ _ hg (hO _ _ _ _ rfl)) rfl fun x u hx SA=>RT (hh.more rfl) (hc x (List.mem_of_mem_drop (List.mem_of_mem_take hx))).pure SA
theorem RU {O:Nat->Prop} {gU:Bool} (hh:Hand F' F2 G i' H0 w' O gU) {x:AV} {l:aa} {v:Value} (hl:ie H0 O x l) (hb:gU=true->fY [l]=true) (hv:ao ⟨F',w'.heap,i',H0.n⟩ x v) (j:Nat->Nat) (N:Nat):
  ado ⟨F2,w'.heap,j,N⟩ l v:=by
 cases hl with
 | v ht hO=>
  cases Mc:gU with
  | false=>subst Mc;exact HJ hh ht hO hv j N
  | true=>
   have hp:=hb Mc
   simp only [fY,Bool.and_true] at hp
   cases ht with
   | same _=>exact BG hp hv
   | slice _ _ _=>cases hp
   | nil=>cases hp
   | sub _ _ _=>cases hp
 | @agg xs us ht hO=>
  cases hv with
  | agg _ vs hlen jJ=>
   cases Mc:gU with
   | false=>
    subst Mc
    refine .agg us vs (by rw [←ht.length];exact hlen) fun k u a h1 h2=>?_
    obtain ⟨x,hx,hr⟩:=ht.get' h1
    exact HJ hh hr (hO x (List.mem_of_getElem? hx)) (jJ k x a hx h2) j N
   | true=>
    have hp:=hb Mc
    simp only [fY,Bool.and_true] at hp
    refine .agg us vs (by rw [←ht.length];exact hlen) fun k u a h1 h2=>?_
    obtain ⟨x,hx,hr⟩:=ht.get' h1
    simp only [E7,List.all_eq_true] at hp
    have hu:=hp u (List.mem_of_getElem? h1)
    have hxa:=jJ k x a hx h2
    cases hr with
    | same _=>exact BG (by cases u<;>simp only [Bool.false_eq_true] at hu<;>rfl) hxa
    | slice _ _ _=>cases hu
    | nil=>cases hu
    | sub _ _ _=>cases hu
 | fz hg hc hl hO=>exact xr hh.h0 hg hl hv (hh.kept _ _ hg hO) rfl fun x u hx SA=>(hc x hx).rel SA
 | ua=>cases hv;exact .bY 0 0 none (Nat.le_refl _)
 | Bp hg hc hl hO=>exact um hh.h0 hg hl hv (hh.kept _ _ hg hO) rfl fun x u hx SA=>(hc x hx).rel SA
 | sI=>cases hv<;>first | exact .bY 0 _ _ (Nat.zero_le _) | exact .bY 0 _ _ ‹_›
 | own hg hc hl hn hO=>intro h;exact absurd h hn
 | vW=>intro _;cases hv;exact .av
theorem gm {O:Nat->Prop}:∀ {xs:List AV} {d:List aa} {r:Nat},aQ (ie H0 O) xs d->r∈kZ xs d->∃ row,H0.get r=some row
 | [],[],r,_,h=>by cases h
 | x::xs,l::d,r,.cons hl ht,h=>by
  cases hl with
  | own hg hc hlen hn hO=>
   rcases List.mem_cons.1 h with rfl | h
   ·exact ⟨_,hg⟩
   ·exact gm ht h
  | v h1 h2=>
   have:r∈kZ xs d:=by cases x<;>exact h
   exact gm ht this
  | agg h1 h2=>exact gm ht h
  | fz h1 h2 h3 h4=>exact gm ht h
  | ua=>exact gm ht h
  | Bp h1 h2 h3 h4=>exact gm ht h
  | sI=>exact gm ht h
  | vW=>exact gm ht h
theorem BH {O:Nat->Prop} {gU:Bool} (hh:Hand F' F2 G i' H0 w' O gU):∀ (xs:List AV) (d:List aa) (Hc:af) (ic:Nat->Nat) (vs:List Value),aQ (ie H0 O) xs d->(gU=true->fY d=true)->(kZ xs d).Nodup->
  ba F2 G ic Hc w'.heap->(∀ r∈kZ xs d,∀ s row,Hc.get s=some row->ic s≠i' r)->ay ⟨F',w'.heap,i',H0.n⟩ xs vs->
  ∃ Il,ba F2 G Il (a_ d Hc).2 w'.heap/\(∀ s,s<Hc.n->Il s=ic s)/\Hc.n<=(a_ d Hc).2.n/\ay ⟨F2,w'.heap,Il,(a_ d Hc).2.n⟩ (a_ d Hc).1 vs
 | [],[],Hc,ic,vs,_,_,_,hH,_,hv=>by
  refine ⟨ic,hH,fun _ _=>rfl,Nat.le_refl _,?_⟩
  have:vs=[]:=List.eq_nil_of_length_eq_zero (by rw [←hv.1];rfl)
  subst this
  exact ay.nil
 | x::xs,l::d,Hc,ic,[],_,_,_,_,_,hv=>by have:=hv.1;simp at this
 | x::xs,l::d,Hc,ic,v::vs,.cons hl ht,hb,BZ,hH,Vd,hv=>by
  have hx:ao ⟨F',w'.heap,i',H0.n⟩ x v:=hv.2 0 x v rfl rfl
  have jJ:ay ⟨F',w'.heap,i',H0.n⟩ xs vs:=⟨by simpa using hv.1,fun j a b p q=>hv.2 (j+1) a b (by simpa using p) (by simpa using q)⟩
  have ye:gU=true->fY [l]=true:=by
   intro e
   have:=hb e
   cases l with
   | v u=>simp only [fY,Bool.and_eq_true,Bool.and_true] at this ⊢;exact this.1
   | _=>rfl
  have BY:gU=true->fY d=true:=by
   intro e
   have:=hb e
   cases l with
   | v u=>simp only [fY,Bool.and_eq_true] at this;exact this.2
   | _=>exact this
  have BI:=RU hh hl ye hx
  have simple:(kZ (x::xs) (l::d)=kZ xs d)->∀ (u:AV),(a_ (l::d) Hc)=(u::(a_ d Hc).1,(a_ d Hc).2)->(∀ j N,ao ⟨F2,w'.heap,j,N⟩ u v)->
    ∃ Il,ba F2 G Il (a_ (l::d) Hc).2 w'.heap/\(∀ s,s<Hc.n->Il s=ic s)/\Hc.n<=(a_ (l::d) Hc).2.n/\ay ⟨F2,w'.heap,Il,(a_ (l::d) Hc).2.n⟩ (a_ (l::d) Hc).1 (v::vs):=by
   intro ho u Mw hu
   obtain ⟨Il,k1,k2,k3,k4⟩:=BH hh xs d Hc ic vs ht BY (by rw [←ho];exact BZ) hH (by rw [←ho];exact Vd) jJ
   rw [Mw]
   exact ⟨Il,k1,k2,k3,ay.cons (hu _ _) k4⟩
  cases hl with
  | v h1 h2=>
   refine simple ?_ _ rfl fun j N=>BI j N
   cases x<;>rfl
  | agg h1 h2=>exact simple rfl _ rfl fun j N=>BI j N
  | fz h1 h2 h3 h4=>exact simple rfl _ rfl fun j N=>BI j N
  | ua=>exact simple rfl _ rfl fun j N=>BI j N
  | Bp h1 h2 h3 h4=>exact simple rfl _ rfl fun j N=>BI j N
  | sI=>exact simple rfl _ rfl fun j N=>BI j N
  | vW=>exact simple rfl _ (by simp [a_]) fun j N=>BI j N rfl
  | @own r n aA cs hg hc hlen hn hO=>
   have ho:kZ (.slice r 0 n aA::xs) (.own aA n cs::d)=r::kZ xs d:=rfl
   rw [ho,List.nodup_cons] at BZ
   rw [ho] at Vd
   obtain ⟨o,hob,uJ⟩:=hh.h0.row r _ hg
   obtain ⟨n1,n2⟩:=hh.own r _ hg hO
   have Rz:∀ E,d_ E (.cells cs) o:=by
    intro E
    cases uJ with
    | cells _ c e z bw=>exact .cells cs c e z ⟨bw.len,fun j x u p q=>(hc x (List.mem_of_getElem? p)).rel (bw.val j x u p q),bw.free⟩
   have hbs:i' r<w'.heap.size:=(Array.getElem?_eq_some_iff.1 hob).1
   have OE:ba F2 (fun c=>G c\/c=i' r) ic Hc w'.heap:=by
    refine ⟨hH.row,fun s row hs=>⟨(hH.out s row hs).1,?_⟩,hH.inj,fun b hb=>?_,fun b hf hg'=>?_,hH.ok⟩
    ·rintro (h | h)
     ·exact (hH.out s row hs).2 h
     ·exact Vd r List.mem_cons_self s row hs h
    ·rcases hb with h | h | h
     ·exact hH.cn b (.inl h)
     ·exact hH.cn b (.inr h)
     ·rw [h];exact hbs
    ·rcases hg' with h | h
     ·exact hH.apart b hf h
     ·rw [h] at hf;exact n1 hf
   have hH2:=OE.VC hob Rz n2
   obtain ⟨Il,k1,k2,k3,k4⟩:=BH hh xs d (Hc.push (.cells cs)) (Abs.put ic Hc.n (i' r)) vs ht BY BZ.2 hH2 (fun r' gL s row hs=>by
    rcases af.dS hs with ⟨hl,hs⟩ | ⟨rfl,rfl⟩
    ·rw [bD hl];exact Vd r' (List.mem_cons_of_mem _ gL) s row hs
    ·rw [aH]
     intro e
     have afN:=gm ht gL
     obtain ⟨cS,Tr⟩:=afN
     have:=hh.h0.inj r r' _ _ hg Tr e
     subst this
     exact BZ.1 gL) jJ
   have Mw:a_ (.own aA n cs::d) Hc=(.slice Hc.n 0 n aA::(a_ d (Hc.push (.cells cs))).1,(a_ d (Hc.push (.cells cs))).2):=by simp only [a_,if_neg hn]
   rw [Mw]
   refine ⟨Il,k1,fun s hs=>by rw [k2 s (by simp;omega),bD hs],Nat.le_trans (by simp) k3,ay.cons ?_ k4⟩
   cases hx with
   | slice _ _ _ _ cap gL qY H5=>
    have hi:Il Hc.n=i' r:=by rw [k2 Hc.n (by simp),aH]
    have:=ao.slice (E:=⟨F2,w'.heap,Il,(a_ d (Hc.push (.cells cs))).2.n⟩) Hc.n 0 n aA cap (by
     have:Hc.n<(Hc.push (.cells cs)).n:=by simp
     exact Nat.lt_of_lt_of_le this k3) qY (by
     obtain ⟨c2,e2,z2,q1,q2⟩:=H5
     exact ⟨c2,e2,z2,by show w'.heap[Il Hc.n]?=_;rw [hi];exact q1,q2⟩)
    simp only [hi] at this
    exact this
def Ve (gU:Bool) (i:Nat->Nat) (H:af) (b:Nat):Prop:=gU=true/\∃ r row,H.get r=some row/\b=i r
def Ws (gU:Bool) (i:Nat->Nat) (H:af) (b:Nat):Prop:=gU=false/\∃ r row,H.get r=some row/\b=i r
theorem Ok {gU:Bool} (hH:ba F G i H w.heap):ba (fun b=>F b\/Ve gU i H b) (fun b=>G b\/Ws gU i H b) i af.empty w.heap:=by
 refine ⟨fun r row h=>?_,fun r row h=>?_,fun r r' a b h=>?_,fun b hb=>?_,fun b hf hg=>?_,rfl⟩
 ·rw [af.fM] at h;cases h
 ·rw [af.fM] at h;cases h
 ·rw [af.fM] at h;cases h
 ·have aG:(∃ r row,H.get r=some row/\b=i r)->b<w.heap.size:=by
   rintro ⟨r,row,hr,rfl⟩
   obtain ⟨o,ho,_⟩:=hH.row r row hr
   exact (Array.getElem?_eq_some_iff.1 ho).1
  rcases hb with (hb | hb) | (hb | hb)
  ·exact hH.cn b (.inl hb)
  ·exact aG hb.2
  ·exact hH.cn b (.inr hb)
  ·exact aG hb.2
 ·rcases hf with hf | ⟨e1,r,row,hr,e⟩<;>rcases hg with hg | ⟨e2,r',cS,gL,e'⟩
  ·exact hH.apart b hf hg
  ·rw [e'] at hf;exact (hH.out r' cS gL).1 hf
  ·rw [e] at hg;exact (hH.out r row hr).2 hg
  ·rw [e1] at e2;cases e2
theorem uo {gU:Bool} (hH:ba F G i H w.heap) {x u:AV} {b:Bool} (h:cg H x=some (u,b)) (hb:b=true->gU=true) {v:Value} (hv:ao ⟨F,w.heap,i,H.n⟩ x v) (N:Nat):
  ao ⟨fun b=>F b\/Ve gU i H b,w.heap,i,N⟩ u v:=by
 have le:∀ M,Env.le ⟨F,w.heap,i,M⟩ ⟨fun b=>F b\/Ve gU i H b,w.heap,i,M⟩:=fun M=>⟨fun _ h=>.inl h,fun _ _=>rfl,Nat.le_refl _,fun _ _=>rfl,fun b c e z h=>⟨c,e,z,h,Nat.le_refl _⟩⟩
 unfold cg at h
 split at h
 ·rename_i r off len aA
  split at h
  ·rename_i cs te
   split at h
   ·rename_i hc
    simp only [Option.some.injEq,Prod.mk.injEq] at h
    obtain ⟨rfl,rfl⟩:=h
    have hg:=gp te
    obtain ⟨o,ho,hr⟩:=hH.row r _ hg
    cases hr with
    | cells _ c e z bw=>
     cases hv with
     | slice _ _ _ _ cap gL qY H5=>
      have hlen:((c.toList.drop off).take (len*aA)).length=((cs.drop off).take (len*aA)).length:=by
       have:=bw.len
       simp only [List.length_take,List.length_drop,Array.length_toList];omega
      have fI:((cs.drop off).take (len*aA)).length=len*aA:=by simp only [List.length_take,List.length_drop];omega
      refine .list len cap _ (i r) off ((c.toList.drop off).take (len*aA)) qY (.inr ⟨hb rfl,r,_,hg,rfl⟩) ⟨c,e,z,ho,by rw [hlen,fI];have:=bw.len;omega,fun j u hj=>?_⟩ hlen.symm fun j x u h1 h2=>?_
      ·rw [List.getElem?_take] at hj
       split at hj
       ·rw [List.getElem?_drop] at hj;simpa using hj
       ·cases hj
      ·have hj:j<len*aA:=by
        have:=(List.getElem?_eq_some_iff.1 h1).1
        rw [fI] at this;exact this
       rw [List.getElem?_take,if_pos hj,List.getElem?_drop] at h1 h2
       have:=bw.val (off+j) x u h1 (by simpa using h2)
       exact ((this.pure (hc.2 x (List.mem_of_getElem? h1)).pure i N)).mono (le N)
   ·cases h
  ·cases h
 ·simp only [Option.some.injEq,Prod.mk.injEq] at h
  obtain ⟨rfl,rfl⟩:=h
  cases hv
  exact .bY 0 0 none (Nat.le_refl _)
 ·split at h
  ·rename_i hp
   simp only [Option.some.injEq,Prod.mk.injEq] at h
   obtain ⟨rfl,rfl⟩:=h
   exact (hv.pure hp.1 i N).mono (le N)
  ·cases h
theorem qU {gU:Bool} (hH:ba F G i H w.heap):∀ {xs us:List AV} {b:Bool} {vs:List Value},da H xs=some (us,b)->(b=true->gU=true)->ay ⟨F,w.heap,i,H.n⟩ xs vs->∀ N,ay ⟨fun b=>F b\/Ve gU i H b,w.heap,i,N⟩ us vs
 | [],us,b,vs,h,hb,hv,N=>by
  simp only [da,Option.some.injEq,Prod.mk.injEq] at h
  obtain ⟨rfl,rfl⟩:=h
  have:vs=[]:=List.eq_nil_of_length_eq_zero (by rw [←hv.1];rfl)
  subst this;exact ay.nil
 | x::xs,us,b,[],h,hb,hv,N=>by have:=hv.1;simp at this
 | x::xs,us,b,v::vs,h,hb,hv,N=>by
  simp only [da] at h
  split at h
  ·rename_i y b1 ys b2 h1 h2
   simp only [Option.some.injEq,Prod.mk.injEq] at h
   obtain ⟨rfl,rfl⟩:=h
   exact ay.cons (uo hH h1 (fun e=>hb (by simp [e])) (hv.2 0 x v rfl rfl) N)
    (qU hH h2 (fun e=>hb (by simp [e])) ⟨by simpa using hv.1,fun j a b p q=>hv.2 (j+1) a b (by simpa using p) (by simpa using q)⟩ N)
  ·cases h
theorem HK {gU:Bool} (hH:ba F G i H w.heap) {x u:AV} {b:Bool} (h:normArg H x=some (u,b)) (hb:b=true->gU=true) {v:Value} (hv:ao ⟨F,w.heap,i,H.n⟩ x v) (N:Nat):
  ao ⟨fun b=>F b\/Ve gU i H b,w.heap,i,N⟩ u v:=by
 unfold normArg at h
 split at h
 ·split at h
  ·rename_i ys b1 h1
   simp only [Option.some.injEq,Prod.mk.injEq] at h
   obtain ⟨rfl,rfl⟩:=h
   cases hv with
   | agg _ vs hl jJ=>
    have:=qU (vs:=vs.toList) hH h1 hb ⟨by simpa using hl,fun j x v p q=>jJ j x v p (by simpa using q)⟩ N
    exact .agg _ vs (by simpa using this.1) fun j x v p q=>this.2 j x v p (by simpa using q)
  ·cases h
 ·exact uo hH h hb hv N
theorem uq {gU:Bool} (hH:ba F G i H w.heap):∀ {xs us:List AV} {b:Bool} {vs:List Value},normArgs H xs=some (us,b)->(b=true->gU=true)->ay ⟨F,w.heap,i,H.n⟩ xs vs->∀ N,ay ⟨fun b=>F b\/Ve gU i H b,w.heap,i,N⟩ us vs
 | [],us,b,vs,h,hb,hv,N=>by
  simp only [normArgs,Option.some.injEq,Prod.mk.injEq] at h
  obtain ⟨rfl,rfl⟩:=h
  have:vs=[]:=List.eq_nil_of_length_eq_zero (by rw [←hv.1];rfl)
  subst this;exact ay.nil
 | x::xs,us,b,[],h,hb,hv,N=>by have:=hv.1;simp at this
 | x::xs,us,b,v::vs,h,hb,hv,N=>by
  simp only [normArgs] at h
  split at h
  ·rename_i y b1 ys b2 h1 h2
   simp only [Option.some.injEq,Prod.mk.injEq] at h
   obtain ⟨rfl,rfl⟩:=h
   exact ay.cons (HK hH h1 (fun e=>hb (by simp [e])) (hv.2 0 x v rfl rfl) N)
    (uq hH h2 (fun e=>hb (by simp [e])) ⟨by simpa using hv.1,fun j a b p q=>hv.2 (j+1) a b (by simpa using p) (by simpa using q)⟩ N)
  ·cases h
theorem jk:∀ (d:List aa) (H:af),H.rev.length=H.n->dD H (a_ d H).2
 | [],H,bw=>dD.refl bw
 | .v x::ls,H,bw=>jk ls H bw
 | .fz n cs::ls,H,bw=>jk ls H bw
 | .own aA n cs::ls,H,bw=>by
  by_cases hn:n=0
  ·simp only [a_,hn,if_true];exact jk ls H bw
  ·simp only [a_,hn,if_false]
   have g:=(gg.push (H:=H) (.cells cs)).grow bw
   exact g.trans (jk ls _ g.ok)
theorem CallOk.place {g:FuncId} {ai xs:List AV} {d:List aa} (h:CallOk P (fun _=>none) g ai af.empty (eV xs) H0) (hl:aQ (ie H0 fun r=>r∈kZ xs d) xs d) (BZ:(kZ xs d).Nodup)
  {args:List AV} {gU:Bool} (hn:normArgs H args=some (ai,gU)) (hb:gU=true->fY d=true):CallOk P (fun _=>none) g args H (eV (a_ d H).1) (a_ d H).2:=by
 refine ⟨fun bw=>jk d H bw,h.fn,fun F G i w Wt hH hg hA=>?_⟩
 have hA':ay ⟨fun b=>F b\/Ve gU i H b,w.heap,i,af.empty.n⟩ ai Wt.toList:=uq hH hn (fun e=>e) hA _
 have adp:=h.lu (fun b=>F b\/Ve gU i H b) (fun b=>G b\/Ws gU i H b) i w Wt (Ok hH) ⟨fun g cells e=>by cases e⟩ hA'
 refine CallsIn.mono adp fun e w' he=>?_
 cases e with
 | panicked c=>exact he.elim
 | outgrown=>exact he.elim
 | returned v=>
  obtain ⟨F',i',dG⟩:=he
  have hOut:∀ r row,H0.get r=some row->¬ F' (i' r)/\¬ G (i' r)/\∀ s cS,H.get s=some cS->i s≠i' r:=by
   intro r row hr
   obtain ⟨o1,o2⟩:=dG.heap.out r row hr
   refine ⟨o1,fun hG=>o2 (.inl hG),fun s cS hs e=>?_⟩
   cases Mc:gU with
   | true=>exact o1 (dG.ext.grow _ (.inr ⟨Mc,s,cS,hs,e.symm⟩))
   | false=>exact o2 (.inr ⟨Mc,s,cS,hs,e.symm⟩)
  let F2:Nat->Prop:=fun b=>(F' b/\¬ Ve gU i H b)\/∃ r row,H0.get r=some row/\¬ (r∈kZ xs d)/\b=i' r
  have adq:∀ b,F b->F2 b:=by
   intro b hf
   refine .inl ⟨dG.ext.grow b (.inl hf),?_⟩
   rintro ⟨_,r,row,hr,rfl⟩
   exact (hH.out r row hr).1 hf
  have RW:∀ b,F b\/G b\/(∃ r row,H.get r=some row/\b=i r)->w'.heap[b]?=w.heap[b]?:=by
   intro b H5
   refine dG.ext.aP b ?_
   rcases H5 with hf | hG | hr
   ·exact .inl (.inl hf)
   ·exact .inr (.inl hG)
   ·cases Mc:gU with
    | true=>exact .inl (.inr ⟨rfl,hr⟩)
    | false=>exact .inr (.inr ⟨rfl,hr⟩)
  have le:Env.le ⟨F,w.heap,i,H.n⟩ ⟨F2,w'.heap,i,H.n⟩:=⟨adq,fun b hf=>RW b (.inl hf),Nat.le_refl _,fun _ _=>rfl,dG.ext.cells⟩
  have adr:Hand F' F2 G i' H0 w' (fun r=>r∈kZ xs d) gU:=by
   refine ⟨⟨dG.heap.row,fun r row hr=>⟨(dG.heap.out r row hr).1,fun h=>h⟩,dG.heap.inj,fun b H5=>?_,fun _ _ h=>h,dG.heap.ok⟩,fun r row hr ho=>.inr ⟨r,row,hr,ho,rfl⟩,fun r row hr ho=>⟨?_,(hOut r row hr).2.1⟩,fun Mc b hf=>.inl ⟨hf,?_⟩⟩
   ·rcases H5 with hf | hf
    ·exact dG.heap.cn b (.inl hf)
    ·exact hf.elim
   ·rintro (⟨hf,_⟩ | ⟨r',cS,gL,Ti,e⟩)
    ·exact (hOut r row hr).1 hf
    ·have:=dG.heap.inj r r' row cS hr gL e
     subst this
     exact Ti ho
   ·rintro ⟨e,_⟩;rw [Mc] at e;cases e
  have hH2:ba F2 G i H w'.heap:=by
   refine ⟨fun r row hr=>?_,fun r row hr=>⟨?_,(hH.out r row hr).2⟩,hH.inj,fun b H5=>?_,fun b hf hG=>?_,hH.ok⟩
   ·obtain ⟨o,ho,ml⟩:=hH.row r row hr
    exact ⟨o,by rw [RW _ (.inr (.inr ⟨r,row,hr,rfl⟩))];exact ho,ml.mono le⟩
   ·rintro (⟨hf,W0⟩ | ⟨r',cS,gL,_,e⟩)
    ·cases Mc:gU with
     | true=>rw [Mc] at W0;exact W0 ⟨rfl,r,row,hr,rfl⟩
     | false=>have hap:=dG.heap.apart _ hf;exact hap (.inr ⟨Mc,r,row,hr,rfl⟩)
    ·exact (hOut r' cS gL).2.2 r row hr e
   ·rcases H5 with (⟨hf,_⟩ | ⟨r',cS,gL,_,rfl⟩) | hG
    ·exact dG.heap.cn b (.inl hf)
    ·obtain ⟨o,ho,_⟩:=dG.heap.row r' cS gL
     exact (Array.getElem?_eq_some_iff.1 ho).1
    ·exact dG.heap.cn b (.inr (.inl hG))
   ·rcases hf with ⟨hf,_⟩ | ⟨r',cS,gL,_,rfl⟩
    ·exact dG.heap.apart b hf (.inl hG)
    ·exact (hOut r' cS gL).2.1 hG
  have fin:∀ vs:List Value,ay ⟨F',w'.heap,i',H0.n⟩ xs vs->(∀ (E:Env) (us:List AV),ay E us vs->us.length=xs.length->ao E (eV us) v)->Ret F G i H w (eV (a_ d H).1) (a_ d H).2 (.returned v) w':=by
   intro vs jJ Yf
   obtain ⟨Il,k1,k2,k3,k4⟩:=BH adr xs d H i vs hl hb BZ hH2 (fun r hr s row hs=>by
    obtain ⟨j8,h0⟩:=gm hl hr
    exact (hOut r j8 h0).2.2 s row hs) jJ
   refine ⟨F2,Il,Yf _ _ k4 (by rw [k4.1,←jJ.1]),k1,⟨adq,fun b H5=>RW b (H5.imp id .inl),dG.ext.size,dG.ext.cells,k2,dG.ext.os,dG.ext.output,dG.ext.tape⟩,k3⟩
  have uR:=dG.val
  unfold eV at uR
  split at uR
  ·rename_i x
   refine fin [v] (ay.cons uR ay.nil) fun E us RD hlen=>?_
   match us,hlen with
   | [u],_=>exact RD.2 0 u v rfl rfl
  ·rename_i ek
   cases uR with
   | tuple _ vs hlen jJ=>
    refine fin vs.toList ⟨by simpa using hlen,fun j x v p q=>jJ j x v p (by simpa using q)⟩ fun E us RD Wu=>?_
    have Yf:eV us=.tuple us:=by
     unfold eV
     split
     ·rename_i u
      exfalso
      match xs,Wu with
      | [x],_=>exact ek x rfl
     ·rfl
    rw [Yf]
    exact .tuple us vs (by rw [Wu];exact hlen) fun j x v p q=>RD.2 j x v p (by simpa using q)
end
end Go.Abs
end
noncomputable section
namespace Go.Abs
open Classical
def tA (P:Program) (g:FuncId) (ai:List AV) (d:List aa):Prop:=
 ∀ (H:af) (args:List AV) (gU:Bool),normArgs H args=some (ai,gU)->(gU=true->fY d=true)->CallOk P (fun _=>none) g args H (eV (a_ d H).1) (a_ d H).2
def Jc:AV->SV
 | .agg cs=>.s (.agg (cs.map fun c=>.b (lQ c)))
 | .func f [] []=>.s (.o (.fn f [] []))
 | .dK cs off=>.aT (.fm cs off)
 | x=>.aT (lQ x)
def RB (rows:Rows) (fz:Bool) (x:S3):Option aa:=
 match fz,x with
 | true,.o (.b (.own r aW _))=>match rows[r]? with
  | some (some (.vec _ v _ n cs))=>match Nat.beq aW v with
   | true=>some (.fz n cs)
   | false=>none
  | _=>none
 | true,.o (.b (.sub r aW off n _))=>match rows[r]? with
  | some (some (.vec _ v es _ cs))=>match Nat.beq aW v with
   | true=>some (.fz n ((cs.drop (off*es)).take (n*es)))
   | false=>none
  | _=>none
 | true,.o (.b (.raw .av))=>some (.fz 0 [])
 | true,_=>none
 | false,x=>match N7 rows (.s x) with
  | some (u,_)=>some (.v u)
  | none=>none
def lR (rows:Rows):List Bool->List S3->Option (List aa)
 | [],[]=>some []
 | m::ms,x::xs=>match RB rows m x,lR rows ms xs with
  | some l,some ls=>some (l::ls)
  | _,_=>none
 | _,_=>none
def bp (ms:List Bool) (y:SV) (rows:Rows):Option (List aa):=
 match y,ms with
 | .s x,[m]=>lR rows [m] [x]
 | .tuple xs,[]=>lR rows [] xs
 | .tuple xs,m::m'::ms=>lR rows (m::m'::ms) xs
 | _,_=>none
def iW:List aa->Prop
 | []=>True
 | .fz _ cs::ls=>(∀ c∈cs,eY c)/\iW ls
 | .own _ _ cs::ls=>(∀ c∈cs,eY c)/\iW ls
 | .v _::ls=>iW ls
section
variable {P : Program} {T : qG} {cm jn : FuncId → Bool} {N : Nat} {live : FuncId → Nat → Nat} {dL : FuncId → Nat → J0} {C : cp} {ι : Nat → Nat} {rows : Rows} {H : af}
theorem RC {x:AV} (h:lG x):RV ι rows (Jc x) x:=by
 unfold Jc
 split
 ·rename_i cs
  refine ⟨cs,rfl,?_⟩
  have:=aQ.of_map (R:=R2 ι rows) (fun c=>.b (lQ c)) id cs fun c hc=>(lS (x:=c) (fun n dE e=>by
   have:=h c hc
   subst e
   exact this) (fun n dE e=>by
   have:=h c hc
   subst e
   exact this))
  simpa using this
 ·exact ⟨[],[],rfl,.nil,.nil⟩
 ·exact ⟨rfl,h⟩
 ·exact lS (fun n cs e=>by subst e;exact h) (fun n cs e=>by subst e;exact h)
theorem LZ (hE:aE C ι rows H) {x:S2} {v u:AV} {b:Bool} (hx:R2 ι rows x v) (h:Hp rows x=some (u,b)):E3 H v u:=by
 unfold Hp at h
 split at h
 ·rename_i x
  split at h
  ·rename_i q aW aA
   split at h
   ·rename_i nb v' es n cs aG
    split at h
    ·rename_i ef
     have ef:=Nat.eq_of_beq_eq_true ef
     subst ef
     simp only [Option.some.injEq,Prod.mk.injEq] at h
     obtain ⟨rfl,rfl⟩:=h
     have hx:R1 ι rows (.own q aW aA) v:=hx
     obtain ⟨e,hv⟩:=(hx.2 _ _ _ _ (dk aG)).2 rfl
     obtain ⟨g1,g2,g3⟩:=hE.row _ _ aG
     subst e
     subst hv
     unfold dc
     by_cases hn:nb=true/\n=0
     ·rw [if_pos hn]
      have:cs=[]:=by rw [hn.2,Nat.zero_mul] at g1;exact List.eq_nil_of_length_eq_zero g1
      rw [hn.2,this];exact .nil
     ·rw [if_neg hn]
      exact .slice (g3 hn) g2 g1
    ·cases h
   ·cases h
  ·rename_i q aW off n aA
   split at h
   ·rename_i nb v' es m cs aG
    split at h
    ·rename_i ef
     have ef:=Nat.eq_of_beq_eq_true ef
     subst ef
     simp only [Option.some.injEq,Prod.mk.injEq] at h
     obtain ⟨rfl,rfl⟩:=h
     have hx:R1 ι rows (.sub q aW off n aA) v:=hx
     obtain ⟨e,hle,hv⟩:=(hx.2 _ _ _ _ (dk aG)).2 rfl
     obtain ⟨g1,g2,g3⟩:=hE.row _ _ aG
     subst e
     have hl:off*aA+n*aA<=cs.length:=by rw [g1,←Nat.add_mul];exact Nat.mul_le_mul_right _ hle
     unfold mS at hv
     split at hv
     ·rename_i hn
      have:n=0:=by omega
      subst hv;subst this
      simp only [Nat.zero_mul,List.take_zero];exact .nil
     ·rename_i hn
      rcases hv with hv | ⟨n9,hv⟩
      ·subst hv;exact .sub (g3 hn) g2 hl
      ·subst hv;subst n9
       simp only [Nat.zero_mul,List.take_zero];exact .same (.list 0 [] fun x hx=>(by cases hx))
    ·cases h
   ·cases h
  ·rename_i q off n aA
   split at h
   ·rename_i cs aG
    split at h
    ·rename_i us RD
     split at h
     ·rename_i hb
      rw [Nat.ble_eq] at hb
      simp only [Option.some.injEq,Prod.mk.injEq] at h
      obtain ⟨rfl,rfl⟩:=h
      have hx:R1 ι rows (.fX q off n aA) v:=hx
      have hv:=hx.2 (iP aG)
      subst hv
      obtain ⟨dE,g1,g2⟩:=hE.row _ _ aG
      obtain ⟨e,hc⟩:=eP g2 RD
      subst e
      exact .sub g1 hc hb
     ·cases h
    ·cases h
   ·cases h
  ·have hx:v=.av:=hx
   simp only [Option.some.injEq,Prod.mk.injEq] at h
   obtain ⟨rfl,rfl⟩:=h
   rw [hx];exact .nil
  ·have hx:v=.bI:=hx
   simp only [Option.some.injEq,Prod.mk.injEq] at h
   obtain ⟨rfl,rfl⟩:=h
   rw [hx];exact .same .bI
  ·have hx:v=.nilFunc:=hx
   simp only [Option.some.injEq,Prod.mk.injEq] at h
   obtain ⟨rfl,rfl⟩:=h
   rw [hx];exact .same .nilFunc
  ·rename_i cs off
   have hx:R1 ι rows (.fm cs off) v:=hx
   simp only [Option.some.injEq,Prod.mk.injEq] at h
   obtain ⟨rfl,rfl⟩:=h
   rw [hx.1];exact .same (.dK _ _ fun x hx'=>(hx.2 x hx').pure)
  ·split at h
   ·rename_i u hu
    simp only [Option.some.injEq,Prod.mk.injEq] at h
    obtain ⟨rfl,rfl⟩:=h
    obtain ⟨e,hc⟩:=ib (show R1 ι rows _ v from hx) hu
    rw [e];exact .same hc.pure
   ·cases h
 ·split at h
  ·rename_i f
   simp only [Option.some.injEq,Prod.mk.injEq] at h
   obtain ⟨rfl,rfl⟩:=h
   obtain ⟨cX,nU,e,h1,h2⟩:=hx
   cases h1;cases h2
   rw [e];exact .same (.func _ _ _ (by simp) (by simp))
  ·cases h
theorem Hr (hE:aE C ι rows H):∀ {xs:List S2} {vs us:List AV} {b:Bool},aQ (R2 ι rows) xs vs->pj rows xs=some (us,b)->aQ (E3 H) vs us
 | [],[],us,b,_,h=>by simp only [pj,Option.some.injEq,Prod.mk.injEq] at h;obtain ⟨rfl,rfl⟩:=h;exact .nil
 | x::xs,v::vs,us,b,.cons hx ht,h=>by
  simp only [pj] at h
  split at h
  ·rename_i y b1 ys b2 h1 h2
   simp only [Option.some.injEq,Prod.mk.injEq] at h
   obtain ⟨rfl,rfl⟩:=h
   exact .cons (LZ hE hx h1) (Hr hE ht h2)
  ·cases h
theorem RE (hE:aE C ι rows H) {m:Bool} {x:S3} {v:AV} {l:aa} (hx:R3 ι rows x v) (h:RB rows m x=some l) (hp:iW [l]):ie H (fun _=>False) v l:=by
 unfold RB at h
 split at h
 ·rename_i q aW aA
  split at h
  ·rename_i nb v' es n cs aG
   split at h
   ·rename_i ef
    have ef:=Nat.eq_of_beq_eq_true ef
    subst ef
    simp only [Option.some.injEq] at h
    subst h
    have hx:R1 ι rows (.own q aW aA) v:=hx
    obtain ⟨e,hv⟩:=(hx.2 _ _ _ _ (dk aG)).2 rfl
    obtain ⟨g1,g2,g3⟩:=hE.row _ _ aG
    subst e
    subst hv
    unfold dc
    by_cases hn:nb=true/\n=0
    ·rw [if_pos hn]
     have:cs=[]:=by rw [hn.2,Nat.zero_mul] at g1;exact List.eq_nil_of_length_eq_zero g1
     rw [hn.2,this];exact .ua
    ·rw [if_neg hn]
     exact .fz (g3 hn) hp.1 g1 (fun h=>h)
   ·cases h
  ·cases h
 ·rename_i q aW off n aA
  split at h
  ·rename_i nb v' es m cs aG
   split at h
   ·rename_i ef
    have ef:=Nat.eq_of_beq_eq_true ef
    subst ef
    simp only [Option.some.injEq] at h
    subst h
    have hx:R1 ι rows (.sub q aW off n aA) v:=hx
    obtain ⟨e,hle,hv⟩:=(hx.2 _ _ _ _ (dk aG)).2 rfl
    obtain ⟨g1,g2,g3⟩:=hE.row _ _ aG
    subst e
    have hl:off*aA+n*aA<=cs.length:=by rw [g1,←Nat.add_mul];exact Nat.mul_le_mul_right _ hle
    unfold mS at hv
    split at hv
    ·rename_i hn
     have:n=0:=by omega
     subst hv;subst this
     simp only [Nat.zero_mul,List.take_zero];exact .ua
    ·rename_i hn
     rcases hv with hv | ⟨n9,hv⟩
     ·subst hv;exact .Bp (g3 hn) hp.1 hl (fun h=>h)
     ·subst hv;subst n9
      simp only [Nat.zero_mul,List.take_zero];exact .sI
   ·cases h
  ·cases h
 ·simp only [Option.some.injEq] at h
  subst h
  have hx:v=.av:=hx
  subst hx
  exact .ua
 ·cases h
 ·split at h
  ·rename_i u b hu
   simp only [Option.some.injEq] at h
   subst h
   cases x with
   | o x=>exact .v (LZ hE (show R2 ι rows x v from hx) hu) fun _ _ _ _ _ h=>h
   | agg cs=>
    obtain ⟨dE,e,cR⟩:=hx
    subst e
    simp only [N7] at hu
    split at hu
    ·rename_i ys b1 h1
     simp only [Option.some.injEq,Prod.mk.injEq] at hu
     obtain ⟨rfl,rfl⟩:=hu
     exact .agg (Hr hE cR h1) fun _ _ _ _ _ _ _ h=>h
    ·cases hu
  ·cases h
theorem nC (hE:aE C ι rows H):∀ {ms:List Bool} {xs:List S3} {vs:List AV} {d:List aa},aQ (R3 ι rows) xs vs->lR rows ms xs=some d->iW d->aQ (ie H fun _=>False) vs d
 | [],[],[],d,_,h,_=>by simp only [lR,Option.some.injEq] at h;subst h;exact .nil
 | m::ms,x::xs,v::vs,d,.cons hx ht,h,hp=>by
  simp only [lR] at h
  split at h
  ·rename_i l ls h1 h2
   simp only [Option.some.injEq] at h;subst h
   have:iW [l]/\iW ls:=by
    cases l with
    | v u=>exact ⟨trivial,hp⟩
    | fz n cs=>exact ⟨⟨hp.1,trivial⟩,hp.2⟩
    | own e n cs=>exact ⟨⟨hp.1,trivial⟩,hp.2⟩
   exact .cons (RE hE hx h1 this.1) (nC hE ht h2 this.2)
  ·cases h
theorem ie.mono {O O':Nat->Prop} {x:AV} {l:aa} (h:ie H O x l) (h1:∀ r,O' r->O r) (h2:∀ r,O r->O' r):ie H O' x l:=by
 cases h with
 | v a b=>exact .v a fun r o n e he h=>b r o n e he (h1 _ h)
 | agg a b=>exact .agg a fun x hx r o n e he h=>b x hx r o n e he (h1 _ h)
 | fz a b c d=>exact .fz a b c fun h=>d (h1 _ h)
 | Bp a b c d=>exact .Bp a b c fun h=>d (h1 _ h)
 | sI=>exact .sI
 | ua=>exact .ua
 | own a b c d e=>exact .own a b c d (h2 _ e)
 | vW=>exact .vW
theorem Dk:∀ {xs:List AV} {d:List aa},aQ (ie H fun _=>False) xs d->kZ xs d=[]
 | [],[],_=>rfl
 | x::xs,l::d,.cons hl ht=>by
  have ih:=Dk ht
  cases hl with
  | v h1 h2=>cases x<;>exact ih
  | agg h1 h2=>exact ih
  | fz h1 h2 h3 h4=>exact ih
  | ua=>exact ih
  | Bp h1 h2 h3 h4=>exact ih
  | sI=>exact ih
  | own hg hc hlen hn hO=>exact hO.elim
  | vW=>exact ih
theorem N8:aE C ι [] af.empty:=⟨fun r row h=>by simp at h,fun r r' row cS h=>by simp at h,rfl,rfl⟩
theorem Hs:∀ {ai:List AV},(∀ x∈ai,lG x)->aQ (RV ι rows) (ai.map Jc) ai
 | [],_=>.nil
 | x::xs,h=>.cons (RC (h x List.mem_cons_self)) (Hs fun y hy=>h y (List.mem_cons_of_mem _ hy))
theorem Gx (hm:P.follows .mixedOrders=true) (fK:ja P) (hT:iN P T cm) {k:Nat} {g:FuncId} {ai:List AV} {ms:List Bool} {d:List aa}
  (h:(cE P T cm jn N live dL k).call (List aa) g (ai.map Jc) [] (bp ms)=some d) (ha:∀ x∈ai,lG x) (hp:iW d):tA P g ai d:=by
 obtain ⟨y,H',ys,ah,ι',h1,h2,h3,h4⟩:=fsS_call hm fK hT h (N8 (ι:=id)) (Hs ha)
 intro H args gU hn hb
 have fin:∀ xs:List AV,y=eV xs->aQ (ie H' fun _=>False) xs d->CallOk P (fun _=>none) g args H (eV (a_ d H).1) (a_ d H).2:=by
  intro xs e hl
  subst e
  have ho:=Dk hl
  refine CallOk.place h1 (hl.mono fun x l hx=>hx.mono (fun r hr=>by rw [ho] at hr;cases hr) (fun r hr=>hr.elim)) (by rw [ho];exact List.nodup_nil) hn hb
 unfold bp at h4
 split at h4
 ·rename_i x m
  refine fin [y] rfl (nC h2 (.cons h3 .nil) h4 hp)
 ·rename_i xs
  obtain ⟨vs,e,cR⟩:=h3
  refine fin vs ?_ (nC h2 cR h4 hp)
  have:xs=[]:=by
   cases xs with
   | nil=>rfl
   | cons x xs=>cases h4
  subst this
  cases cR
  rw [e];rfl
 ·rename_i xs m m' ms
  obtain ⟨vs,e,cR⟩:=h3
  refine fin vs ?_ (nC h2 cR h4 hp)
  match xs,vs,cR,h4 with
  | [],_,_,h4=>cases h4
  | [x],_,_,h4=>
   simp only [lR] at h4
   split at h4
   ·rename_i h5;cases h5
   ·cases h4
  | _::_::_,_::_::_,_,_=>rw [e];rfl
 ·cases h4
abbrev fr:=List AV->(R:Type)->(List aa->Option R)->Option R
end
end Go.Abs
end
noncomputable section
namespace Go.Abs
open Classical
theorem Sq {a b:Nat} (h:Nat.beq a b=true):a=b:=Nat.eq_of_beq_eq_true h
def TF:List (FuncId × fr)->qG
 | [],_,_,_,_=>none
 | (g',f)::l,g,args,R,K=>match Nat.beq g' g with
  | true=>f args R K
  | false=>TF l g args R K
def TG:List (FuncId × fr)->FuncId->Bool
 | [],_=>false
 | (g',_)::l,g=>match Nat.beq g' g with
  | true=>true
  | false=>TG l g
def bG (P:Program) (g:FuncId) (f:fr):Prop:=
 ∀ (ai:List AV) (R:Type) (K:List aa->Option R) (r:R),(∀ x∈ai,lG x)->f ai R K=some r->
  ∃ d,(∀ (R':Type) (K':List aa->Option R'),f ai R' K'=K' d)/\(∀ l∈d,gT l)/\tA P g ai d
def eZ (P:Program):List (FuncId × fr)->Prop
 | []=>True
 | (g,f)::l=>bG P g f/\eZ P l
theorem Lj {P:Program}:∀ {l:List (FuncId × fr)},eZ P l->iN P (TF l) (TG l)
 | [],_=>fun g ai R K r hd ha h=>by cases h
 | (g',f)::l,hl=>by
  intro g ai R K r hd ha h
  simp only [TF] at h ⊢
  cases hg:Nat.beq g' g with
  | true=>
   rw [hg] at h
   have:=Sq hg
   subst this
   exact hl.1 ai R K r ha h
  | false=>
   rw [hg] at h
   simp only [TG,hg] at hd
   exact Lj hl.2 g ai R K r hd ha h
def Sr:List (Nat × Nat × Nat)->Nat->Nat × Nat
 | [],_=>(0,0)
 | (b,l,a)::xs,k=>match Nat.beq b k with
  | true=>(l,a)
  | false=>Sr xs k
def Ss:List (Nat × List (Nat × Nat × Nat))->Nat->List (Nat × Nat × Nat)
 | [],_=>[]
 | (g,xs)::rest,k=>match Nat.beq g k with
  | true=>xs
  | false=>Ss rest k
def Xa (m:List (Nat × List (Nat × Nat × Nat))) (g b:Nat):Nat:=(Sr (Ss m g) b).1
structure Lh where
 fn:Nat
 /-- the variable that is asked, or the region's number -/
 at_:Nat
 live:Nat
 mask:Nat
 aaT:List (Tmp × S3)
def DD:List (Tmp × S3)->bX->bX
 | [],s=>s
 | (t,x)::ps,s=>DD ps { s with tmps:=s.tmps.set t (.s x) }
def Su:List Lh->Nat->Nat->Option LS
 | [],_,_=>none
 | e::xs,g,t=>match Nat.beq e.fn g&&Nat.beq e.at_ t with
  | true=>some ⟨e.live,e.mask,fun s=>⟨[],[DD e.aaT s]⟩⟩
  | false=>Su xs g t
def Mj (g b:Nat):List (Nat × Nat)->Bool
 | []=>false
 | (x,y)::xs=>(Nat.beq x g&&Nat.beq y b)||Mj g b xs
def aeL (m:List (Nat × List (Nat × Nat × Nat))) (v:FuncId->Nat->Option (bX->Ci)) (u:FuncId->Nat->Option (Tmp × Nat)) (p:FuncId->Bool) (j r:List Lh) (d:List (Nat × Nat)) (g b:Nat):J0:=⟨(Sr (Ss m g) b).2,v g b,u g b,p g,Su j g,Su r g,Mj g b d⟩
end Go.Abs
end
