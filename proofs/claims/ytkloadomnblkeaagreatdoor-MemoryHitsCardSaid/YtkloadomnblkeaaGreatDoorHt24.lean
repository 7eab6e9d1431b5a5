/- Part 24 of the library of the proof: an abstract run of the program. -/
import Derived.Test.YtkloadomnblkeaaGreatDoorHt13
import Derived.Test.YtkloadomnblkeaaGreatDoorHt14
import Derived.Test.YtkloadomnblkeaaGreatDoorHt23
set_option linter.unusedVariables false
set_option linter.unusedSimpArgs false

noncomputable section
namespace Go.Abs
open Classical
def runT:List Bool->Nat
 | true::hs=>runT hs+1
 | _=>0
def eE:Nat->Nat->Nat->Nat->List Bool->Nat × Nat
 | _,_,a,b,[]=>(a,b)
 | i,f,a,b,h::hs=>if h=false then eE (i+1) (i+1) a b hs else if i+1-f>b-a then eE (i+1) f f (i+1) hs else eE (i+1) f a b hs
def fS:Nat->Nat->Nat->List Bool->Nat × Nat
 | _,a,b,[]=>(a,b)
 | i,a,b,h::hs=>if runT (h::hs)>b-a then fS (i+1) i (i+runT (h::hs)) hs else fS (i+1) a b hs
theorem tN:∀ (m:Nat) (hs:List Bool),runT (List.replicate m true++false::hs)=m/\runT (List.replicate m true)=m
 | 0,hs=>⟨rfl,rfl⟩
 | m+1,hs=>by
  obtain ⟨h1,h2⟩:=tN m hs
  simp only [List.replicate_succ,List.cons_append,runT,h1,h2,and_self]
theorem jP:∀ (m i a b:Nat) (hs:List Bool),m<=b-a->fS i a b (List.replicate m true++false::hs)=fS (i+m+1) a b hs/\fS i a b (List.replicate m true)=(a,b)
 | 0,i,a,b,hs,_=>by
  refine ⟨?_,rfl⟩
  show fS i a b (false::hs)=_
  rw [fS,if_neg (by show ¬ 0>b-a;omega)]
 | m+1,i,a,b,hs,h=>by
  obtain ⟨h1,h2⟩:=jP m (i+1) a b hs (by omega)
  obtain ⟨r1,r2⟩:=tN (m+1) hs
  rw [List.replicate_succ] at r1 r2 ⊢
  constructor
  ·rw [List.cons_append] at r1 ⊢
   rw [fS,r1,if_neg (by omega),h1]
   congr 1;omega
  ·rw [fS,r2,if_neg (by omega),h2]
theorem mK:∀ (hs:List Bool) (f c a' b' a b:Nat),a'<=b'->(a,b)=(if c>b' - a' then (f,f+c) else (a',b'))->eE (f+c) f a b hs=fS f a' b' (List.replicate c true++hs)
 | [],f,c,a',b',a,b,OJ,h=>by
  rw [List.append_nil,eE]
  cases c with
  | zero=>rw [h,if_neg (by omega)];rfl
  | succ c=>
   have hr:=(tN (c+1) []).2
   rw [List.replicate_succ] at hr ⊢
   rw [fS,hr]
   by_cases hc:c+1>b' - a'
   ·rw [if_pos hc] at h ⊢
    rw [h,(jP c (f+1) f (f+(c+1)) [] (by omega)).2]
   ·rw [if_neg hc] at h ⊢
    rw [h,(jP c (f+1) a' b' [] (by omega)).2]
 | true::hs,f,c,a',b',a,b,OJ,h=>by
  rw [eE,if_neg (by simp)]
  have e:List.replicate c true++true::hs=List.replicate (c+1) true++hs:=by
   rw [List.replicate_succ',List.append_assoc];rfl
  rw [e]
  have e2:f+c+1-f=c+1:=by omega
  rw [e2]
  by_cases hc:c>b' - a'
  ·rw [if_pos hc] at h
   simp only [Prod.mk.injEq] at h
   obtain ⟨rfl,rfl⟩:=h
   rw [if_pos (by omega)]
   exact mK hs a (c+1) a' b' _ _ OJ (by rw [if_pos (by omega)];rfl)
  ·rw [if_neg hc] at h
   simp only [Prod.mk.injEq] at h
   obtain ⟨rfl,rfl⟩:=h
   by_cases hc2:c+1>b-a
   ·rw [if_pos hc2]
    exact mK hs f (c+1) a b _ _ OJ (by rw [if_pos hc2];rfl)
   ·rw [if_neg hc2]
    exact mK hs f (c+1) a b _ _ OJ (by rw [if_neg hc2])
 | false::hs,f,c,a',b',a,b,OJ,h=>by
  rw [eE,if_pos rfl]
  have ih:=mK hs (f+c+1) 0 a b a b (by
   split at h
   ·simp only [Prod.mk.injEq] at h;omega
   ·simp only [Prod.mk.injEq] at h;omega) (by rw [if_neg (by omega)])
  rw [Nat.add_zero] at ih
  rw [ih]
  show fS (f+c+1) a b hs=_
  cases c with
  | zero=>
   rw [if_neg (by omega)] at h
   simp only [Prod.mk.injEq] at h
   obtain ⟨rfl,rfl⟩:=h
   exact (jP 0 f a b hs (by omega)).1.symm
  | succ c=>
   have hr:=(tN (c+1) hs).1
   rw [List.replicate_succ,List.cons_append] at hr ⊢
   rw [fS,hr]
   by_cases hc:c+1>b' - a'
   ·rw [if_pos hc] at h ⊢
    simp only [Prod.mk.injEq] at h
    obtain ⟨rfl,rfl⟩:=h
    rw [(jP c (a+1) a (a+(c+1)) hs (by omega)).1]
    congr 1;omega
   ·rw [if_neg hc] at h ⊢
    simp only [Prod.mk.injEq] at h
    obtain ⟨rfl,rfl⟩:=h
    rw [(jP c (f+1) a b hs (by omega)).1]
    congr 1;omega
theorem tE (hs:List Bool):eE 0 0 0 0 hs=fS 0 0 0 hs:=mK hs 0 0 0 0 0 0 (Nat.le_refl _) rfl
end Go.Abs
end
noncomputable section
namespace Go.Abs
open Go.Proofs Classical Go.Abs.Fin
def cj (o:Option Nat) (xs:List (Option Nat)):List Bool:=xs.map fun x=>decide (aU o<=aU x)
theorem mH {o:Option Nat} {xs:List (Option Nat)}:(cj o xs).length=xs.length:=by simp [cj]
theorem bu.mem {n:Nat} {cs:List AV} (h:bu n cs) {i:Nat} (hi:i<n):(fO cs).getD i none∈fO cs:=by
 have h4:=h.len
 rw [List.getD_eq_getElem?_getD,List.getElem?_eq_getElem (by omega)]
 exact List.getElem_mem _
theorem zK {o:Option Nat} {xs:List (Option Nat)} {i:Nat} (h:i<xs.length):(cj o xs).drop i=decide (aU o<=aU (xs.getD i none))::(cj o xs).drop (i+1):=by
 unfold cj
 rw [←List.map_drop,←List.map_drop,drop_cons (d:=none) h,List.map_cons]
theorem gW {n:Nat} {xs:List (Option Nat)} (h:aY n xs=0):n<=4096/\∀ x∈xs,aJ x=true:=by
 unfold aY at h
 split at h
 ·omega
 ·split at h
  ·rename_i h1 h2
   exact ⟨by omega,List.all_eq_true.1 h2⟩
  ·omega
def oO (n:Nat) (xs:List (Option Nat)) (o:Option Nat):Int:=if aY n xs=0 then (if aJ o=true then (if (fS 0 0 0 (cj o xs)).1=(fS 0 0 0 (cj o xs)).2 then 7 else 0) else 1) else aY n xs
def gX (n:Nat) (xs:List (Option Nat)) (o:Option Nat):Nat × Nat:=if aY n xs=0/\aJ o=true then fS 0 0 0 (cj o xs) else (0,0)
theorem T_ {n:Nat} {cs:List AV} {o:Option Nat} (h:bu n cs):(dA FE aK (n+1) 12).call (List aa) 53 [.aT (.list n cs),.aT (.aL .f32 o)] [] (bp [false,false])=
  some [.v (.agg [.int .i64 ((gX n (fO cs) o).1:Int),.int .i64 ((gX n (fO cs) o).2:Int)]),.v (.int .i64 (oO n (fO cs) o))]:=by
 rw [XL]
 simp only [ab,aj,h,if_true,PF,Gu,mG,cr]
 unfold oO gX
 by_cases h0:aY n (fO cs)=0
 case neg=>
  rw [if_neg h0,if_neg h0,if_neg h0,if_neg (fun e=>h0 e.1)]
  rfl
 rw [if_pos h0,if_pos h0]
 cases ho:aJ o with
 | false=>
  simp [ho,h0]
 | true=>
  simp only [ho,h0,Bool.not_true,Bool.false_eq_true,if_false,if_true,and_self]
  rw [←tE]
  obtain ⟨hn,hf⟩:=gW h0
  have hl:=h.len
  have xW:=h.2.2
  refine au (fun k (r:Option Nat->Int->Nat->List AV->Int->Int->Int->Int->Nat->List AV->Int->Int->Option (List aa))=>∀ (i f a b:Nat) (x6:Int) (x7:Int) (x8:Nat) (x9:List AV),i+k=n->f<=i->a<=b->b<=i->eE i f a b ((cj o (fO cs)).drop i)=eE 0 0 0 0 (cj o (fO cs))->
   r o (f:Int) n cs (n:Int) (i:Int) x6 x7 x8 x9 (a:Int) (b:Int)=some [.v (.agg [.int .i64 ((eE 0 0 0 0 (cj o (fO cs))).1:Int),.int .i64 ((eE 0 0 0 0 (cj o (fO cs))).2:Int)]),.v (.int .i64 (if (eE 0 0 0 0 (cj o (fO cs))).1=(eE 0 0 0 0 (cj o (fO cs))).2 then 7 else 0))])
   ?_ (n+1) n (by omega) 0 0 0 0 _ _ _ _ (by omega) (by omega) (by omega) (by omega) rfl
  intro k r ih i f a b x6 x7 x8 x9 hi H6 OJ FZ hL
  by_cases hk:i<n
  ·have h2:0<cs.length:=by omega
   have hx:=hf _ (h.mem hk)
   rw [zK (by omega)] at hL
   generalize hv:(fO cs).getD i none=x at hx hL
   have hg:aq .f32 (cs.getD i .top)=some x:=by rw [h.get hk,hv]
   have w1:IntKind.i64.wrap ((i:Int)+1)=((i+1:Nat):Int):=lF h.1 hk
   have w2:IntKind.i64.wrap (((i+1:Nat):Int)-(f:Int))=((i+1-f:Nat):Int):=by rw [wrap64]<;>omega
   have w3:IntKind.i64.wrap ((b:Int)-(a:Int))=((b-a:Nat):Int):=by rw [wrap64]<;>omega
   have z1:((0:Int)<=1)=True:=eq_true (by omega)
   have z2:((1:Int)<2)=True:=eq_true (by omega)
   have z3:((0:Int)<2)=True:=eq_true (by omega)
   simp only [ab,ae,aj,Int.ofNat_lt,hk,h2,if_true,Int.toNat_natCast,Nat.mul_one,hg,ak,and_true,true_and,Int.natCast_nonneg,w1,w2,w3,z1,z2,z3,Int.le_refl,blt hx ho,Int.ofNat_lt,gt_iff_lt]
   rw [eE] at hL
   by_cases cC:aU x<aU o
   ·rw [if_pos cC]
    rw [if_pos (decide_eq_false (by omega))] at hL
    exact ih (n-(i+1)) (by omega) (i+1) (i+1) a b x6 x7 x8 x9 (by omega) (by omega) OJ (by omega) hL
   ·rw [if_neg cC]
    rw [if_neg (by simp;omega)] at hL
    by_cases V1:i+1-f>b-a
    ·rw [if_pos V1]
     rw [if_pos V1] at hL
     exact ih (n-(i+1)) (by omega) (i+1) f f (i+1) x6 x7 x8 x9 (by omega) (by omega) (by omega) (by omega) hL
    ·rw [if_neg V1]
     rw [if_neg V1] at hL
     exact ih (n-(i+1)) (by omega) (i+1) f a b x6 x7 x8 x9 (by omega) (by omega) (by omega) (by omega) hL
  ·have oP:(cj o (fO cs)).drop i=[]:=by rw [List.drop_eq_nil_iff,mH];omega
   rw [oP] at hL
   simp only [ab,ae,Int.ofNat_lt,hk,if_false,aj]
   rw [←hL]
   simp only [eE]
   rw [if_pos (by omega),if_pos (by omega)]
   simp only [beq_iff_eq,Int.ofNat_inj]
   by_cases e:a=b<;>simp only [e,if_true,if_false]
end Go.Abs
end
noncomputable section
namespace Go.Abs
open Go.Proofs Classical Go.Abs.Fin
def V2 (x y:Option Nat):Bool:=aM .f32 x y==some .lt||aM .f32 x y==some .eq
def geO (x y:Option Nat):Bool:=aM .f32 x y==some .gt||aM .f32 x y==some .eq
def u':Option (Option Nat)->List (Option Nat)->Int
 | _,[]=>0
 | p,x::xs=>if aJ x=true then (if (match p with | some y=>V2 x y | none=>false)=true then 11 else u' (some x) xs) else 1
theorem CU (p:Option (Option Nat)) (x:Option Nat) (xs:List (Option Nat)):u' p (x::xs)=if aJ x=true then (if (match p with | some y=>V2 x y | none=>false)=true then 11 else u' (some x) xs) else 1:=by cases p<;>rfl
def Nl (m:Nat) (xs:List (Option Nat)):Int:=if m=0 then 12 else if m>64 then 5 else u' none xs
def wY (xs:List (Option Nat)) (i:Nat):Option (Option Nat):=if i=0 then none else some (xs.getD (i-1) none)
theorem zL (xs:List (Option Nat)) (i:Nat):wY xs (i+1)=some (xs.getD i none):=by
 unfold wY;rw [if_neg (by omega),Nat.add_sub_cancel]
theorem ab1 (xs:List (Option Nat)) (i:Nat) (x:Option Nat):(match wY xs i with | some y=>V2 x y | none=>false)=(decide ((i:Int)>0)&&V2 x (xs.getD (i-1) none)):=by
 unfold wY
 by_cases h:i=0
 ·subst h;rfl
 ·rw [if_neg h,decide_eq_true (show (i:Int)>0 by omega)];rfl
def nV (x:Option Nat):List (Option Nat)->Nat
 | []=>0
 | l::ls=>if geO x l=true then nV x ls+1 else 0
theorem Lo (x:Option Nat):∀ ls:List (Option Nat),nV x ls<=ls.length
 | []=>Nat.le_refl _
 | l::ls=>by
  have:=Lo x ls
  simp only [nV,List.length_cons]
  split<;>omega
def lH (ls:List (Option Nat)) (acc:List Int):List (Option Nat)->List Int
 | []=>acc
 | x::xs=>lH ls (acc.set (nV x ls) (acc.getD (nV x ls) 0+1)) xs
theorem CV (ls:List (Option Nat)):∀ (xs:List (Option Nat)) (acc:List Int),(lH ls acc xs).length=acc.length
 | [],acc=>rfl
 | x::xs,acc=>by rw [lH,CV ls xs];simp
theorem P0 {k:IntKind}:∀ {l:List Int} {i:Nat} {v:Int},ag (cF k l) i [AV.int k v]=cF k (l.set i v):=by
 intro l i v
 simp [ag,cF,List.map_set]
theorem Nn (n:Nat):aX (cM (Go.Value.int IntKind.i64 (0:Int))).cells n=cF .i64 (List.replicate n 0):=by
 rw [show (cM (Go.Value.int IntKind.i64 (0:Int))).cells=[AV.int .i64 0] from rfl,abZ]
 simp [cF]
theorem P1 {k:IntKind} {l:List Int} {i:Nat} (h:i<l.length):asInt k ((cF k l).getD i .top)=some (l.getD i 0):=by
 simp [cF,List.getD,h,asInt]
theorem P2 {l:List Int} {i:Nat} (h:i<l.length):l.getD i 0∈l:=by
 rw [List.getD_eq_getElem?_getD,List.getElem?_eq_getElem h];exact List.getElem_mem _
theorem No {l:List Int} {i:Nat} {v b:Int} (hl:∀ z∈l,0<=z/\z<=b) (hv:0<=v/\v<=b+1):∀ z∈l.set i v,0<=z/\z<=b+1:=by
 intro z hz
 rcases List.mem_or_eq_of_mem_set hz with hz | rfl
 ·have:=hl z hz;omega
 ·exact hv
def qO (n:Nat) (xs:List (Option Nat)) (m:Nat) (ls:List (Option Nat)):Int:=if aY n xs=0 then Nl m ls else aY n xs
def eF (n:Nat) (xs:List (Option Nat)) (m:Nat) (ls:List (Option Nat)):List Int:=if qO n xs m ls=0 then lH ls (List.replicate (m+1) 0) xs else []
theorem Ua {n m:Nat} {cs ds:List AV} (h:bu n cs) (h':bu m ds):(dA FE aK (n+m+2) 12).call (List aa) 54 [.aT (.list n cs),.aT (.list m ds)] [] (bp [true,false])=
  some [.fz (eF n (fO cs) m (fO ds)).length (cF .i64 (eF n (fO cs) m (fO ds))),.v (.int .i64 (qO n (fO cs) m (fO ds)))]:=by
 rw [XN]
 have hl:=h.len
 have xW:=h.2.2
 have nJ:=h'.len
 have ahG:=h'.2.2
 simp only [ab,aj,h,Ln,Eg,if_true,qa,cr,PF,Gu,mG]
 by_cases s0:aY n (fO cs)=0
 case neg=>
  have e:qO n (fO cs) m (fO ds)=aY n (fO cs):=if_neg s0
  unfold eF
  rw [e,if_neg s0,if_neg s0,if_neg s0]
  rfl
 obtain ⟨hn,hf⟩:=gW s0
 have e0:qO n (fO cs) m (fO ds)=Nl m (fO ds):=if_pos s0
 unfold eF
 rw [e0,if_pos s0]
 unfold Nl
 by_cases c1:m=0
 ·have:((m:Int)==0)=true:=beq_iff_eq.2 (by omega)
  simp only [this,if_true,c1]
  rfl
 have d1:((m:Int)==0)=false:=beq_eq_false_iff_ne.2 (by omega)
 by_cases c2:m>64
 ·have:decide ((m:Int)>64)=true:=decide_eq_true (by omega)
  simp only [this,if_true,c1,c2,d1,Bool.false_eq_true,if_false]
  rfl
 have d2:decide ((m:Int)>64)=false:=decide_eq_false (by omega)
 simp only [d1,d2,c1,c2,Bool.false_eq_true,if_false,if_true]
 refine au (fun k (r:Nat->List AV->Nat->List AV->Nat->List AV->Int->Int->Nat->List AV->Nat->List AV->Option (List aa))=>∀ (i:Nat) (x8:Nat) (x9:List AV) (H7:Nat) (Np:List AV),i+k=m->u' (wY (fO ds) i) ((fO ds).drop i)=u' none (fO ds)->
  r n cs m ds m ds (m:Int) (i:Int) x8 x9 H7 Np=some [.fz (if u' none (fO ds)=0 then lH (fO ds) (List.replicate (m+1) 0) (fO cs) else []).length (cF .i64 (if u' none (fO ds)=0 then lH (fO ds) (List.replicate (m+1) 0) (fO cs) else [])),.v (.int .i64 (u' none (fO ds)))]) ?_ (n+m+2) m (by omega) 0 _ _ _ _ (by omega) rfl
 intro k r ih i x8 x9 H7 Np hi hL
 by_cases hk:i<m
 ·have h2:0<ds.length:=by omega
  rw [drop_cons (d:=none) (show i<(fO ds).length by omega),CU] at hL
  have e:=ih (m-(i+1)) (by omega) (i+1) x8 x9 H7 Np (by omega)
  rw [zL] at e
  generalize hv:(fO ds).getD i none=x at e hL
  have hg:aq .f32 (ds.getD i .top)=some x:=by rw [h'.get hk,hv]
  have wm:IntKind.i64.wrap ((i:Int)-1)=(i:Int)-1:=by rw [wrap64]<;>omega
  have e1:(if (i:Int)-1>0 then (i:Int)-1 else 0)=((i-1:Nat):Int):=by split<;>omega
  rw [ab1] at hL
  have hle:∀ y,(aM .f32 x y==some .lt||aM .f32 x y==some .eq)=V2 x y:=fun _=>rfl
  simp only [ab,ae,aj,Int.ofNat_lt,hk,h2,if_true,Int.toNat_natCast,Nat.mul_one,hg,ak,and_true,true_and,Int.natCast_nonneg,wm,e1,show i-1<m by omega,h'.get (show i-1<m by omega),oK,lF h'.1 hk,hle]
  have his:∀ a:Bool,(if (i:Int)>0 then some a else some false)=some (decide ((i:Int)>0)&&a):=by
   intro a
   by_cases h0:(i:Int)>0
   ·rw [if_pos h0,decide_eq_true h0];rfl
   ·rw [if_neg h0,decide_eq_false h0];rfl
  rw [his,ak]
  generalize (decide ((i:Int)>0)&&V2 x ((fO ds).getD (i-1) none))=v7 at hL ⊢
  have z1:((1:Int)=0)=False:=eq_false (by omega)
  have z11:((11:Int)=0)=False:=eq_false (by omega)
  cases hfx:aJ x with
  | false=>
   simp only [hfx,Bool.false_eq_true,if_false] at hL
   rw [←hL]
   simp only [Bool.not_false,if_true,z1,if_false]
   rfl
  | true=>
   simp only [hfx,if_true] at hL
   cases v7 with
   | true=>
    simp only [if_true] at hL
    rw [←hL]
    simp only [Bool.not_true,Bool.false_eq_true,if_false,if_true,z11]
    rfl
   | false=>
    simp only [Bool.false_eq_true,if_false] at hL
    simp only [Bool.not_true,Bool.false_eq_true,if_false,if_true]
    exact e hL
 ·have oP:(fO ds).drop i=[]:=by rw [List.drop_eq_nil_iff];omega
  rw [oP] at hL
  have hL0:u' none (fO ds)=0:=hL.symm
  have w0:IntKind.i64.wrap ((m:Int)+1)=((m+1:Nat):Int):=by rw [wrap64]<;>omega
  simp only [ab,ae,Int.ofNat_lt,hk,if_false,aj,w0,Int.toNat_natCast,Nat.mul_one,Nn,hL0,if_true]
  rw [if_pos (by omega)]
  refine (au (fun k (r:Nat->List AV->Nat->List AV->Int->Int->Nat->List AV->Nat->List AV->Nat->List AV->Option (List aa))=>∀ (i:Nat) (acc:List Int),i+k=n->acc.length=m+1->(∀ z∈acc,0<=z/\z<=(i:Int))->
   r m ds n cs (n:Int) (i:Int) x8 x9 H7 Np (m+1) (cF .i64 acc)=some [.fz (m+1) (cF .i64 (lH (fO ds) acc ((fO cs).drop i))),.v (.int .i64 0)]) ?_ (n+m+2) n (by omega) 0 _ (by omega) (by simp) (by intro z hz;have:=List.eq_of_mem_replicate hz;omega)).trans (by rw [CV,List.length_replicate];rfl)
  intro k r ih i acc hi ha hs
  by_cases hk:i<n
  ·rw [drop_cons (d:=none) (show i<(fO cs).length by omega),lH]
   generalize hv:(fO cs).getD i none=x
   have hg:aq .f32 (cs.getD i .top)=some x:=by rw [h.get hk,hv]
   have z1:0<cs.length:=by omega
   simp only [Int.ofNat_lt,hk,if_true,Int.natCast_nonneg,true_and,z1,and_true,Int.toNat_natCast,hg,ak]
   refine au (fun k (r2:Nat->List AV->Option Nat->Int->Nat->List AV->Int->Int->Nat->List AV->Nat->List AV->Nat->List AV->Option (List aa))=>∀ (j:Nat),j+k=m->j+nV x ((fO ds).drop j)=nV x (fO ds)->
    r2 m ds x (j:Int) n cs (n:Int) (i:Int) x8 x9 H7 Np (m+1) (cF .i64 acc)=some [.fz (m+1) (cF .i64 (lH (fO ds) (acc.set (nV x (fO ds)) (acc.getD (nV x (fO ds)) 0+1)) ((fO cs).drop (i+1)))),.v (.int .i64 0)]) ?_ (n+m+2) m (by omega) 0 (by omega) (by simp)
   intro k r2 tr j Ub hb
   have stop:j=nV x (fO ds)->(if j<m+1 then (if j<m+1 then (if j+1<=(cF .i64 acc).length then r m ds n cs (n:Int) ((i+1:Nat):Int) x8 x9 H7 Np (m+1) (ag (cF .i64 acc) j [AV.int .i64 (IntKind.i64.wrap (acc.getD j 0+1))]) else none) else none) else none)=
     some [.fz (m+1) (cF .i64 (lH (fO ds) (acc.set (nV x (fO ds)) (acc.getD (nV x (fO ds)) 0+1)) ((fO cs).drop (i+1)))),.v (.int .i64 0)]:=by
    intro hj
    have hle:=Lo x (fO ds)
    have hjm:j<acc.length:=by omega
    have hm:=hs _ (P2 hjm)
    rw [if_pos (by omega),if_pos (by omega),if_pos (by rw [M3];omega),wrap64 (by omega) (by omega),P0,←hj]
    exact ih (n-(i+1)) (by omega) (i+1) _ (by omega) (by simp [ha]) (by have:=No (i:=j) (v:=acc.getD j 0+1) hs (by omega);simpa using this)
   have hjm:j<acc.length:=by omega
   have ahK:j<m+1:=by omega
   simp only [ab,ae,aj,Int.ofNat_lt,Int.natCast_nonneg,true_and,and_true,Int.toNat_natCast,Nat.mul_one,if_true,lF (show n<9223372036854775808 by omega) hk,ak,P1 hjm,Bool.false_and,Bool.not_false,gO]
   by_cases hj:j<m
   ·have z2:0<ds.length:=by omega
    rw [drop_cons (d:=none) (show j<(fO ds).length by omega),nV] at hb
    generalize hv2:(fO ds).getD j none=y at hb
    have hg2:aq .f32 (ds.getD j .top)=some y:=by rw [h'.get hj,hv2]
    simp only [hj,z2,if_true,hg2,ak,and_self]
    by_cases IE:geO x y=true
    ·rw [if_pos IE] at hb
     have XO:(aM .f32 x y==some .gt||aM .f32 x y==some .eq)=true:=IE
     rw [XO,ct,wrap64 (by omega) (by omega),show ((j:Int)+1)=((j+1:Nat):Int) by omega]
     exact tr (m-(j+1)) (by omega) (j+1) (by omega) (by omega)
    ·rw [if_neg IE] at hb
     have XO:(aM .f32 x y==some .gt||aM .f32 x y==some .eq)=false:=by simpa [geO] using IE
     rw [XO,bH]
     exact stop (by omega)
   ·have oP:(fO ds).drop j=[]:=by rw [List.drop_eq_nil_iff];omega
    rw [oP,nV] at hb
    rw [if_neg hj,ak,bH]
    exact stop (by omega)
  ·have oP:(fO cs).drop i=[]:=by rw [List.drop_eq_nil_iff];omega
   simp only [Int.ofNat_lt,hk,if_false,oP,lH]
end Go.Abs
end
noncomputable section
namespace Go.Abs
open Go.Proofs Classical Go.Abs.Fin
def gK (c:Ordering):Option Nat->List (Option Nat)->Option Nat
 | p,[]=>p
 | p,x::xs=>gK c (if aM .f32 x p=some c then x else p) xs
theorem Uc {n:Nat} {cs:List AV} (h:bu n cs) (h0:0<n):(dA FE aK (n+1) 12).call (List aa) 38 [.aT (.list n cs)] [] (bp [false])=
  some [.v (.agg [.aL .f32 (gK .lt ((fO cs).getD 0 none) (fO cs)),.aL .f32 (gK .gt ((fO cs).getD 0 none) (fO cs))])]:=by
 rw [XP]
 have hl:=h.len
 have xW:=h.2.2
 have Ei:aq .f32 (cs.getD 0 .top)=some ((fO cs).getD 0 none):=h.get h0
 simp only [ab,aj,Int.le_refl,true_and,show ((0:Int)<(n:Int))=True from eq_true (by omega),show (0<cs.length)=True from eq_true (by omega),if_true,Ei,ak]
 refine au (fun k (r:Nat->List AV->Int->Option Nat->Option Nat->Option Nat->Option Nat->Option (List aa))=>∀ (i:Nat) (p q:Option Nat) (x3:Option Nat) (x4:Option Nat),i+k=n->
  r n cs (i:Int) x3 x4 p q=some [.v (.agg [.aL .f32 (gK .lt p ((fO cs).drop i)),.aL .f32 (gK .gt q ((fO cs).drop i))])]) ?_ (n+1) n (by omega) 0 _ _ _ _ (by omega)
 intro k r ih i p q x3 x4 hi
 by_cases hk:i<n
 ·rw [drop_cons (d:=none) (show i<(fO cs).length by omega),gK,gK]
  generalize hv:(fO cs).getD i none=x
  have hg:aq .f32 (cs.getD i .top)=some x:=by rw [h.get hk,hv]
  have h2:0<cs.length:=by omega
  simp only [ab,ae,CR,aj,Int.ofNat_lt,hk,h2,if_true,Int.toNat_natCast,Nat.mul_one,hg,ak,and_true,true_and,Int.natCast_nonneg,lF h.1 hk,ih (n-(i+1)) (by omega) (i+1) _ _ _ _ (show i+1+(n-(i+1))=n by omega)]
  by_cases c1:aM .f32 x p=some .lt<;>by_cases c2:aM .f32 x q=some .gt<;>simp only [c1,c2,if_true,if_false]
 ·have oP:(fO cs).drop i=[]:=by rw [List.drop_eq_nil_iff];omega
  simp only [ab,ae,Int.ofNat_lt,hk,if_false,oP,gK]
end Go.Abs
end
