/- Part 41 of the library of the proof: an abstract run of the program. -/
import Derived.Test.YtkloadomnblkeaaGreatDoorHt25
import Derived.Test.YtkloadomnblkeaaGreatDoorHt38
import Derived.Test.YtkloadomnblkeaaGreatDoorHt39
import Derived.Test.YtkloadomnblkeaaGreatDoorHt40
set_option linter.unusedVariables false
set_option linter.unusedSimpArgs false

set_option maxRecDepth 100000
noncomputable section
namespace Go.Abs
open Go.Proofs Classical Go.Abs.Fin
theorem X8 (u v:Int):ag (ag (aX (cM (Go.Value.int IntKind.i64 (0:Int))).cells 2) 0 [AV.int IntKind.i64 u]) 1 [AV.int IntKind.i64 v]=[AV.int .i64 u,AV.int .i64 v]:=rfl
theorem UE (u v:Int):jD 2 [AV.int IntKind.i64 u,AV.int IntKind.i64 v]:=⟨by omega,rfl,rfl⟩
theorem Jw (a b:Int):bR (aB [AV.int .i64 a,AV.int .i64 b])=if a=0 then b else a:=by
 simp only [aB,List.map_cons,List.map_nil,toI,bR]
 by_cases h:a=0<;>by_cases h2:b=0<;>simp [h,h2]
def eI (n:Nat) (xs:List (Option Nat)) (b:Int) (m:Nat) (ls:List AV):Int:=
 if iK n xs b m ls=0 then (if ((n:Int)==0)=true then (12:Int) else 0) else iK n xs b m ls
theorem Nw {n m:Nat} {xs:List (Option Nat)} {b:Int} {ls:List AV} (hn:xs.length=n) (h:eI n xs b m ls=0):
  ∃ A:Nat,b=(A:Int)/\0<n/\ke xs A m ls:=by
 unfold eI at h
 split at h
 ·rename_i hc
  obtain ⟨A,rfl,hT⟩:=Ep hn hc
  refine ⟨A,rfl,?_,hT⟩
  by_cases h0:n=0
  ·subst h0;cases h
  ·omega
 ·rename_i hc;exact absurd h hc
def gj (n:Nat) (xs:List (Option Nat)) (b:Int) (ls:List AV):Int:=
 aF (fun j=>mj (xs.getD j none) (Cj xs ls b n 0 n).2) n 0
theorem UF {n m N:Nat} {cs ls:List AV} {b:Int} (h:bu n cs) (h':qd m ls) (hN:n+m+5020<N):
  (dA Lp nP N 12).call (List aa) 47 [.aT (.list n cs),.s (.agg [.b (.int .i64 b),.b (.list m ls)])] [] (bp [false,false])=
  some [.v (.int .i64 (qF (eI n (fO cs) b m ls) (gj n (fO cs) b ls))),.v (.int .i64 (qe (eI n (fO cs) b m ls) (gj n (fO cs) b ls)))]:=by
 rw [X9]
 have hl:=h'.2.1
 have hm:=h'.1
 have CX:=h.len
 have xW:=h.2.2
 have H9:0<N:=by omega
 simp only [ab,aj,h,h',X8,UE,Jw,and_self,if_true,cr]
 change ite (eI n (fO cs) b m ls=0) _ _=_
 by_cases h0:eI n (fO cs) b m ls=0
 case neg=>
  unfold qF qe
  rw [if_neg h0,if_neg h0,if_neg h0]
  rfl
 rw [if_pos h0,h0]
 obtain ⟨A,rfl,n9,hT⟩:=Nw CX h0
 have hA1:=hT.one
 have hA2:=hT.X5
 have UA:=hT.UB
 clear h0
 change _=dp (aF (fun j=>mj ((fO cs).getD j none) (Cj (fO cs) ls (A:Int) (n:Int) 0 (n:Int)).2) (n-0) 0)
 refine au (fun k (r:Nat->List AV->Int->Int->Nat->List AV->Int->Nat->List AV->Nat->List AV->Int->Nat->List AV->Nat->List AV->Int->List (AV × AV × Nat)->Nat->Nat->List AV->Nat->List AV->Int->Option (List aa))=>∀ (i:Nat) (E:List PE) (pc:List AV),i+k=m->kg (nj ls) (OK ls) E i 0->
  r m ls (m:Int) (i:Int) (n) (cs) (A:Int) (m) (ls) (2) pc (A:Int) (m) (ls) (0) ([]) ((0:Int)) (dj 0 E) E.length (0) ([]) (n) (cs) (A:Int)=dp (aF (fun j=>mj ((fO cs).getD j none) (Cj (fO cs) ls (A:Int) (n:Int) 0 (n:Int)).2) (n-0) 0)) ?_ N m (by omega) 0 [] _ (by omega) kg.nil
 intro k r ih i E pc hi hE
 by_cases hk:i<m
 ·obtain ⟨q,ds,e1,e2,e3⟩:=h'.get hk
  have eL:=lK e1
  have p0:0<ls.length:=by omega
  have wi:IntKind.i64.wrap ((i:Int)+1)=((i+1:Nat):Int):=by rw [wrap64]<;>omega
  have hle:=e2.len
  have hdl:=e2.2.2
  have hq:nj ls i=q:=by unfold nj;rw [eL];omega
  have dg:=(hT.lev i hk).Jr
  rw [eL] at dg
  simp only [ae,aj,Int.ofNat_lt,hk,p0,if_true,Int.natCast_nonneg,true_and,and_true,Int.toNat_natCast,Nat.mul_one,e1,cJ,ak]
  refine au (fun k2 (r2:Int->Nat->List AV->Int->Int->Nat->List AV->Int->Int->Nat->List AV->Int->Nat->List AV->Nat->List AV->Int->Nat->List AV->Nat->List AV->Int->List (AV × AV × Nat)->Nat->Nat->List AV->Nat->List AV->Int->Option (List aa))=>∀ (j:Nat) (E:List PE),j+k2=q->kg (nj ls) (OK ls) E i j->
   r2 (i:Int) m ls (m:Int) (i:Int) q ds (q:Int) (j:Int) (n) (cs) (A:Int) (m) (ls) (2) pc (A:Int) (m) (ls) (0) ([]) ((0:Int)) (dj 0 E) E.length (0) ([]) (n) (cs) (A:Int)=dp (aF (fun j=>mj ((fO cs).getD j none) (Cj (fO cs) ls (A:Int) (n:Int) 0 (n:Int)).2) (n-0) 0)) ?_ N q (by omega) 0 E (by omega) hE
  intro k2 r2 tr j E hj hE
  by_cases iC:j<q
  ·have GJ:=e2.get (i:=2*j) (by omega)
   have GK:=e2.get (i:=2*j+1) (by omega)
   have wj:IntKind.i64.wrap ((j:Int)+1)=((j+1:Nat):Int):=by rw [wrap64]<;>omega
   have q0:0<ds.length:=by omega
   have q1:(2*j+2<=ds.length)=True:=eq_true (by omega)
   have GL:j*2=2*j:=by omega
   have f1:=bn (dg.get (i:=2*j) (by omega))
   have f2:=bn (dg.get (i:=2*j+1) (by omega))
   have gI:=zR hE eL
   simp only [ae,aj,Int.ofNat_lt,iC,q0,q1,if_true,Int.natCast_nonneg,true_and,and_true,Int.toNat_natCast,GL,GJ,GK,ak,f1,f2,and_self,gI,wj]
   exact tr (k2-1) (by omega) (j+1) _ (by omega) hE.step
  ·have:j=nj ls i:=by omega
   subst this
   simp only [ae,Int.ofNat_lt,iC,if_false,wi]
   exact ih (k-1) (by omega) (i+1) E _ (by omega) hE.next
 have Nv:i=m:=by omega
 simp only [ae,Int.ofNat_lt,hk,if_false]
 rw [Nv] at hE
 clear ih hi hk Nv
 have Ei:=h.get (i:=0) (by omega)
 have ly:0<cs.length:=by omega
 have KW:(0:Int)<(n:Int):=by omega
 simp only [aj,KW,ly,Int.le_refl,and_self,if_true,Ei,ak]
 have Qh:Std (bF (fO cs)) (az ((fO cs).getD 0 none)) (az ((fO cs).getD 0 none)) 0 (max 0 (0+1)):=by
  exact Std.single (hT.fin.get (by omega))
 refine au (fun k (r:Int->Nat->List AV->Int->Nat->List AV->Nat->List AV->Int->Nat->List AV->Nat->List AV->Nat->List AV->Int->List (AV × AV × Nat)->Nat->Nat->List AV->Nat->List AV->Int->Nat->List AV->Nat->List AV->Int->Nat->List AV->Int->Option Nat->Option Nat->Option Nat->Option Nat->Int->Int->Int->Int->Option (List aa))=>∀ (at_:Nat) (p:Option Nat × Option Nat),0<=at_->at_<=n->n<at_+k->Std (bF (fO cs)) p.1 p.2 0 (max at_ (0+1))->
  r (at_:Int) ((n)) ((cs)) ((A:Int)) ((m)) ((ls)) ((2)) (pc) ((A:Int)) ((m)) ((ls)) ((0)) (([])) ((n)) ((cs)) ((A:Int)) ((dj 0 E)) (E.length) ((0)) (([])) ((n)) ((cs)) ((A:Int)) (0) ([]) ((n)) ((cs)) ((A:Int)) ((n)) ((cs)) ((A:Int)) (Option.some 0) (Option.some 0) p.1 p.2 ((A:Int)) ((↑(n):Int)) ((0:Int)) ((↑(n):Int))=dp (aF (fun j=>mj ((fO cs).getD j none) ((GO (fO cs) ls (A:Int) (n:Int) (n:Int) k (at_:Int) p)).2) (n-0) 0)) ?_ N 4097 (by omega) 0 (az ((fO cs).getD 0 none),az ((fO cs).getD 0 none)) (by omega) (by omega) (by omega) Qh
 intro k r ih at_ p ha1 V4 hk hp
 obtain ⟨k,rfl⟩:∃ k',k=k' + 1:=⟨k-1,by omega⟩
 try simp only [ae]
 rw [GO]
 by_cases cC:at_<n
 case neg=>
  have Fx:¬ ((at_:Int)<(n:Int)):=by omega
  rw [if_neg Fx]
  rw [if_neg Fx]
  have Ix:Std (bF (fO cs)) p.1 p.2 0 n:=by
   have:=hp
   rwa [show max at_ (0+1)=n by omega] at this
  clear ih hp Fx cC hk ha1 V4 Qh
  refine au (fun k (r:Int->Nat->List AV->Int->Nat->List AV->Nat->List AV->Int->Nat->List AV->Nat->List AV->Nat->List AV->Int->List (AV × AV × Nat)->Nat->Nat->List AV->Nat->List AV->Int->Nat->List AV->Nat->List AV->Int->Nat->List AV->Int->Option Nat->Option Nat->Option Nat->Option Nat->Int->Int->Int->Int->Option Nat->Nat->List AV->Int->Int->Int->Int->Int->Int->Option (List aa))=>∀ (at_:Nat),0<=at_->at_<=n->n<at_+k->
   r (at_:Int) (((n))) (((cs))) (((A:Int))) (((m))) (((ls))) (((2))) ((pc)) (((A:Int))) (((m))) (((ls))) (((0))) ((([]))) (((n))) (((cs))) (((A:Int))) (((dj 0 E))) ((E.length)) (((0))) ((([]))) (((n))) (((cs))) (((A:Int))) ((0)) (([])) (((n))) (((cs))) (((A:Int))) (((n))) (((cs))) (((A:Int))) (p.1) (p.2) (p.1) (p.2) (((A:Int))) (((↑(n):Int))) (((0:Int))) (((↑(n):Int))) (p.2) (((n))) (((cs))) (((A:Int))) ((-1:Int)) (((A:Int))) ((↑((n)):Int)) ((0:Int)) ((↑((n)):Int))=dp (aF (fun j=>mj ((fO cs).getD j none) p.2) (n-at_) at_)) ?_ N 4098 (by omega) 0 (by omega) (by omega) (by omega)
  intro k r ih at_ ha1 V4 hk
  obtain ⟨k,rfl⟩:∃ k',k=k' + 1:=⟨k-1,by omega⟩
  try simp only [ae]
  by_cases cC:at_<n
  case neg=>
   have Fx:¬ ((at_:Int)<(n:Int)):=by omega
   rw [if_neg Fx,kh (by omega)]
   rfl
  have KX:(at_:Int)<(n:Int):=by omega
  rw [if_pos KX]
  have hb:=ki (a:=(A:Int)) (n:=(n:Int)) (to:=(n:Int)) (at_:=(at_:Int)) (by omega) (by omega) (by omega) (by omega) _ rfl
  have fT:=kj (A:=A) (n:=n) (at_:=at_) (to:=(n:Int))
  generalize hr:dq (n:Int) (n:Int) (at_:Int) 14 0 (A:Int) (-1,(at_:Int),(at_:Int)+1)=res at hb fT
  obtain ⟨_,ye,BY,_⟩:=hb
  have Lq:at_<n:=by omega
  have ly:0<cs.length:=by omega
  have V7:∀ (L I X:Int),(L,I,X)=res->L>=0->IntKind.i64.wrap (IntKind.i64.wrap (I*(A:Int))*(2:Int) ^ min L.toNat 64)=(at_:Int):=by
   intro L I X e hL
   subst e
   exact rp (by omega) (by omega) Lq (by omega) fT hL
  rw [←CX] at fT
  have fin:∀ (L I E':Int),(L,I,E')=res->∃ En:Nat,E'=(En:Int)/\at_<En/\En<=n/\(mj (ca (fO cs) ls L I).2 p.2=false->∀ j,at_<=j->j<En->(fun j=>mj ((fO cs).getD j none) p.2) j=false):=by
   intro L I E' e
   subst e
   obtain ⟨v1,v2,v3⟩:=qf hT (by omega) fT
   dsimp only at v1 v2 v3
   obtain ⟨En,rfl⟩:=Int.eq_ofNat_of_zero_le (show 0<=E' by omega)
   rw [Int.toNat_natCast] at v1
   exact ⟨En,rfl,by omega,by omega,ab_ hT.fin v1 Ix (by omega) (by omega)⟩
  have look:∀ (L I X:Int),(L,I,X)=res->aJ (ca (fO cs) ls L I).1=true/\aJ (ca (fO cs) ls L I).2=true/\((L<0/\I=(at_:Int)/\X=((at_+1:Nat):Int)/\ca (fO cs) ls L I=(az ((fO cs).getD at_ none),az ((fO cs).getD at_ none)))\/
    (¬ L<0/\iq Tryz.prog 130 62 (.agg [.int .i64 L,.int .i64 I]) (dj 0 E)=some (true,.agg [.aL .f32 (ca (fO cs) ls L I).1,.aL .f32 (ca (fO cs) ls L I).2]))):=by
   intro L I X e
   subst e
   exact qg hT hE fT (by omega)
  have X6:IntKind.i64.wrap ((at_:Int)+1)=(at_:Int)+1:=wrap64 (by omega) (by omega)
  rw [X6]
  refine au (fun mm (r2:Int->Int->Int->Int->Nat->List AV->Int->Nat->List AV->Nat->List AV->Int->Nat->List AV->Nat->List AV->Nat->List AV->Int->List (AV × AV × Nat)->Nat->Nat->List AV->Nat->List AV->Int->Nat->List AV->Nat->List AV->Int->Nat->List AV->Int->Option Nat->Option Nat->Option Nat->Option Nat->Int->Int->Int->Int->Option Nat->Nat->List AV->Int->Int->Int->Int->Int->Int->Int->Int->Option (List aa))=>∀ (l s c1 c2 c3:Int),0<=l->l+mm<=13->1<=s->s<=8192->(n:Int)<s*2 ^ mm->dq (n:Int) (n:Int) (at_:Int) (mm+1) l s (c1,c2,c3)=res->
   r2 (at_:Int) c3 l s ((((n)))) ((((cs)))) ((((A:Int)))) ((((m)))) ((((ls)))) ((((2)))) (((pc))) ((((A:Int)))) ((((m)))) ((((ls)))) ((((0)))) (((([])))) ((((n)))) ((((cs)))) ((((A:Int)))) ((((dj 0 E)))) (((E.length))) ((((0)))) (((([])))) ((((n)))) ((((cs)))) ((((A:Int)))) (((0))) ((([]))) ((((n)))) ((((cs)))) ((((A:Int)))) ((((n)))) ((((cs)))) ((((A:Int)))) ((p.1)) ((p.2)) ((p.1)) ((p.2)) ((((A:Int)))) ((((↑(n):Int)))) ((((0:Int)))) ((((↑(n):Int)))) ((p.2)) ((((n)))) ((((cs)))) ((((A:Int)))) (((-1:Int))) ((((A:Int)))) (((↑((n)):Int))) (((0:Int))) (((↑((n)):Int))) c1 c2=dp (aF (fun j=>mj ((fO cs).getD j none) p.2) (n-at_) at_)) ?_ N 13 (by omega) 0 (A:Int) (-1) (at_:Int) ((at_:Int)+1) (by omega) (by omega) (by omega) (by omega) (by omega) hr
  intro mm r2 tr l s c1 c2 c3 F6 hlm B0 CE Qf jq
  have w1:IntKind.i64.wrap ((at_:Int)+s)=(at_:Int)+s:=wrap64 (by omega) (by omega)
  have w2:IntKind.i64.wrap (l+1)=l+1:=wrap64 (by omega) (by omega)
  have w3:IntKind.i64.wrap (2*s)=2*s:=wrap64 (by omega) (by omega)
  have w4:(at_:Int).tmod s=(at_:Int)%s:=Int.tmod_eq_emod_of_nonneg (by omega)
  have w5:(at_:Int).tdiv s=(at_:Int) / s:=Int.tdiv_eq_ediv_of_nonneg (by omega)
  have w6:IntKind.i64.wrap ((at_:Int) / s)=(at_:Int) / s:=by
   have:=Int.ediv_le_self s (show (0:Int)<=(at_:Int) by omega)
   have:=Int.ediv_nonneg (show (0:Int)<=(at_:Int) by omega) (show 0<=s by omega)
   rw [wrap64 (by omega) (by omega)]
  have nz:(s≠0)=True:=eq_true (by omega)
  simp only [ae,aj,nz,if_true,w1,w2,w3,w4,w5,w6,qb,oK,ak]
  rw [dq] at jq
  by_cases bw:(at_:Int)%s=0/\min (n:Int) ((at_:Int)+s)<=(n:Int)
  ·have e1:(((at_:Int)%s==0)&&decide (min (n:Int) ((at_:Int)+s)<=(n:Int)))=true:=by rw [bw.1,decide_eq_true bw.2];rfl
   rw [e1,ct]
   rw [if_pos bw] at jq
   by_cases hn:(n:Int)<=s
   ·rw [if_pos hn] at jq
    rw [if_pos (show s>=(n:Int) from hn)]
    obtain ⟨En,Js,s1,s2,s3⟩:=fin _ _ _ jq
    rw [Js]
    have mC:=ih k (by omega) En (by omega) (by omega) (by omega)
    have sz:En<9223372036854775808:=by omega
    have Qg:=V7 _ _ _ jq
    obtain ⟨g1,g2,⟨g3,g4,g6,g5⟩ | ⟨g3,g5⟩⟩:=look _ _ _ jq
    ·have Jt:=h.get (i:=at_) (by omega)
     have fz:=bn (hT.fin.get (i:=at_) (by omega))
     have g7:¬ (l>=0):=by omega
     simp only [ae,g3,g4,g7,if_true,if_false,aj,Int.natCast_nonneg,Int.ofNat_lt,Lq,ly,and_self,Int.toNat_natCast,Nat.mul_one,Jt,ak,bP H9,fz]
     by_cases hv:mj (ca (fO cs) ls l ((at_:Int) / s)).2 p.2=true
     ·have ey:=hv
      rw [g5] at ey
      refine bS (congrArg not ey) ?_
      refine au (fun k3 (r3:Int->Int->Nat->List AV->Int->Nat->List AV->Nat->List AV->Int->Nat->List AV->Nat->List AV->Nat->List AV->Int->List (AV × AV × Nat)->Nat->Nat->List AV->Nat->List AV->Int->Nat->List AV->Nat->List AV->Int->Nat->List AV->Int->Option Nat->Option Nat->Option Nat->Option Nat->Int->Int->Int->Int->Option Nat->Nat->List AV->Int->Int->Int->Int->Int->Int->Int->Int->Int->Int->Option (List aa))=>∀ (j:Nat) (y1 y2 y3 y4:Int),j+k3=En->
       r3 (En:Int) (j:Int) ((((n)))) ((((cs)))) ((((A:Int)))) ((((m)))) ((((ls)))) ((((2)))) (((pc))) ((((A:Int)))) ((((m)))) ((((ls)))) ((((0)))) (((([])))) ((((n)))) ((((cs)))) ((((A:Int)))) ((((dj 0 E)))) (((E.length))) ((((0)))) (((([])))) ((((n)))) ((((cs)))) ((((A:Int)))) (((0))) ((([]))) ((((n)))) ((((cs)))) ((((A:Int)))) ((((n)))) ((((cs)))) ((((A:Int)))) ((p.1)) ((p.2)) ((p.1)) ((p.2)) ((((A:Int)))) ((((↑(n):Int)))) ((((0:Int)))) ((((↑(n):Int)))) ((p.2)) ((((n)))) ((((cs)))) ((((A:Int)))) (((-1:Int))) ((((A:Int)))) (((↑((n)):Int))) (((0:Int))) (((↑((n)):Int))) y1 y2 y3 y4=dp (aF (fun j=>mj ((fO cs).getD j none) p.2) (n-j) j)) ?_ N (En-at_) (by omega) at_ _ _ _ _ (by omega)
      intro k3 r3 zS j y1 y2 y3 y4 hj
      by_cases mz:j<En
      ·have zT:=h.get (i:=j) (by omega)
       have lr:j<n:=by omega
       have wj:IntKind.i64.wrap ((j:Int)+1)=((j+1:Nat):Int):=by rw [wrap64]<;>omega
       simp only [ae,aj,Int.natCast_nonneg,Int.ofNat_lt,mz,lr,ly,and_self,if_true,Int.toNat_natCast,Nat.mul_one,zT,ak,wj]
       by_cases hp:(fun j=>mj ((fO cs).getD j none) p.2) j=true
       ·rw [cq lr hp]
        exact bm hp rfl
       ·have hp:(fun j=>mj ((fO cs).getD j none) p.2) j=false:=by simpa using hp
        rw [br (En:=j+1) (by omega) (by omega) (fun i a b=>by (have q:i=j:=by omega);subst q;exact hp)]
        exact bS hp (zS (k3-1) (by omega) (j+1) _ _ _ _ (by omega))
      ·have:j=En:=by omega
       subst this
       simp only [ae,Int.ofNat_lt,mz,if_false]
       exact mC
     ·have ey:mj (ca (fO cs) ls l ((at_:Int) / s)).2 p.2=false:=by simpa using hv
      have hs:=br (p:=(fun j=>mj ((fO cs).getD j none) p.2)) (Nat.le_of_lt s1) s2 (s3 ey)
      rw [g5] at ey
      rw [hs]
      exact bm (congrArg not ey) mC
    ·have g7:l>=0:=by omega
     have g8:=Qg g7
     simp only [ae,g3,if_false,g5,ak,gG,List.length_cons,List.length_nil,aj,if_true,List.getD_cons_zero,List.tail_cons,lL,bP H9,g7,g8,and_self]
     by_cases hv:mj (ca (fO cs) ls l ((at_:Int) / s)).2 p.2=true
     ·refine bS (congrArg not hv) ?_
      refine au (fun k3 (r3:Int->Int->Nat->List AV->Int->Nat->List AV->Nat->List AV->Int->Nat->List AV->Nat->List AV->Nat->List AV->Int->List (AV × AV × Nat)->Nat->Nat->List AV->Nat->List AV->Int->Nat->List AV->Nat->List AV->Int->Nat->List AV->Int->Option Nat->Option Nat->Option Nat->Option Nat->Int->Int->Int->Int->Option Nat->Nat->List AV->Int->Int->Int->Int->Int->Int->Int->Int->Int->Int->Option (List aa))=>∀ (j:Nat) (y1 y2 y3 y4:Int),j+k3=En->
       r3 (En:Int) (j:Int) ((((n)))) ((((cs)))) ((((A:Int)))) ((((m)))) ((((ls)))) ((((2)))) (((pc))) ((((A:Int)))) ((((m)))) ((((ls)))) ((((0)))) (((([])))) ((((n)))) ((((cs)))) ((((A:Int)))) ((((dj 0 E)))) (((E.length))) ((((0)))) (((([])))) ((((n)))) ((((cs)))) ((((A:Int)))) (((0))) ((([]))) ((((n)))) ((((cs)))) ((((A:Int)))) ((((n)))) ((((cs)))) ((((A:Int)))) ((p.1)) ((p.2)) ((p.1)) ((p.2)) ((((A:Int)))) ((((↑(n):Int)))) ((((0:Int)))) ((((↑(n):Int)))) ((p.2)) ((((n)))) ((((cs)))) ((((A:Int)))) (((-1:Int))) ((((A:Int)))) (((↑((n)):Int))) (((0:Int))) (((↑((n)):Int))) y1 y2 y3 y4=dp (aF (fun j=>mj ((fO cs).getD j none) p.2) (n-j) j)) ?_ N (En-at_) (by omega) at_ _ _ _ _ (by omega)
      intro k3 r3 zS j y1 y2 y3 y4 hj
      by_cases mz:j<En
      ·have zT:=h.get (i:=j) (by omega)
       have lr:j<n:=by omega
       have wj:IntKind.i64.wrap ((j:Int)+1)=((j+1:Nat):Int):=by rw [wrap64]<;>omega
       simp only [ae,aj,Int.natCast_nonneg,Int.ofNat_lt,mz,lr,ly,and_self,if_true,Int.toNat_natCast,Nat.mul_one,zT,ak,wj]
       by_cases hp:(fun j=>mj ((fO cs).getD j none) p.2) j=true
       ·rw [cq lr hp]
        exact bm hp rfl
       ·have hp:(fun j=>mj ((fO cs).getD j none) p.2) j=false:=by simpa using hp
        rw [br (En:=j+1) (by omega) (by omega) (fun i a b=>by (have q:i=j:=by omega);subst q;exact hp)]
        exact bS hp (zS (k3-1) (by omega) (j+1) _ _ _ _ (by omega))
      ·have:j=En:=by omega
       subst this
       simp only [ae,Int.ofNat_lt,mz,if_false]
       exact mC
     ·have ey:mj (ca (fO cs) ls l ((at_:Int) / s)).2 p.2=false:=by simpa using hv
      rw [br (p:=(fun j=>mj ((fO cs).getD j none) p.2)) (Nat.le_of_lt s1) s2 (s3 ey)]
      exact bm (congrArg not ey) mC
   ·rw [if_neg hn] at jq
    rw [if_neg (show ¬ s>=(n:Int) from hn)]
    obtain ⟨mm,rfl⟩:∃ m',mm=m' + 1:=by
     cases mm with
     | zero=>omega
     | succ mm=>exact ⟨mm,rfl⟩
    refine tr mm (by omega) (l+1) (2*s) l ((at_:Int) / s) (min (n:Int) ((at_:Int)+s)) (by omega) (by omega) (by omega) (by omega) ?_ jq
    rw [Int.pow_succ] at Qf;rw [Int.mul_comm 2 s,Int.mul_assoc,Int.mul_comm 2];exact Qf
  ·have e1:(((at_:Int)%s==0)&&decide (min (n:Int) ((at_:Int)+s)<=(n:Int)))=false:=by
    rw [Bool.and_eq_false_iff]
    by_cases hz:(at_:Int)%s=0
    ·exact .inr (decide_eq_false fun h=>bw ⟨hz,h⟩)
    ·exact .inl (beq_eq_false_iff_ne.2 hz)
   rw [e1,bH]
   rw [if_neg bw] at jq
   obtain ⟨En,Js,s1,s2,s3⟩:=fin _ _ _ jq
   rw [Js]
   have mC:=ih k (by omega) En (by omega) (by omega) (by omega)
   have sz:En<9223372036854775808:=by omega
   have Qg:=V7 _ _ _ jq
   obtain ⟨g1,g2,⟨g3,g4,g6,g5⟩ | ⟨g3,g5⟩⟩:=look _ _ _ jq
   ·have Jt:=h.get (i:=at_) (by omega)
    have fz:=bn (hT.fin.get (i:=at_) (by omega))
    have g7:¬ (c1>=0):=by omega
    simp only [ae,g3,g4,g7,if_true,if_false,aj,Int.natCast_nonneg,Int.ofNat_lt,Lq,ly,and_self,Int.toNat_natCast,Nat.mul_one,Jt,ak,bP H9,fz]
    by_cases hv:mj (ca (fO cs) ls c1 c2).2 p.2=true
    ·have ey:=hv
     rw [g5] at ey
     refine bS (congrArg not ey) ?_
     refine au (fun k3 (r3:Int->Int->Nat->List AV->Int->Nat->List AV->Nat->List AV->Int->Nat->List AV->Nat->List AV->Nat->List AV->Int->List (AV × AV × Nat)->Nat->Nat->List AV->Nat->List AV->Int->Nat->List AV->Nat->List AV->Int->Nat->List AV->Int->Option Nat->Option Nat->Option Nat->Option Nat->Int->Int->Int->Int->Option Nat->Nat->List AV->Int->Int->Int->Int->Int->Int->Int->Int->Int->Int->Option (List aa))=>∀ (j:Nat) (y1 y2 y3 y4:Int),j+k3=En->
      r3 (En:Int) (j:Int) ((((n)))) ((((cs)))) ((((A:Int)))) ((((m)))) ((((ls)))) ((((2)))) (((pc))) ((((A:Int)))) ((((m)))) ((((ls)))) ((((0)))) (((([])))) ((((n)))) ((((cs)))) ((((A:Int)))) ((((dj 0 E)))) (((E.length))) ((((0)))) (((([])))) ((((n)))) ((((cs)))) ((((A:Int)))) (((0))) ((([]))) ((((n)))) ((((cs)))) ((((A:Int)))) ((((n)))) ((((cs)))) ((((A:Int)))) ((p.1)) ((p.2)) ((p.1)) ((p.2)) ((((A:Int)))) ((((↑(n):Int)))) ((((0:Int)))) ((((↑(n):Int)))) ((p.2)) ((((n)))) ((((cs)))) ((((A:Int)))) (((-1:Int))) ((((A:Int)))) (((↑((n)):Int))) (((0:Int))) (((↑((n)):Int))) y1 y2 y3 y4=dp (aF (fun j=>mj ((fO cs).getD j none) p.2) (n-j) j)) ?_ N (En-at_) (by omega) at_ _ _ _ _ (by omega)
     intro k3 r3 zS j y1 y2 y3 y4 hj
     by_cases mz:j<En
     ·have zT:=h.get (i:=j) (by omega)
      have lr:j<n:=by omega
      have wj:IntKind.i64.wrap ((j:Int)+1)=((j+1:Nat):Int):=by rw [wrap64]<;>omega
      simp only [ae,aj,Int.natCast_nonneg,Int.ofNat_lt,mz,lr,ly,and_self,if_true,Int.toNat_natCast,Nat.mul_one,zT,ak,wj]
      by_cases hp:(fun j=>mj ((fO cs).getD j none) p.2) j=true
      ·rw [cq lr hp]
       exact bm hp rfl
      ·have hp:(fun j=>mj ((fO cs).getD j none) p.2) j=false:=by simpa using hp
       rw [br (En:=j+1) (by omega) (by omega) (fun i a b=>by (have q:i=j:=by omega);subst q;exact hp)]
       exact bS hp (zS (k3-1) (by omega) (j+1) _ _ _ _ (by omega))
     ·have:j=En:=by omega
      subst this
      simp only [ae,Int.ofNat_lt,mz,if_false]
      exact mC
    ·have ey:mj (ca (fO cs) ls c1 c2).2 p.2=false:=by simpa using hv
     have hs:=br (p:=(fun j=>mj ((fO cs).getD j none) p.2)) (Nat.le_of_lt s1) s2 (s3 ey)
     rw [g5] at ey
     rw [hs]
     exact bm (congrArg not ey) mC
   ·have g7:c1>=0:=by omega
    have g8:=Qg g7
    simp only [ae,g3,if_false,g5,ak,gG,List.length_cons,List.length_nil,aj,if_true,List.getD_cons_zero,List.tail_cons,lL,bP H9,g7,g8,and_self]
    by_cases hv:mj (ca (fO cs) ls c1 c2).2 p.2=true
    ·refine bS (congrArg not hv) ?_
     refine au (fun k3 (r3:Int->Int->Nat->List AV->Int->Nat->List AV->Nat->List AV->Int->Nat->List AV->Nat->List AV->Nat->List AV->Int->List (AV × AV × Nat)->Nat->Nat->List AV->Nat->List AV->Int->Nat->List AV->Nat->List AV->Int->Nat->List AV->Int->Option Nat->Option Nat->Option Nat->Option Nat->Int->Int->Int->Int->Option Nat->Nat->List AV->Int->Int->Int->Int->Int->Int->Int->Int->Int->Int->Option (List aa))=>∀ (j:Nat) (y1 y2 y3 y4:Int),j+k3=En->
      r3 (En:Int) (j:Int) ((((n)))) ((((cs)))) ((((A:Int)))) ((((m)))) ((((ls)))) ((((2)))) (((pc))) ((((A:Int)))) ((((m)))) ((((ls)))) ((((0)))) (((([])))) ((((n)))) ((((cs)))) ((((A:Int)))) ((((dj 0 E)))) (((E.length))) ((((0)))) (((([])))) ((((n)))) ((((cs)))) ((((A:Int)))) (((0))) ((([]))) ((((n)))) ((((cs)))) ((((A:Int)))) ((((n)))) ((((cs)))) ((((A:Int)))) ((p.1)) ((p.2)) ((p.1)) ((p.2)) ((((A:Int)))) ((((↑(n):Int)))) ((((0:Int)))) ((((↑(n):Int)))) ((p.2)) ((((n)))) ((((cs)))) ((((A:Int)))) (((-1:Int))) ((((A:Int)))) (((↑((n)):Int))) (((0:Int))) (((↑((n)):Int))) y1 y2 y3 y4=dp (aF (fun j=>mj ((fO cs).getD j none) p.2) (n-j) j)) ?_ N (En-at_) (by omega) at_ _ _ _ _ (by omega)
     intro k3 r3 zS j y1 y2 y3 y4 hj
     by_cases mz:j<En
     ·have zT:=h.get (i:=j) (by omega)
      have lr:j<n:=by omega
      have wj:IntKind.i64.wrap ((j:Int)+1)=((j+1:Nat):Int):=by rw [wrap64]<;>omega
      simp only [ae,aj,Int.natCast_nonneg,Int.ofNat_lt,mz,lr,ly,and_self,if_true,Int.toNat_natCast,Nat.mul_one,zT,ak,wj]
      by_cases hp:(fun j=>mj ((fO cs).getD j none) p.2) j=true
      ·rw [cq lr hp]
       exact bm hp rfl
      ·have hp:(fun j=>mj ((fO cs).getD j none) p.2) j=false:=by simpa using hp
       rw [br (En:=j+1) (by omega) (by omega) (fun i a b=>by (have q:i=j:=by omega);subst q;exact hp)]
       exact bS hp (zS (k3-1) (by omega) (j+1) _ _ _ _ (by omega))
     ·have:j=En:=by omega
      subst this
      simp only [ae,Int.ofNat_lt,mz,if_false]
      exact mC
    ·have ey:mj (ca (fO cs) ls c1 c2).2 p.2=false:=by simpa using hv
     rw [br (p:=(fun j=>mj ((fO cs).getD j none) p.2)) (Nat.le_of_lt s1) s2 (s3 ey)]
     exact bm (congrArg not ey) mC
 have KX:(at_:Int)<(n:Int):=by omega
 rw [if_pos KX]
 rw [if_pos KX]
 have hb:=ki (a:=(A:Int)) (n:=(n:Int)) (to:=(n:Int)) (at_:=(at_:Int)) (by omega) (by omega) (by omega) (by omega) _ rfl
 have fT:=kj (A:=A) (n:=n) (at_:=at_) (to:=(n:Int))
 generalize hr:dq (n:Int) (n:Int) (at_:Int) 14 0 (A:Int) (-1,(at_:Int),(at_:Int)+1)=res at hb fT ⊢
 obtain ⟨_,ye,BY,_⟩:=hb
 have Lq:at_<n:=by omega
 rw [←CX] at fT
 have fin:∀ (L I E':Int),(L,I,E')=res->∃ En:Nat,E'=(En:Int)/\at_<En/\En<=n/\Std (bF (fO cs)) (gJ p.1 (ca (fO cs) ls L I).1) (gV p.2 (ca (fO cs) ls L I).2) 0 (max En (0+1)):=by
  intro L I E' e
  subst e
  exact Nx hT fT ha1 cC (by omega) BY hp
 have look:∀ (L I X:Int),(L,I,X)=res->aJ (ca (fO cs) ls L I).1=true/\aJ (ca (fO cs) ls L I).2=true/\((L<0/\I=(at_:Int)/\X=((at_+1:Nat):Int)/\ca (fO cs) ls L I=(az ((fO cs).getD at_ none),az ((fO cs).getD at_ none)))\/
   (¬ L<0/\iq Tryz.prog 130 62 (.agg [.int .i64 L,.int .i64 I]) (dj 0 E)=some (true,.agg [.aL .f32 (ca (fO cs) ls L I).1,.aL .f32 (ca (fO cs) ls L I).2]))):=by
  intro L I X e
  subst e
  exact qg hT hE fT (by omega)
 have X6:IntKind.i64.wrap ((at_:Int)+1)=(at_:Int)+1:=wrap64 (by omega) (by omega)
 rw [X6]
 refine au (fun mm (r2:Int->Int->Int->Int->Nat->List AV->Int->Nat->List AV->Nat->List AV->Int->Nat->List AV->Nat->List AV->Nat->List AV->Int->List (AV × AV × Nat)->Nat->Nat->List AV->Nat->List AV->Int->Nat->List AV->Nat->List AV->Int->Nat->List AV->Int->Option Nat->Option Nat->Option Nat->Option Nat->Int->Int->Int->Int->Int->Int->Option (List aa))=>∀ (l s c1 c2 c3:Int),0<=l->l+mm<=13->1<=s->s<=8192->(n:Int)<s*2 ^ mm->dq (n:Int) (n:Int) (at_:Int) (mm+1) l s (c1,c2,c3)=res->
  r2 (at_:Int) c3 l s (((n))) (((cs))) (((A:Int))) (((m))) (((ls))) (((2))) ((pc)) (((A:Int))) (((m))) (((ls))) (((0))) ((([]))) (((n))) (((cs))) (((A:Int))) (((dj 0 E))) ((E.length)) (((0))) ((([]))) (((n))) (((cs))) (((A:Int))) ((0)) (([])) (((n))) (((cs))) (((A:Int))) (((n))) (((cs))) (((A:Int))) ((Option.some 0)) ((Option.some 0)) (p.1) (p.2) (((A:Int))) (((↑(n):Int))) (((0:Int))) (((↑(n):Int))) c1 c2=dp (aF (fun j=>mj ((fO cs).getD j none) ((GO (fO cs) ls (A:Int) (n:Int) (n:Int) k res.2.2 (gJ p.1 (ca (fO cs) ls res.1 res.2.1).1,gV p.2 (ca (fO cs) ls res.1 res.2.1).2))).2) (n-0) 0)) ?_ N 13 (by omega) 0 (A:Int) (-1) (at_:Int) ((at_:Int)+1) (by omega) (by omega) (by omega) (by omega) (by omega) hr
 intro mm r2 tr l s c1 c2 c3 F6 hlm B0 CE Qf jq
 have w1:IntKind.i64.wrap ((at_:Int)+s)=(at_:Int)+s:=wrap64 (by omega) (by omega)
 have w2:IntKind.i64.wrap (l+1)=l+1:=wrap64 (by omega) (by omega)
 have w3:IntKind.i64.wrap (2*s)=2*s:=wrap64 (by omega) (by omega)
 have w4:(at_:Int).tmod s=(at_:Int)%s:=Int.tmod_eq_emod_of_nonneg (by omega)
 have w5:(at_:Int).tdiv s=(at_:Int) / s:=Int.tdiv_eq_ediv_of_nonneg (by omega)
 have w6:IntKind.i64.wrap ((at_:Int) / s)=(at_:Int) / s:=by
  have:=Int.ediv_le_self s (show (0:Int)<=(at_:Int) by omega)
  have:=Int.ediv_nonneg (show (0:Int)<=(at_:Int) by omega) (show 0<=s by omega)
  rw [wrap64 (by omega) (by omega)]
 have nz:(s≠0)=True:=eq_true (by omega)
 simp only [ae,aj,nz,if_true,w1,w2,w3,w4,w5,w6,qb,oK,ak]
 rw [dq] at jq
 by_cases bw:(at_:Int)%s=0/\min (n:Int) ((at_:Int)+s)<=(n:Int)
 ·have e1:(((at_:Int)%s==0)&&decide (min (n:Int) ((at_:Int)+s)<=(n:Int)))=true:=by rw [bw.1,decide_eq_true bw.2];rfl
  rw [e1,ct]
  rw [if_pos bw] at jq
  by_cases hn:(n:Int)<=s
  ·rw [if_pos hn] at jq
   rw [if_pos (show s>=(n:Int) from hn),←jq]
   obtain ⟨En,Js,s1,s2,s3⟩:=fin _ _ _ jq
   rw [Js]
   have mC:=ih k (by omega) En (gJ p.1 (ca (fO cs) ls l ((at_:Int) / s)).1,gV p.2 (ca (fO cs) ls l ((at_:Int) / s)).2) (by omega) (by omega) (by omega) s3
   have sz:En<9223372036854775808:=by omega
   obtain ⟨g1,g2,⟨g3,g4,g6,g5⟩ | ⟨g3,g5⟩⟩:=look _ _ _ jq
   ·rw [g5] at mC
    have Jt:=h.get (i:=at_) (by omega)
    have ly:0<cs.length:=by omega
    have fz:=bn (hT.fin.get (i:=at_) (by omega))
    simp only [ae,g3,g4,if_true,aj,Int.natCast_nonneg,Int.ofNat_lt,Lq,ly,and_self,Int.toNat_natCast,Nat.mul_one,Jt,ak,hp.1,hp.2.1,fz]
    rw [g4] at g5
    rw [g5]
    exact mC
   ·simp only [ae,g3,if_false,g5,ak,gG,List.length_cons,List.length_nil,aj,if_true,List.getD_cons_zero,List.tail_cons,lL,hp.1,hp.2.1,g1,g2,and_self]
    exact mC
  ·rw [if_neg hn] at jq
   rw [if_neg (show ¬ s>=(n:Int) from hn)]
   obtain ⟨mm,rfl⟩:∃ m',mm=m' + 1:=by
    cases mm with
    | zero=>omega
    | succ mm=>exact ⟨mm,rfl⟩
   refine tr mm (by omega) (l+1) (2*s) l ((at_:Int) / s) (min (n:Int) ((at_:Int)+s)) (by omega) (by omega) (by omega) (by omega) ?_ jq
   rw [Int.pow_succ] at Qf;rw [Int.mul_comm 2 s,Int.mul_assoc,Int.mul_comm 2];exact Qf
 ·have e1:(((at_:Int)%s==0)&&decide (min (n:Int) ((at_:Int)+s)<=(n:Int)))=false:=by
   rw [Bool.and_eq_false_iff]
   by_cases hz:(at_:Int)%s=0
   ·exact .inr (decide_eq_false fun h=>bw ⟨hz,h⟩)
   ·exact .inl (beq_eq_false_iff_ne.2 hz)
  rw [e1,bH]
  rw [if_neg bw] at jq
  rw [←jq]
  obtain ⟨En,Js,s1,s2,s3⟩:=fin _ _ _ jq
  rw [Js]
  have mC:=ih k (by omega) En (gJ p.1 (ca (fO cs) ls c1 c2).1,gV p.2 (ca (fO cs) ls c1 c2).2) (by omega) (by omega) (by omega) s3
  have sz:En<9223372036854775808:=by omega
  obtain ⟨g1,g2,⟨g3,g4,g6,g5⟩ | ⟨g3,g5⟩⟩:=look _ _ _ jq
  ·rw [g5] at mC
   have Jt:=h.get (i:=at_) (by omega)
   have ly:0<cs.length:=by omega
   have fz:=bn (hT.fin.get (i:=at_) (by omega))
   simp only [ae,g3,g4,if_true,aj,Int.natCast_nonneg,Int.ofNat_lt,Lq,ly,and_self,Int.toNat_natCast,Nat.mul_one,Jt,ak,hp.1,hp.2.1,fz]
   rw [g4] at g5
   rw [g5]
   exact mC
  ·simp only [ae,g3,if_false,g5,ak,gG,List.length_cons,List.length_nil,aj,if_true,List.getD_cons_zero,List.tail_cons,lL,hp.1,hp.2.1,g1,g2,and_self]
   exact mC
end Go.Abs
end
set_option maxRecDepth 100000
noncomputable section
namespace Go.Abs
open Go.Proofs Classical
def yk:fr:=fun ai R K=>match ai with
 | [.list n cs,.agg [.int .i64 b,.list m ls],.int .i64 f,.aL .f32 o]=>gO (S_ (decide (bu n cs/\qd m ls))) (K [.v (.int .i64 (S_ ((qF (cw n (fO cs) b m ls f o) (aF (fun j=>dP ((fO cs).getD j none) o) (n-f.toNat) f.toNat))))),.v (.int .i64 (S_ ((qe (cw n (fO cs) b m ls f o) (aF (fun j=>dP ((fO cs).getD j none) o) (n-f.toNat) f.toNat)))))])
 | _=>none
theorem JZ:bG Tryz.prog 45 yk:=by
 intro ai R K r ha h
 unfold yk at h
 split at h
 ·rename_i n cs b m ls f o
  obtain ⟨h1,h2⟩:=aD h
  rw [ab] at h1
  have bM:=of_decide_eq_true h1
  refine ⟨[.v (.int .i64 ((qF (cw n (fO cs) b m ls f o) (aF (fun j=>dP ((fO cs).getD j none) o) (n-f.toNat) f.toNat)))),.v (.int .i64 ((qe (cw n (fO cs) b m ls f o) (aF (fun j=>dP ((fO cs).getD j none) o) (n-f.toNat) f.toNat))))],fun _ _=>by simp only [yk,ab,decide_eq_true bM,gO],?_,bf sE (W:=nP) (N:=n+m+5021) (k:=12) (ms:=[false,false]) ?_ ha trivial⟩
  ·intro l hl;rcases List.mem_cons.1 hl with rfl | hl
   ·exact bh
   rcases List.mem_cons.1 hl with rfl | hl
   ·exact bh
   cases hl
  ·exact Uz bM.1 bM.2 (by omega)
 ·cases h
def LI:fr:=fun ai R K=>match ai with
 | [.list n cs,.agg [.int .i64 b,.list m ls],.int .i64 f,.aL .f32 o]=>gO (S_ (decide (bu n cs/\qd m ls))) (K [.v (.int .i64 (S_ ((qF (cw n (fO cs) b m ls f o) (aF (bA (fO cs) o) (n-f.toNat) f.toNat))))),.v (.int .i64 (S_ ((qe (cw n (fO cs) b m ls f o) (aF (bA (fO cs) o) (n-f.toNat) f.toNat)))))])
 | _=>none
theorem Rg:bG Tryz.prog 46 LI:=by
 intro ai R K r ha h
 unfold LI at h
 split at h
 ·rename_i n cs b m ls f o
  obtain ⟨h1,h2⟩:=aD h
  rw [ab] at h1
  have bM:=of_decide_eq_true h1
  refine ⟨[.v (.int .i64 ((qF (cw n (fO cs) b m ls f o) (aF (bA (fO cs) o) (n-f.toNat) f.toNat)))),.v (.int .i64 ((qe (cw n (fO cs) b m ls f o) (aF (bA (fO cs) o) (n-f.toNat) f.toNat))))],fun _ _=>by simp only [LI,ab,decide_eq_true bM,gO],?_,bf sE (W:=nP) (N:=n+m+5021) (k:=12) (ms:=[false,false]) ?_ ha trivial⟩
  ·intro l hl;rcases List.mem_cons.1 hl with rfl | hl
   ·exact bh
   rcases List.mem_cons.1 hl with rfl | hl
   ·exact bh
   cases hl
  ·exact UC bM.1 bM.2 (by omega)
 ·cases h
def LJ:fr:=fun ai R K=>match ai with
 | [.list n cs,.agg [.int .i64 b,.list m ls]]=>gO (S_ (decide (bu n cs/\qd m ls))) (K [.v (.int .i64 (S_ ((qF (eI n (fO cs) b m ls) (gj n (fO cs) b ls))))),.v (.int .i64 (S_ ((qe (eI n (fO cs) b m ls) (gj n (fO cs) b ls)))))])
 | _=>none
theorem Rh:bG Tryz.prog 47 LJ:=by
 intro ai R K r ha h
 unfold LJ at h
 split at h
 ·rename_i n cs b m ls
  obtain ⟨h1,h2⟩:=aD h
  rw [ab] at h1
  have bM:=of_decide_eq_true h1
  refine ⟨[.v (.int .i64 ((qF (eI n (fO cs) b m ls) (gj n (fO cs) b ls)))),.v (.int .i64 ((qe (eI n (fO cs) b m ls) (gj n (fO cs) b ls))))],fun _ _=>by simp only [LJ,ab,decide_eq_true bM,gO],?_,bf sE (W:=nP) (N:=n+m+5021) (k:=12) (ms:=[false,false]) ?_ ha trivial⟩
  ·intro l hl;rcases List.mem_cons.1 hl with rfl | hl
   ·exact bh
   rcases List.mem_cons.1 hl with rfl | hl
   ·exact bh
   cases hl
  ·exact UF bM.1 bM.2 (by omega)
 ·cases h
def mzU:List (FuncId × fr):=(45,yk)::(46,LI)::(47,LJ)::Lp
theorem aav:eZ Tryz.prog mzU:=⟨JZ,Rg,Rh,sE⟩
end Go.Abs
end
set_option maxRecDepth 100000
noncomputable section
namespace Go.Abs
open Go.Proofs Classical
def EN:fr:=fun ai R K=>match ai with
 | [.list n cs]=>gO (S_ (decide (bu n cs))) (K [.v (.int .i64 (S_ ((kl (fO cs) n 0 0:Nat))))])
 | _=>none
theorem NO:bG Tryz.prog 48 EN:=by
 intro ai R K r ha h
 unfold EN at h
 split at h
 ·rename_i n cs
  obtain ⟨h1,h2⟩:=aD h
  rw [ab] at h1
  have bM:=of_decide_eq_true h1
  refine ⟨[.v (.int .i64 ((kl (fO cs) n 0 0:Nat)))],fun _ _=>by simp only [EN,ab,decide_eq_true bM,gO],?_,bf sE (W:=cQ) (N:=n+1) (k:=12) (ms:=[false]) ?_ ha trivial⟩
  ·intro l hl;rcases List.mem_cons.1 hl with rfl | hl
   ·exact bh
   cases hl
  ·exact UG bM
 ·cases h
def EO:fr:=fun ai R K=>match ai with
 | [.list n cs,.int .i64 f,.aL .f32 o]=>gO (S_ (decide (bu n cs/\0<=f))) (K [.v (.int .i64 (S_ ((aF (fun j=>dP ((fO cs).getD j none) o) (n-f.toNat) f.toNat))))])
 | _=>none
theorem NP:bG Tryz.prog 51 EO:=by
 intro ai R K r ha h
 unfold EO at h
 split at h
 ·rename_i n cs f o
  obtain ⟨h1,h2⟩:=aD h
  rw [ab] at h1
  have bM:=of_decide_eq_true h1
  refine ⟨[.v (.int .i64 ((aF (fun j=>dP ((fO cs).getD j none) o) (n-f.toNat) f.toNat)))],fun _ _=>by simp only [EO,ab,decide_eq_true bM,gO],?_,bf sE (W:=cQ) (N:=n+1) (k:=12) (ms:=[false]) ?_ ha trivial⟩
  ·intro l hl;rcases List.mem_cons.1 hl with rfl | hl
   ·exact bh
   cases hl
  ·exact UH bM.1 bM.2
 ·cases h
def EP:fr:=fun ai R K=>match ai with
 | [.list n cs,.int .i64 f,.aL .f32 o]=>gO (S_ (decide (bu n cs/\0<=f))) (K [.v (.int .i64 (S_ ((aF (bA (fO cs) o) (n-f.toNat) f.toNat))))])
 | _=>none
theorem NQ:bG Tryz.prog 52 EP:=by
 intro ai R K r ha h
 unfold EP at h
 split at h
 ·rename_i n cs f o
  obtain ⟨h1,h2⟩:=aD h
  rw [ab] at h1
  have bM:=of_decide_eq_true h1
  refine ⟨[.v (.int .i64 ((aF (bA (fO cs) o) (n-f.toNat) f.toNat)))],fun _ _=>by simp only [EP,ab,decide_eq_true bM,gO],?_,bf sE (W:=cQ) (N:=n+1) (k:=12) (ms:=[false]) ?_ ha trivial⟩
  ·intro l hl;rcases List.mem_cons.1 hl with rfl | hl
   ·exact bh
   cases hl
  ·exact UI bM.1 bM.2
 ·cases h
def mzV:List (FuncId × fr):=(48,EN)::(51,EO)::(52,EP)::mzU
theorem aaw:eZ Tryz.prog mzV:=⟨NO,NP,NQ,aav⟩
end Go.Abs
end
noncomputable section
namespace Go.Abs
open Go.Proofs Classical
def mzX:List (FuncId × fr):=(53,tT)::(54,LD)::mzV
theorem Xk:eZ Tryz.prog mzX:=⟨Hb,Q',aaw⟩
end Go.Abs
end
