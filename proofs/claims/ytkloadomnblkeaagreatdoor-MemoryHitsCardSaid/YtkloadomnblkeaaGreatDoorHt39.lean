/- Part 39 of the library of the proof: an abstract run of the program. -/
import Derived.Test.YtkloadomnblkeaaGreatDoorHt35
import Derived.Test.YtkloadomnblkeaaGreatDoorHt37
import Derived.Test.YtkloadomnblkeaaGreatDoorHt38
set_option linter.unusedVariables false
set_option linter.unusedSimpArgs false

set_option maxRecDepth 100000
noncomputable section
namespace Go.Abs
open Go.Proofs Classical Go.Abs.Fin
def kl (xs:List (Option Nat)):Nat->Nat->Nat->Nat
 | 0,b,_=>b
 | k+1,b,i=>if (aM .f32 (xs.getD i none) (xs.getD b none)==some .gt)=true then kl xs k i (i+1) else kl xs k b (i+1)
theorem UG {n:Nat} {cs:List AV} (h:bu n cs):(dA Lp cQ (n+1) 12).call (List aa) 48 [.aT (.list n cs)] [] (bp [false])=
  some [.v (.int .i64 (kl (fO cs) n 0 0:Nat))]:=by
 rw [X']
 have hn:=h.1
 have xW:=h.2.2
 simp only [ab]
 refine au (fun k (r:Nat->List AV->Int->Int->Option (List aa))=>∀ (b i:Nat),i+k=n->(b<n\/n=0)->
  r n cs (b:Int) (i:Int)=some [.v (.int .i64 (kl (fO cs) k b i:Nat))]) ?_ (n+1) n (by omega) 0 0 (by omega) (by omega)
 intro k r ih b i hi hb
 by_cases hk:i<n
 ·obtain ⟨k,rfl⟩:∃ k',k=k' + 1:=⟨k-1,by omega⟩
  have hbn:b<n:=by omega
  have ly:0<cs.length:=by omega
  have wi:IntKind.i64.wrap ((i:Int)+1)=((i+1:Nat):Int):=by rw [wrap64]<;>omega
  simp only [ae,aj,Int.ofNat_lt,hk,hbn,ly,Int.natCast_nonneg,and_self,if_true,Int.toNat_natCast,Nat.mul_one,h.get hk,h.get hbn,ak,wi]
  rw [kl]
  cases e:(aM .f32 ((fO cs).getD i none) ((fO cs).getD b none)==some .gt) with
  | true=>rw [if_pos rfl];exact bm rfl (ih k (by omega) i (i+1) (by omega) (by omega))
  | false=>rw [if_neg (by decide)];exact bS rfl (ih k (by omega) b (i+1) (by omega) (by omega))
 ·have:k=0:=by omega
  subst this
  simp only [ae,Int.ofNat_lt,hk,if_false]
  rfl
theorem UH {n:Nat} {cs:List AV} {f:Int} {o:Option Nat} (h:bu n cs) (h0:0<=f):(dA Lp cQ (n+1) 12).call (List aa) 51 [.aT (.list n cs),.aT (.int .i64 f),.aT (.aL .f32 o)] [] (bp [false])=
  some [.v (.int .i64 (aF (fun j=>dP ((fO cs).getD j none) o) (n-f.toNat) f.toNat))]:=by
 rw [X_]
 have hn:=h.1
 have xW:=h.2.2
 obtain ⟨F,rfl⟩:=Int.eq_ofNat_of_zero_le h0
 rw [Int.toNat_natCast]
 simp only [ab]
 refine au (fun k (r:Nat->List AV->Option Nat->Int->Option (List aa))=>∀ (i:Nat),n<=i+k->
  r n cs o (i:Int)=some [.v (.int .i64 (aF (fun j=>dP ((fO cs).getD j none) o) (n-i) i))]) ?_ (n+1) n (by omega) F (by omega)
 intro k r ih i hi
 by_cases hk:i<n
 ·have ly:0<cs.length:=by omega
  have wi:IntKind.i64.wrap ((i:Int)+1)=((i+1:Nat):Int):=by rw [wrap64]<;>omega
  simp only [ae,aj,Int.ofNat_lt,hk,ly,Int.natCast_nonneg,and_self,if_true,Int.toNat_natCast,Nat.mul_one,h.get hk,ak,wi]
  cases e:dP ((fO cs).getD i none) o with
  | true=>rw [cq hk (p:=fun j=>dP ((fO cs).getD j none) o) e];exact bm e rfl
  | false=>
   rw [br (p:=fun j=>dP ((fO cs).getD j none) o) (En:=i+1) (by omega) (by omega) (fun j a b=>by (have q:j=i:=by omega);subst q;exact e)]
   exact bS e (ih (k-1) (by omega) (i+1) (by omega))
 ·simp only [ae,Int.ofNat_lt,hk,if_false]
  rw [kh (by omega)]
theorem UI {n:Nat} {cs:List AV} {f:Int} {o:Option Nat} (h:bu n cs) (h0:0<=f):(dA Lp cQ (n+1) 12).call (List aa) 52 [.aT (.list n cs),.aT (.int .i64 f),.aT (.aL .f32 o)] [] (bp [false])=
  some [.v (.int .i64 (aF (bA (fO cs) o) (n-f.toNat) f.toNat))]:=by
 rw [Ya]
 have hn:=h.1
 have xW:=h.2.2
 obtain ⟨F,rfl⟩:=Int.eq_ofNat_of_zero_le h0
 rw [Int.toNat_natCast]
 have e0:aF (bA (fO cs) o) (n-F) F=aF (bA (fO cs) o) (n-max 1 F) (max 1 F):=by
  by_cases hF:F=0
  ·subst hF
   by_cases n9:n=0
   ·subst n9;rfl
   ·exact br (En:=max 1 0) (by omega) (by omega) (fun j a b=>by (have q:j=0:=by omega);subst q;rfl)
  ·rw [show max 1 F=F by omega]
 have e1:(if (1:Int)>(F:Int) then (1:Int) else (F:Int))=((max 1 F:Nat):Int):=by split<;>omega
 simp only [ab,e1,e0]
 clear e0 e1
 refine au (fun k (r:Nat->List AV->Option Nat->Int->Option (List aa))=>∀ (i:Nat),n<=i+k->1<=i->
  r n cs o (i:Int)=some [.v (.int .i64 (aF (bA (fO cs) o) (n-i) i))]) ?_ (n+1) n (by omega) (max 1 F) (by omega) (by omega)
 intro k r ih i hi h1
 by_cases hk:i<n
 ·obtain ⟨j,rfl⟩:∃ j,i=j+1:=⟨i-1,by omega⟩
  have ly:0<cs.length:=by omega
  have hj:j<n:=by omega
  have wi:IntKind.i64.wrap (((j+1:Nat):Int)+1)=((j+1+1:Nat):Int):=by rw [wrap64]<;>omega
  have wm:IntKind.i64.wrap (((j+1:Nat):Int)-1)=(j:Int):=by rw [wrap64]<;>omega
  have fA:bA (fO cs) o (j+1)=false->r n cs o ((j+1+1:Nat):Int)=some [.v (.int .i64 (aF (bA (fO cs) o) (n-(j+1)) (j+1)))]:=fun hp=>by
   rw [br (En:=j+1+1) (by omega) (by omega) (fun i a b=>by (have q:i=j+1:=by omega);subst q;exact hp)]
   exact ih (k-1) (by omega) (j+1+1) (by omega) (by omega)
  simp only [ae,aj,Int.ofNat_lt,hk,hj,ly,Int.natCast_nonneg,and_self,if_true,Int.toNat_natCast,Nat.mul_one,wm,h.get hk,h.get hj,ak,wi,bP (Nat.succ_pos n)]
  cases e1:(aM .f32 ((fO cs).getD j none) o==some .lt) with
  | false=>simp only [cO,ak];exact fA (gi (.inl e1))
  | true=>
   simp only [cO,ak]
   cases e2:dP ((fO cs).getD (j+1) none) o with
   | true=>
    rw [cq hk (mJ e1 e2)]
    unfold dP at e2
    rw [e2]
   | false=>
    have e3:=e2
    unfold dP at e3
    rw [e3]
    exact fA (gi (.inr e2))
 ·simp only [ae,Int.ofNat_lt,hk,if_false]
  rw [kh (by omega)]
end Go.Abs
end
set_option maxRecDepth 100000
noncomputable section
namespace Go.Abs
open Go.Proofs Classical Go.Abs.Fin
theorem UC {n m N:Nat} {cs ls:List AV} {b f:Int} {o:Option Nat} (h:bu n cs) (h':qd m ls) (hN:n+m+5020<N):
  (dA Lp nP N 12).call (List aa) 46 [.aT (.list n cs),.s (.agg [.b (.int .i64 b),.b (.list m ls)]),.aT (.int .i64 f),.aT (.aL .f32 o)] [] (bp [false,false])=
  some [.v (.int .i64 (qF (cw n (fO cs) b m ls f o) (aF (bA (fO cs) o) (n-f.toNat) f.toNat))),.v (.int .i64 (qe (cw n (fO cs) b m ls f o) (aF (bA (fO cs) o) (n-f.toNat) f.toNat)))]:=by
 rw [X7]
 have hl:=h'.2.1
 have hm:=h'.1
 have CX:=h.len
 have xW:=h.2.2
 have H9:0<N:=by omega
 simp only [ab,aj,h,h',Ln,Eg,qa,and_self,if_true,cr]
 change ite (cw n (fO cs) b m ls f o=0) _ _=_
 by_cases h0:cw n (fO cs) b m ls f o=0
 case neg=>
  unfold qF qe
  rw [if_neg h0,if_neg h0,if_neg h0]
  rfl
 rw [if_pos h0,h0]
 obtain ⟨A,F,rfl,rfl,hFn,ho,hT⟩:=CY CX h0
 have hA1:=hT.one
 have hA2:=hT.X5
 have UA:=hT.UB
 clear h0
 rw [Int.toNat_natCast]
 change _=dp (aF (bA (fO cs) o) (n-F) F)
 refine au (fun k (r:Nat->List AV->Int->Int->Nat->List AV->Int->Nat->List AV->Option Nat->Int->Nat->List AV->Nat->List AV->Int->Nat->List AV->Nat->List AV->Int->List (AV × AV × Nat)->Nat->Nat->List AV->Nat->List AV->Int->Option (List aa))=>∀ (i:Nat) (E:List PE) (pc:List AV),i+k=m->kg (nj ls) (OK ls) E i 0->
  r m ls (m:Int) (i:Int) (n) (cs) (A:Int) (m) (ls) (o) (A:Int) (m) (ls) (3) pc (A:Int) (m) (ls) (0) ([]) ((0:Int)) (dj 0 E) E.length (0) ([]) (n) (cs) (A:Int)=dp (aF (bA (fO cs) o) (n-F) F)) ?_ N m (by omega) 0 [] _ (by omega) kg.nil
 intro k r ih i E pc hi hE
 by_cases hk:i<m
 ·obtain ⟨q,ds,e1,e2,e3⟩:=h'.get hk
  have eL:=lK e1
  have p0:0<ls.length:=by omega
  have wi:IntKind.i64.wrap ((i:Int)+1)=((i+1:Nat):Int):=by rw [wrap64]<;>omega
  have hle:=e2.len
  have hdl:=e2.2.2
  have hq:nj ls i=q:=by unfold nj;rw [eL];omega
  have dg:=(hT.lev i hk).Jr
  rw [eL] at dg
  simp only [ae,aj,Int.ofNat_lt,hk,p0,if_true,Int.natCast_nonneg,true_and,and_true,Int.toNat_natCast,Nat.mul_one,e1,cJ,ak]
  refine au (fun k2 (r2:Int->Nat->List AV->Int->Int->Nat->List AV->Int->Int->Nat->List AV->Int->Nat->List AV->Option Nat->Int->Nat->List AV->Nat->List AV->Int->Nat->List AV->Nat->List AV->Int->List (AV × AV × Nat)->Nat->Nat->List AV->Nat->List AV->Int->Option (List aa))=>∀ (j:Nat) (E:List PE),j+k2=q->kg (nj ls) (OK ls) E i j->
   r2 (i:Int) m ls (m:Int) (i:Int) q ds (q:Int) (j:Int) (n) (cs) (A:Int) (m) (ls) (o) (A:Int) (m) (ls) (3) pc (A:Int) (m) (ls) (0) ([]) ((0:Int)) (dj 0 E) E.length (0) ([]) (n) (cs) (A:Int)=dp (aF (bA (fO cs) o) (n-F) F)) ?_ N q (by omega) 0 E (by omega) hE
  intro k2 r2 tr j E hj hE
  by_cases iC:j<q
  ·have GJ:=e2.get (i:=2*j) (by omega)
   have GK:=e2.get (i:=2*j+1) (by omega)
   have wj:IntKind.i64.wrap ((j:Int)+1)=((j+1:Nat):Int):=by rw [wrap64]<;>omega
   have q0:0<ds.length:=by omega
   have q1:(2*j+2<=ds.length)=True:=eq_true (by omega)
   have GL:j*2=2*j:=by omega
   have f1:=bn (dg.get (i:=2*j) (by omega))
   have f2:=bn (dg.get (i:=2*j+1) (by omega))
   have gI:=zR hE eL
   simp only [ae,aj,Int.ofNat_lt,iC,q0,q1,if_true,Int.natCast_nonneg,true_and,and_true,Int.toNat_natCast,GL,GJ,GK,ak,f1,f2,and_self,gI,wj]
   exact tr (k2-1) (by omega) (j+1) _ (by omega) hE.step
  ·have:j=nj ls i:=by omega
   subst this
   simp only [ae,Int.ofNat_lt,iC,if_false,wi]
   exact ih (k-1) (by omega) (i+1) E _ (by omega) hE.next
 have Nv:i=m:=by omega
 simp only [ae,Int.ofNat_lt,hk,if_false]
 rw [Nv] at hE
 clear ih hi hk Nv
 refine au (fun k (r:Int->Nat->List AV->Int->Nat->List AV->Option Nat->Int->Nat->List AV->Nat->List AV->Int->Nat->List AV->Nat->List AV->Nat->List AV->Int->List (AV × AV × Nat)->Nat->Nat->List AV->Nat->List AV->Int->Nat->List AV->Int->Int->Int->Int->Int->Int->Option (List aa))=>∀ (at_:Nat),F<=at_->at_<=n->n<at_+k->
  r (at_:Int) ((n)) ((cs)) ((A:Int)) ((m)) ((ls)) ((o)) ((A:Int)) ((m)) ((ls)) ((3)) (pc) ((A:Int)) ((m)) ((ls)) ((0)) (([])) ((n)) ((cs)) ((A:Int)) ((dj 0 E)) (E.length) ((0)) (([])) ((n)) ((cs)) ((A:Int)) ((n)) ((cs)) ((A:Int)) ((-1:Int)) ((A:Int)) ((↑(n):Int)) (F:Int) ((↑(n):Int))=dp (aF (bA (fO cs) o) (n-at_) at_)) ?_ N 4098 (by omega) F (by omega) (by omega) (by omega)
 intro k r ih at_ ha1 V4 hk
 obtain ⟨k,rfl⟩:∃ k',k=k' + 1:=⟨k-1,by omega⟩
 try simp only [ae]
 by_cases cC:at_<n
 case neg=>
  have Fx:¬ ((at_:Int)<(n:Int)):=by omega
  rw [if_neg Fx,kh (by omega)]
  rfl
 have KX:(at_:Int)<(n:Int):=by omega
 rw [if_pos KX]
 have hb:=ki (a:=(A:Int)) (n:=(n:Int)) (to:=(n:Int)) (at_:=(at_:Int)) (by omega) (by omega) (by omega) (by omega) _ rfl
 have fT:=kj (A:=A) (n:=n) (at_:=at_) (to:=(n:Int))
 generalize hr:dq (n:Int) (n:Int) (at_:Int) 14 0 (A:Int) (-1,(at_:Int),(at_:Int)+1)=res at hb fT
 obtain ⟨_,ye,BY,_⟩:=hb
 have Lq:at_<n:=by omega
 have ly:0<cs.length:=by omega
 have V7:∀ (L I X:Int),(L,I,X)=res->L>=0->IntKind.i64.wrap (IntKind.i64.wrap (I*(A:Int))*(2:Int) ^ min L.toNat 64)=(at_:Int):=by
  intro L I X e hL
  subst e
  exact rp (by omega) (by omega) Lq (by omega) fT hL
 rw [←CX] at fT
 have fin:∀ (L I E':Int),(L,I,E')=res->∃ En:Nat,E'=(En:Int)/\at_<En/\En<=n/\(dP (ca (fO cs) ls L I).2 o=false->∀ j,at_<=j->j<En->(bA (fO cs) o) j=false):=by
  intro L I E' e
  subst e
  obtain ⟨v1,v2,v3⟩:=qf hT (by omega) fT
  dsimp only at v1 v2 v3
  obtain ⟨En,rfl⟩:=Int.eq_ofNat_of_zero_le (show 0<=E' by omega)
  rw [Int.toNat_natCast] at v1
  exact ⟨En,rfl,by omega,by omega,UD hT.fin v1 ho (by omega)⟩
 have look:∀ (L I X:Int),(L,I,X)=res->aJ (ca (fO cs) ls L I).1=true/\aJ (ca (fO cs) ls L I).2=true/\((L<0/\I=(at_:Int)/\X=((at_+1:Nat):Int)/\ca (fO cs) ls L I=(az ((fO cs).getD at_ none),az ((fO cs).getD at_ none)))\/
   (¬ L<0/\iq Tryz.prog 130 62 (.agg [.int .i64 L,.int .i64 I]) (dj 0 E)=some (true,.agg [.aL .f32 (ca (fO cs) ls L I).1,.aL .f32 (ca (fO cs) ls L I).2]))):=by
  intro L I X e
  subst e
  exact qg hT hE fT (by omega)
 have X6:IntKind.i64.wrap ((at_:Int)+1)=(at_:Int)+1:=wrap64 (by omega) (by omega)
 rw [X6]
 refine au (fun mm (r2:Int->Int->Int->Int->Nat->List AV->Int->Nat->List AV->Option Nat->Int->Nat->List AV->Nat->List AV->Int->Nat->List AV->Nat->List AV->Nat->List AV->Int->List (AV × AV × Nat)->Nat->Nat->List AV->Nat->List AV->Int->Nat->List AV->Int->Int->Int->Int->Int->Int->Int->Int->Option (List aa))=>∀ (l s c1 c2 c3:Int),0<=l->l+mm<=13->1<=s->s<=8192->(n:Int)<s*2 ^ mm->dq (n:Int) (n:Int) (at_:Int) (mm+1) l s (c1,c2,c3)=res->
  r2 (at_:Int) c3 l s (((n))) (((cs))) (((A:Int))) (((m))) (((ls))) (((o))) (((A:Int))) (((m))) (((ls))) (((3))) ((pc)) (((A:Int))) (((m))) (((ls))) (((0))) ((([]))) (((n))) (((cs))) (((A:Int))) (((dj 0 E))) ((E.length)) (((0))) ((([]))) (((n))) (((cs))) (((A:Int))) (((n))) (((cs))) (((A:Int))) (((-1:Int))) (((A:Int))) (((↑(n):Int))) ((F:Int)) (((↑(n):Int))) c1 c2=dp (aF (bA (fO cs) o) (n-at_) at_)) ?_ N 13 (by omega) 0 (A:Int) (-1) (at_:Int) ((at_:Int)+1) (by omega) (by omega) (by omega) (by omega) (by omega) hr
 intro mm r2 tr l s c1 c2 c3 F6 hlm B0 CE Qf jq
 have w1:IntKind.i64.wrap ((at_:Int)+s)=(at_:Int)+s:=wrap64 (by omega) (by omega)
 have w2:IntKind.i64.wrap (l+1)=l+1:=wrap64 (by omega) (by omega)
 have w3:IntKind.i64.wrap (2*s)=2*s:=wrap64 (by omega) (by omega)
 have w4:(at_:Int).tmod s=(at_:Int)%s:=Int.tmod_eq_emod_of_nonneg (by omega)
 have w5:(at_:Int).tdiv s=(at_:Int) / s:=Int.tdiv_eq_ediv_of_nonneg (by omega)
 have w6:IntKind.i64.wrap ((at_:Int) / s)=(at_:Int) / s:=by
  have:=Int.ediv_le_self s (show (0:Int)<=(at_:Int) by omega)
  have:=Int.ediv_nonneg (show (0:Int)<=(at_:Int) by omega) (show 0<=s by omega)
  rw [wrap64 (by omega) (by omega)]
 have nz:(s≠0)=True:=eq_true (by omega)
 simp only [ae,aj,nz,if_true,w1,w2,w3,w4,w5,w6,qb,oK,ak]
 rw [dq] at jq
 by_cases bw:(at_:Int)%s=0/\min (n:Int) ((at_:Int)+s)<=(n:Int)
 ·have e1:(((at_:Int)%s==0)&&decide (min (n:Int) ((at_:Int)+s)<=(n:Int)))=true:=by rw [bw.1,decide_eq_true bw.2];rfl
  rw [e1,ct]
  rw [if_pos bw] at jq
  by_cases hn:(n:Int)<=s
  ·rw [if_pos hn] at jq
   rw [if_pos (show s>=(n:Int) from hn)]
   obtain ⟨En,Js,s1,s2,s3⟩:=fin _ _ _ jq
   rw [Js]
   have mC:=ih k (by omega) En (by omega) (by omega) (by omega)
   have sz:En<9223372036854775808:=by omega
   have Qg:=V7 _ _ _ jq
   obtain ⟨g1,g2,⟨g3,g4,g6,g5⟩ | ⟨g3,g5⟩⟩:=look _ _ _ jq
   ·have Jt:=h.get (i:=at_) (by omega)
    have fz:=bn (hT.fin.get (i:=at_) (by omega))
    have g7:¬ (l>=0):=by omega
    simp only [ae,g3,g4,g7,if_true,if_false,aj,Int.natCast_nonneg,Int.ofNat_lt,Lq,ly,and_self,Int.toNat_natCast,Nat.mul_one,Jt,ak,bP H9,fz]
    by_cases hv:dP (ca (fO cs) ls l ((at_:Int) / s)).2 o=true
    ·have ey:=hv
     rw [g5] at ey
     refine bS (congrArg not ey) ?_
     refine au (fun k3 (r3:Int->Int->Nat->List AV->Int->Nat->List AV->Option Nat->Int->Nat->List AV->Nat->List AV->Int->Nat->List AV->Nat->List AV->Nat->List AV->Int->List (AV × AV × Nat)->Nat->Nat->List AV->Nat->List AV->Int->Nat->List AV->Int->Int->Int->Int->Int->Int->Int->Int->Int->Int->Option (List aa))=>∀ (j:Nat) (y1 y2 y3 y4:Int),j+k3=En->
      r3 (En:Int) (j:Int) (((n))) (((cs))) (((A:Int))) (((m))) (((ls))) (((o))) (((A:Int))) (((m))) (((ls))) (((3))) ((pc)) (((A:Int))) (((m))) (((ls))) (((0))) ((([]))) (((n))) (((cs))) (((A:Int))) (((dj 0 E))) ((E.length)) (((0))) ((([]))) (((n))) (((cs))) (((A:Int))) (((n))) (((cs))) (((A:Int))) (((-1:Int))) (((A:Int))) (((↑(n):Int))) ((F:Int)) (((↑(n):Int))) y1 y2 y3 y4=dp (aF (bA (fO cs) o) (n-j) j)) ?_ N (En-at_) (by omega) at_ _ _ _ _ (by omega)
     intro k3 r3 zS j y1 y2 y3 y4 hj
     by_cases mz:j<En
     ·have lr:j<n:=by omega
      have wj:IntKind.i64.wrap ((j:Int)+1)=((j+1:Nat):Int):=by rw [wrap64]<;>omega
      have zT:=h.get (i:=j) (by omega)
      have fA:(bA (fO cs) o) j=false->r3 (En:Int) ((j+1:Nat):Int) (((n))) (((cs))) (((A:Int))) (((m))) (((ls))) (((o))) (((A:Int))) (((m))) (((ls))) (((3))) ((pc)) (((A:Int))) (((m))) (((ls))) (((0))) ((([]))) (((n))) (((cs))) (((A:Int))) (((dj 0 E))) ((E.length)) (((0))) ((([]))) (((n))) (((cs))) (((A:Int))) (((n))) (((cs))) (((A:Int))) (((-1:Int))) (((A:Int))) (((↑(n):Int))) ((F:Int)) (((↑(n):Int))) y1 y2 y3 y4=dp (aF (bA (fO cs) o) (n-j) j):=fun hp=>by
       rw [br (En:=j+1) (by omega) (by omega) (fun i a b=>by (have q:i=j:=by omega);subst q;exact hp)]
       exact zS (k3-1) (by omega) (j+1) _ _ _ _ (by omega)
      by_cases IH:0<j
      ·obtain ⟨j',rfl⟩:∃ j',j=j' + 1:=⟨j-1,by omega⟩
       have Ju:=h.get (i:=j') (by omega)
       have Jv:j' < n:=by omega
       have wm:IntKind.i64.wrap (((j' + 1:Nat):Int)-1)=(j':Int):=by rw [wrap64]<;>omega
       have Ei:(((j' + 1:Nat):Int)>0)=True:=eq_true (by omega)
       simp only [ae,aj,Int.natCast_nonneg,Int.ofNat_lt,mz,lr,Jv,ly,Ei,wm,and_self,if_true,Int.toNat_natCast,Nat.mul_one,zT,Ju,ak,wj]
       cases e1:(aM .f32 ((fO cs).getD j' none) o==some .lt) with
       | false=>exact fA (gi (.inl e1))
       | true=>
        cases e2:dP ((fO cs).getD (j' + 1) none) o with
        | true=>
         rw [cq lr (mJ e1 e2)]
         exact bm rfl (bm e2 rfl)
        | false=>exact bm rfl (bS e2 (fA (gi (.inr e2))))
      ·have Ei:((j:Int)>0)=False:=eq_false (by omega)
       simp only [ae,Int.ofNat_lt,mz,Ei,if_true,if_false,wj]
       exact fA (by (have q:j=0:=by omega);subst q;rfl)
     ·have:j=En:=by omega
      subst this
      simp only [ae,Int.ofNat_lt,mz,if_false]
      exact mC
    ·have ey:dP (ca (fO cs) ls l ((at_:Int) / s)).2 o=false:=by simpa using hv
     have hs:=br (p:=(bA (fO cs) o)) (Nat.le_of_lt s1) s2 (s3 ey)
     rw [g5] at ey
     rw [hs]
     exact bm (congrArg not ey) mC
   ·have g7:l>=0:=by omega
    have g8:=Qg g7
    simp only [ae,g3,if_false,g5,ak,gG,List.length_cons,List.length_nil,aj,if_true,List.getD_cons_zero,List.tail_cons,lL,bP H9,g7,g8,and_self]
    by_cases hv:dP (ca (fO cs) ls l ((at_:Int) / s)).2 o=true
    ·refine bS (congrArg not hv) ?_
     refine au (fun k3 (r3:Int->Int->Nat->List AV->Int->Nat->List AV->Option Nat->Int->Nat->List AV->Nat->List AV->Int->Nat->List AV->Nat->List AV->Nat->List AV->Int->List (AV × AV × Nat)->Nat->Nat->List AV->Nat->List AV->Int->Nat->List AV->Int->Int->Int->Int->Int->Int->Int->Int->Int->Int->Option (List aa))=>∀ (j:Nat) (y1 y2 y3 y4:Int),j+k3=En->
      r3 (En:Int) (j:Int) (((n))) (((cs))) (((A:Int))) (((m))) (((ls))) (((o))) (((A:Int))) (((m))) (((ls))) (((3))) ((pc)) (((A:Int))) (((m))) (((ls))) (((0))) ((([]))) (((n))) (((cs))) (((A:Int))) (((dj 0 E))) ((E.length)) (((0))) ((([]))) (((n))) (((cs))) (((A:Int))) (((n))) (((cs))) (((A:Int))) (((-1:Int))) (((A:Int))) (((↑(n):Int))) ((F:Int)) (((↑(n):Int))) y1 y2 y3 y4=dp (aF (bA (fO cs) o) (n-j) j)) ?_ N (En-at_) (by omega) at_ _ _ _ _ (by omega)
     intro k3 r3 zS j y1 y2 y3 y4 hj
     by_cases mz:j<En
     ·have lr:j<n:=by omega
      have wj:IntKind.i64.wrap ((j:Int)+1)=((j+1:Nat):Int):=by rw [wrap64]<;>omega
      have zT:=h.get (i:=j) (by omega)
      have fA:(bA (fO cs) o) j=false->r3 (En:Int) ((j+1:Nat):Int) (((n))) (((cs))) (((A:Int))) (((m))) (((ls))) (((o))) (((A:Int))) (((m))) (((ls))) (((3))) ((pc)) (((A:Int))) (((m))) (((ls))) (((0))) ((([]))) (((n))) (((cs))) (((A:Int))) (((dj 0 E))) ((E.length)) (((0))) ((([]))) (((n))) (((cs))) (((A:Int))) (((n))) (((cs))) (((A:Int))) (((-1:Int))) (((A:Int))) (((↑(n):Int))) ((F:Int)) (((↑(n):Int))) y1 y2 y3 y4=dp (aF (bA (fO cs) o) (n-j) j):=fun hp=>by
       rw [br (En:=j+1) (by omega) (by omega) (fun i a b=>by (have q:i=j:=by omega);subst q;exact hp)]
       exact zS (k3-1) (by omega) (j+1) _ _ _ _ (by omega)
      by_cases IH:0<j
      ·obtain ⟨j',rfl⟩:∃ j',j=j' + 1:=⟨j-1,by omega⟩
       have Ju:=h.get (i:=j') (by omega)
       have Jv:j' < n:=by omega
       have wm:IntKind.i64.wrap (((j' + 1:Nat):Int)-1)=(j':Int):=by rw [wrap64]<;>omega
       have Ei:(((j' + 1:Nat):Int)>0)=True:=eq_true (by omega)
       simp only [ae,aj,Int.natCast_nonneg,Int.ofNat_lt,mz,lr,Jv,ly,Ei,wm,and_self,if_true,Int.toNat_natCast,Nat.mul_one,zT,Ju,ak,wj]
       cases e1:(aM .f32 ((fO cs).getD j' none) o==some .lt) with
       | false=>exact fA (gi (.inl e1))
       | true=>
        cases e2:dP ((fO cs).getD (j' + 1) none) o with
        | true=>
         rw [cq lr (mJ e1 e2)]
         exact bm rfl (bm e2 rfl)
        | false=>exact bm rfl (bS e2 (fA (gi (.inr e2))))
      ·have Ei:((j:Int)>0)=False:=eq_false (by omega)
       simp only [ae,Int.ofNat_lt,mz,Ei,if_true,if_false,wj]
       exact fA (by (have q:j=0:=by omega);subst q;rfl)
     ·have:j=En:=by omega
      subst this
      simp only [ae,Int.ofNat_lt,mz,if_false]
      exact mC
    ·have ey:dP (ca (fO cs) ls l ((at_:Int) / s)).2 o=false:=by simpa using hv
     rw [br (p:=(bA (fO cs) o)) (Nat.le_of_lt s1) s2 (s3 ey)]
     exact bm (congrArg not ey) mC
  ·rw [if_neg hn] at jq
   rw [if_neg (show ¬ s>=(n:Int) from hn)]
   obtain ⟨mm,rfl⟩:∃ m',mm=m' + 1:=by
    cases mm with
    | zero=>omega
    | succ mm=>exact ⟨mm,rfl⟩
   refine tr mm (by omega) (l+1) (2*s) l ((at_:Int) / s) (min (n:Int) ((at_:Int)+s)) (by omega) (by omega) (by omega) (by omega) ?_ jq
   rw [Int.pow_succ] at Qf;rw [Int.mul_comm 2 s,Int.mul_assoc,Int.mul_comm 2];exact Qf
 ·have e1:(((at_:Int)%s==0)&&decide (min (n:Int) ((at_:Int)+s)<=(n:Int)))=false:=by
   rw [Bool.and_eq_false_iff]
   by_cases hz:(at_:Int)%s=0
   ·exact .inr (decide_eq_false fun h=>bw ⟨hz,h⟩)
   ·exact .inl (beq_eq_false_iff_ne.2 hz)
  rw [e1,bH]
  rw [if_neg bw] at jq
  obtain ⟨En,Js,s1,s2,s3⟩:=fin _ _ _ jq
  rw [Js]
  have mC:=ih k (by omega) En (by omega) (by omega) (by omega)
  have sz:En<9223372036854775808:=by omega
  have Qg:=V7 _ _ _ jq
  obtain ⟨g1,g2,⟨g3,g4,g6,g5⟩ | ⟨g3,g5⟩⟩:=look _ _ _ jq
  ·have Jt:=h.get (i:=at_) (by omega)
   have fz:=bn (hT.fin.get (i:=at_) (by omega))
   have g7:¬ (c1>=0):=by omega
   simp only [ae,g3,g4,g7,if_true,if_false,aj,Int.natCast_nonneg,Int.ofNat_lt,Lq,ly,and_self,Int.toNat_natCast,Nat.mul_one,Jt,ak,bP H9,fz]
   by_cases hv:dP (ca (fO cs) ls c1 c2).2 o=true
   ·have ey:=hv
    rw [g5] at ey
    refine bS (congrArg not ey) ?_
    refine au (fun k3 (r3:Int->Int->Nat->List AV->Int->Nat->List AV->Option Nat->Int->Nat->List AV->Nat->List AV->Int->Nat->List AV->Nat->List AV->Nat->List AV->Int->List (AV × AV × Nat)->Nat->Nat->List AV->Nat->List AV->Int->Nat->List AV->Int->Int->Int->Int->Int->Int->Int->Int->Int->Int->Option (List aa))=>∀ (j:Nat) (y1 y2 y3 y4:Int),j+k3=En->
     r3 (En:Int) (j:Int) (((n))) (((cs))) (((A:Int))) (((m))) (((ls))) (((o))) (((A:Int))) (((m))) (((ls))) (((3))) ((pc)) (((A:Int))) (((m))) (((ls))) (((0))) ((([]))) (((n))) (((cs))) (((A:Int))) (((dj 0 E))) ((E.length)) (((0))) ((([]))) (((n))) (((cs))) (((A:Int))) (((n))) (((cs))) (((A:Int))) (((-1:Int))) (((A:Int))) (((↑(n):Int))) ((F:Int)) (((↑(n):Int))) y1 y2 y3 y4=dp (aF (bA (fO cs) o) (n-j) j)) ?_ N (En-at_) (by omega) at_ _ _ _ _ (by omega)
    intro k3 r3 zS j y1 y2 y3 y4 hj
    by_cases mz:j<En
    ·have lr:j<n:=by omega
     have wj:IntKind.i64.wrap ((j:Int)+1)=((j+1:Nat):Int):=by rw [wrap64]<;>omega
     have zT:=h.get (i:=j) (by omega)
     have fA:(bA (fO cs) o) j=false->r3 (En:Int) ((j+1:Nat):Int) (((n))) (((cs))) (((A:Int))) (((m))) (((ls))) (((o))) (((A:Int))) (((m))) (((ls))) (((3))) ((pc)) (((A:Int))) (((m))) (((ls))) (((0))) ((([]))) (((n))) (((cs))) (((A:Int))) (((dj 0 E))) ((E.length)) (((0))) ((([]))) (((n))) (((cs))) (((A:Int))) (((n))) (((cs))) (((A:Int))) (((-1:Int))) (((A:Int))) (((↑(n):Int))) ((F:Int)) (((↑(n):Int))) y1 y2 y3 y4=dp (aF (bA (fO cs) o) (n-j) j):=fun hp=>by
      rw [br (En:=j+1) (by omega) (by omega) (fun i a b=>by (have q:i=j:=by omega);subst q;exact hp)]
      exact zS (k3-1) (by omega) (j+1) _ _ _ _ (by omega)
     by_cases IH:0<j
     ·obtain ⟨j',rfl⟩:∃ j',j=j' + 1:=⟨j-1,by omega⟩
      have Ju:=h.get (i:=j') (by omega)
      have Jv:j' < n:=by omega
      have wm:IntKind.i64.wrap (((j' + 1:Nat):Int)-1)=(j':Int):=by rw [wrap64]<;>omega
      have Ei:(((j' + 1:Nat):Int)>0)=True:=eq_true (by omega)
      simp only [ae,aj,Int.natCast_nonneg,Int.ofNat_lt,mz,lr,Jv,ly,Ei,wm,and_self,if_true,Int.toNat_natCast,Nat.mul_one,zT,Ju,ak,wj]
      cases e1:(aM .f32 ((fO cs).getD j' none) o==some .lt) with
      | false=>exact fA (gi (.inl e1))
      | true=>
       cases e2:dP ((fO cs).getD (j' + 1) none) o with
       | true=>
        rw [cq lr (mJ e1 e2)]
        exact bm rfl (bm e2 rfl)
       | false=>exact bm rfl (bS e2 (fA (gi (.inr e2))))
     ·have Ei:((j:Int)>0)=False:=eq_false (by omega)
      simp only [ae,Int.ofNat_lt,mz,Ei,if_true,if_false,wj]
      exact fA (by (have q:j=0:=by omega);subst q;rfl)
    ·have:j=En:=by omega
     subst this
     simp only [ae,Int.ofNat_lt,mz,if_false]
     exact mC
   ·have ey:dP (ca (fO cs) ls c1 c2).2 o=false:=by simpa using hv
    have hs:=br (p:=(bA (fO cs) o)) (Nat.le_of_lt s1) s2 (s3 ey)
    rw [g5] at ey
    rw [hs]
    exact bm (congrArg not ey) mC
  ·have g7:c1>=0:=by omega
   have g8:=Qg g7
   simp only [ae,g3,if_false,g5,ak,gG,List.length_cons,List.length_nil,aj,if_true,List.getD_cons_zero,List.tail_cons,lL,bP H9,g7,g8,and_self]
   by_cases hv:dP (ca (fO cs) ls c1 c2).2 o=true
   ·refine bS (congrArg not hv) ?_
    refine au (fun k3 (r3:Int->Int->Nat->List AV->Int->Nat->List AV->Option Nat->Int->Nat->List AV->Nat->List AV->Int->Nat->List AV->Nat->List AV->Nat->List AV->Int->List (AV × AV × Nat)->Nat->Nat->List AV->Nat->List AV->Int->Nat->List AV->Int->Int->Int->Int->Int->Int->Int->Int->Int->Int->Option (List aa))=>∀ (j:Nat) (y1 y2 y3 y4:Int),j+k3=En->
     r3 (En:Int) (j:Int) (((n))) (((cs))) (((A:Int))) (((m))) (((ls))) (((o))) (((A:Int))) (((m))) (((ls))) (((3))) ((pc)) (((A:Int))) (((m))) (((ls))) (((0))) ((([]))) (((n))) (((cs))) (((A:Int))) (((dj 0 E))) ((E.length)) (((0))) ((([]))) (((n))) (((cs))) (((A:Int))) (((n))) (((cs))) (((A:Int))) (((-1:Int))) (((A:Int))) (((↑(n):Int))) ((F:Int)) (((↑(n):Int))) y1 y2 y3 y4=dp (aF (bA (fO cs) o) (n-j) j)) ?_ N (En-at_) (by omega) at_ _ _ _ _ (by omega)
    intro k3 r3 zS j y1 y2 y3 y4 hj
    by_cases mz:j<En
    ·have lr:j<n:=by omega
     have wj:IntKind.i64.wrap ((j:Int)+1)=((j+1:Nat):Int):=by rw [wrap64]<;>omega
     have zT:=h.get (i:=j) (by omega)
     have fA:(bA (fO cs) o) j=false->r3 (En:Int) ((j+1:Nat):Int) (((n))) (((cs))) (((A:Int))) (((m))) (((ls))) (((o))) (((A:Int))) (((m))) (((ls))) (((3))) ((pc)) (((A:Int))) (((m))) (((ls))) (((0))) ((([]))) (((n))) (((cs))) (((A:Int))) (((dj 0 E))) ((E.length)) (((0))) ((([]))) (((n))) (((cs))) (((A:Int))) (((n))) (((cs))) (((A:Int))) (((-1:Int))) (((A:Int))) (((↑(n):Int))) ((F:Int)) (((↑(n):Int))) y1 y2 y3 y4=dp (aF (bA (fO cs) o) (n-j) j):=fun hp=>by
      rw [br (En:=j+1) (by omega) (by omega) (fun i a b=>by (have q:i=j:=by omega);subst q;exact hp)]
      exact zS (k3-1) (by omega) (j+1) _ _ _ _ (by omega)
     by_cases IH:0<j
     ·obtain ⟨j',rfl⟩:∃ j',j=j' + 1:=⟨j-1,by omega⟩
      have Ju:=h.get (i:=j') (by omega)
      have Jv:j' < n:=by omega
      have wm:IntKind.i64.wrap (((j' + 1:Nat):Int)-1)=(j':Int):=by rw [wrap64]<;>omega
      have Ei:(((j' + 1:Nat):Int)>0)=True:=eq_true (by omega)
      simp only [ae,aj,Int.natCast_nonneg,Int.ofNat_lt,mz,lr,Jv,ly,Ei,wm,and_self,if_true,Int.toNat_natCast,Nat.mul_one,zT,Ju,ak,wj]
      cases e1:(aM .f32 ((fO cs).getD j' none) o==some .lt) with
      | false=>exact fA (gi (.inl e1))
      | true=>
       cases e2:dP ((fO cs).getD (j' + 1) none) o with
       | true=>
        rw [cq lr (mJ e1 e2)]
        exact bm rfl (bm e2 rfl)
       | false=>exact bm rfl (bS e2 (fA (gi (.inr e2))))
     ·have Ei:((j:Int)>0)=False:=eq_false (by omega)
      simp only [ae,Int.ofNat_lt,mz,Ei,if_true,if_false,wj]
      exact fA (by (have q:j=0:=by omega);subst q;rfl)
    ·have:j=En:=by omega
     subst this
     simp only [ae,Int.ofNat_lt,mz,if_false]
     exact mC
   ·have ey:dP (ca (fO cs) ls c1 c2).2 o=false:=by simpa using hv
    rw [br (p:=(bA (fO cs) o)) (Nat.le_of_lt s1) s2 (s3 ey)]
    exact bm (congrArg not ey) mC
end Go.Abs
end
