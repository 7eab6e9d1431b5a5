/- Part 45 of the library of the proof: an abstract run of the program. -/
import Derived.Test.YtkloadomnblkeaaGreatDoorHt43
import Derived.Test.YtkloadomnblkeaaGreatDoorHt44
set_option linter.unusedVariables false
set_option linter.unusedSimpArgs false

set_option maxRecDepth 100000
noncomputable section
namespace Go.Abs
open Go.Proofs Classical Go.Abs.Fin
theorem Qj {o:Option Nat}:bu 1 [AV.aL .f32 o]/\fO [AV.aL .f32 o]=[o]:=⟨⟨by decide,rfl,rfl⟩,rfl⟩
theorem Qk {n:Nat} {xs:List (Option Nat)} {o:Option Nat} (hn:xs.length=n) (hs:aY n xs=0) (ho:aJ o=true):
  qO n xs 1 [o]=0/\eF n xs 1 [o]=[((n-(cj o xs).countP id:Nat):Int),(((cj o xs).countP id:Nat):Int)]:=by
 have h0:qO n xs 1 [o]=0:=by
  unfold qO Nl
  rw [if_pos hs,if_neg (by decide),if_neg (by decide)]
  simp [u',ho]
 refine ⟨h0,?_⟩
 unfold eF
 rw [if_pos h0,show List.replicate (1+1) (0:Int)=[0,0] from rfl,GP ho xs 0 0 (gW hs).2,hn,Int.zero_add,Int.zero_add]
theorem TL {n N:Nat} {cs:List AV} {b f t c:Int} {o:Option Nat} (h:bu n cs) (hN:n+2<N):
  (dA mzX PT N 12).call (List aa) 13 [.s (.agg [.b (.list n cs),.b (.int .i64 b)]),.s (.agg [.b (.int .i64 f),.b (.int .i64 t),.b (.int .i64 c),.b (.aL .f32 o)])] [] (bp [false])=some [.v (.bool true)]:=by
 rw [Yb]
 have H9:0<N:=by omega
 have CX:=h.len
 simp only [ab,bP H9]
 by_cases hn:(n:Int)<=64
 case neg=>
  simp only [ae,hn,if_false,ak,bH,Bool.not_false,ct]
 by_cases hs:aY n (fO cs)=0
 case neg=>
  have e:(aY n (fO cs)==0)=false:=beq_eq_false_iff_ne.2 hs
  simp only [ae,aj,h,hn,e,if_true,if_false,ak,bH,Bool.not_false,ct]
 obtain ⟨hn4,hf⟩:=gW hs
 by_cases hb:b<1\/b>256
 case pos=>
  have e:((3:Int)==0)=false:=rfl
  simp only [ae,aj,h,hn,hs,hb,e,if_true,if_false,ak,bH,Bool.not_false,ct,beq_self_eq_true]
 by_cases hF:f<0\/f>(n:Int)
 case pos=>
  have e:((3:Int) != 0)=true:=rfl
  simp only [ae,aj,h,hn,hs,hb,hF,e,if_true,if_false,ak,bH,Bool.not_true,ct,beq_self_eq_true]
 cases ho:aJ o with
 | false=>
  have e:((0:Int) != 0)=false:=rfl
  simp only [ae,aj,h,hn,hs,hb,hF,ho,e,if_true,if_false,ak,bH,Bool.not_true,Bool.not_false,ct,beq_self_eq_true]
 | true=>
 obtain ⟨F,rfl⟩:=Int.eq_ofNat_of_zero_le (show 0<=f by omega)
 obtain ⟨A,rfl⟩:=Int.eq_ofNat_of_zero_le (show 0<=b by omega)
 have hA1:1<=A:=by omega
 have hA2:A<=256:=by omega
 have eb:l_ n (fO cs) (A:Int)=0:=by unfold l_;rw [if_pos hs,if_neg hb]
 have eB:al n (fO cs) (A:Int)=((A:Int),aN (fO cs) A):=by unfold al;rw [eb];rfl
 have dH:=jf (xs:=fO cs) (b:=A) hA1 (by omega) hf
 have hwl:(aN (fO cs) A).length<=14:=by rw [dH.len];exact vd _ _
 have hLL:=dH.ab6 (by omega)
 have hc:=Nz CX hs hA1 hA2
 have hT:ke (fO cs) A (aN (fO cs) A).length (an (aN (fO cs) A)):=by
  obtain ⟨A',e,hT⟩:=Ep CX hc
  have:A'=A:=by omega
  subst this
  exact hT
 have eS:cw n (fO cs) (A:Int) (aN (fO cs) A).length (an (aN (fO cs) A)) (F:Int) o=0:=by
  unfold cw
  rw [if_pos hc,if_neg hF,ho];rfl
 obtain ⟨eh,eH⟩:=Qk CX hs ho
 have e0:((0:Int) != 0)=false:=rfl
 have z0:((0:Int)==0)=true:=rfl
 obtain ⟨f1,f2⟩:=Qj (o:=o)
 have hn8:(n<=100000000)=True:=eq_true (by omega)
 have eLE:oO n (fO cs) o=if (fS 0 0 0 (cj o (fO cs))).1=(fS 0 0 0 (cj o (fO cs))).2 then 7 else 0:=by
  unfold oO
  rw [if_pos hs,if_pos ho]
 have eLV:gX n (fO cs) o=fS 0 0 0 (cj o (fO cs)):=by
  unfold gX
  rw [if_pos ⟨hs,ho⟩]
 have ep:ag (aX (cM (Go.Value.float Go.FloatKind.f32 0)).cells 1) 0 [AV.aL .f32 o]=[AV.aL .f32 o]:=rfl
 have en:∀ a b:Int,cF .i64 [a,b]=[AV.int .i64 a,AV.int .i64 b]:=fun a b=>rfl
 have eg:∀ a b:Int,asInt .i64 ([AV.int .i64 a,AV.int .i64 b].getD 0 .top)=some a/\asInt .i64 ([AV.int .i64 a,AV.int .i64 b].getD 1 .top)=some b:=fun a b=>⟨rfl,rfl⟩
 have hle:(cj o (fO cs)).countP id<=n:=by
  have:=List.countP_le_length (p:=id) (l:=cj o (fO cs))
  rwa [mH,CX] at this
 have ew:IntKind.i64.wrap (((n-(cj o (fO cs)).countP id:Nat):Int)+((cj o (fO cs)).countP id:Nat))=(n:Int):=by rw [wrap64]<;>omega
 have g0:((0:Int)<=0/\(0:Int)<((0+1+1:Nat):Int)/\0<0+1+1)=True:=by decide
 have g1:((0:Int)<=1/\(1:Int)<((0+1+1:Nat):Int)/\0<0+1+1)=True:=by decide
 have e2:(((0+1+1:Nat):Int) != 2)=false:=rfl
 have enn:((n:Int) != (n:Int))=false:=bne_self_eq_false _
 simp only [ae,aj,h,hn,hs,hb,hF,ho,e0,z0,hn8,f1,f2,hLL,eb,eB,eS,eh,eH,eLE,eLV,ep,if_true,if_false,and_self,ak,bH,ct,Bool.not_true,Bool.not_false,List.length_cons,List.length_nil,en,eg,g0,g1,e2,ew,enn]
 obtain ⟨N1,E1,hN1,Yc,pN⟩:∃ N1 E1:Int,qF 0 (aF (fun j=>dP ((fO cs).getD j none) o) (n-(F:Int).toNat) (F:Int).toNat)=N1/\qe 0 (aF (fun j=>dP ((fO cs).getD j none) o) (n-(F:Int).toNat) (F:Int).toNat)=E1/\
   ((E1=7/\∀ j,F<=j->j<n->dP ((fO cs).getD j none) o=false)\/(E1=0/\∃ q:Nat,N1=q/\F<=q/\q<n/\dP ((fO cs).getD q none) o=true/\∀ j,F<=j->j<q->dP ((fO cs).getD j none) o=false)):=by
  refine ⟨_,_,rfl,rfl,?_⟩
  rw [Int.toNat_natCast]
  rcases oX (fun j=>dP ((fO cs).getD j none) o) (n-F) F with ⟨e,hq⟩ | ⟨q,e,q1,q2,q3,q4⟩
  ·rw [e];exact .inl ⟨rfl,fun j a b=>hq j a (by omega)⟩
  ·rw [e]
   have:¬ ((q:Int)<0):=by omega
   exact .inr ⟨by simp [qe,this],q,by simp [qF,this],q1,by omega,q3,q4⟩
 obtain ⟨K1,E2,hK1,hE2,pK⟩:∃ K1 E2:Int,qF 0 (aF (bA (fO cs) o) (n-(F:Int).toNat) (F:Int).toNat)=K1/\qe 0 (aF (bA (fO cs) o) (n-(F:Int).toNat) (F:Int).toNat)=E2/\
   ((E2=7/\∀ j,F<=j->j<n->bA (fO cs) o j=false)\/(E2=0/\∃ q:Nat,K1=q/\F<=q/\q<n/\bA (fO cs) o q=true/\∀ j,F<=j->j<q->bA (fO cs) o j=false)):=by
  refine ⟨_,_,rfl,rfl,?_⟩
  rw [Int.toNat_natCast]
  rcases oX (bA (fO cs) o) (n-F) F with ⟨e,hq⟩ | ⟨q,e,q1,q2,q3,q4⟩
  ·rw [e];exact .inl ⟨rfl,fun j a b=>hq j a (by omega)⟩
  ·rw [e]
   have:¬ ((q:Int)<0):=by omega
   exact .inr ⟨by simp [qe,this],q,by simp [qF,this],q1,by omega,q3,q4⟩
 obtain ⟨M,E4,hM,hE4,pM⟩:∃ M E4:Int,qF (eI n (fO cs) (A:Int) (aN (fO cs) A).length (an (aN (fO cs) A))) (gj n (fO cs) (A:Int) (an (aN (fO cs) A)))=M/\
   qe (eI n (fO cs) (A:Int) (aN (fO cs) A).length (an (aN (fO cs) A))) (gj n (fO cs) (A:Int) (an (aN (fO cs) A)))=E4/\
   ((n=0/\E4=12)\/(0<n/\E4=0/\∃ p:Nat,M=p/\p<n/\(∀ j,j<n->bF (fO cs) j<=bF (fO cs) p)/\∀ j,j<p->bF (fO cs) j<bF (fO cs) p)):=by
  refine ⟨_,_,rfl,rfl,?_⟩
  rcases Nat.eq_zero_or_pos n with h0 | h0
  ·have:eI n (fO cs) (A:Int) (aN (fO cs) A).length (an (aN (fO cs) A))=12:=by
    unfold eI
    rw [if_pos hc,h0];rfl
   rw [this]
   exact .inl ⟨h0,rfl⟩
  ·have:eI n (fO cs) (A:Int) (aN (fO cs) A).length (an (aN (fO cs) A))=0:=by
    unfold eI
    rw [if_pos hc,if_neg (by rw [beq_iff_eq];omega)]
   rw [this,NA hT CX h0]
   obtain ⟨p1,p2,p3⟩:=nk hf CX n 0 0 (by omega) h0 (by omega) (fun j hj=>by omega) (fun j hj=>by omega)
   have:¬ ((kl (fO cs) n 0 0:Int)<0):=by omega
   exact .inr ⟨h0,by simp [qe,this],_,by simp [qF,this],p1,p2,p3⟩
 have eE4:(!((E4==0)==decide ((n:Int)>0)))=false:=by
  rcases pM with ⟨h0,e⟩ | ⟨h0,e,_⟩
  ·rw [h0,e];rfl
  ·rw [e,decide_eq_true (by omega)];rfl
 obtain ⟨l0,F6⟩:∃ l0,(fS 0 0 0 (cj o (fO cs))).1=l0:=⟨_,rfl⟩
 obtain ⟨l1,VT⟩:∃ l1,(fS 0 0 0 (cj o (fO cs))).2=l1:=⟨_,rfl⟩
 obtain ⟨C,hC⟩:∃ C,(cj o (fO cs)).countP id=C:=⟨_,rfl⟩
 have aca:tH 0 0 0 (cj o (fO cs))=(l1-l0,C):=by
  have e1:=tI (cj o (fO cs)) 0 0 0 0 0 (Nat.le_refl _) (Nat.le_refl _)
  have e2:=zU (cj o (fO cs)) 0 0 0
  rw [tE,F6,VT] at e1
  rw [hC,Nat.zero_add] at e2
  exact Prod.ext e1 e2
 have ain:l0<=l1/\l1<=n:=by
  have:=tJ (cj o (fO cs)) 0 0 0 0 n (Nat.le_refl _) (Nat.le_refl _) (Nat.zero_le _) (by rw [mH,CX];omega)
  rw [tE,F6,VT] at this
  exact this
 have acb:∀ j,l0<=j->j<l1->aU o<=bF (fO cs) j:=by
  intro j a b
  have:=qh (fun j=>decide (aU o<=bF (fO cs) j)) (cj o (fO cs)) 0 0 0 0 (fun j a b=>by omega) (fun j a b=>by omega) (fun t x hx=>by
   rw [Nat.zero_add]
   unfold cj at hx
   rw [List.getElem?_map] at hx
   unfold bF
   rw [List.getD_eq_getElem?_getD]
   cases e:(fO cs)[t]? with
   | none=>rw [e] at hx;cases hx
   | some y=>rw [e] at hx;simpa using hx) j (by rw [tE,F6];exact a) (by rw [tE,VT];exact b)
  simpa using this
 simp only [hN1,Yc,hK1,hE2,hM,hE4,eE4,bH,F6,VT,hC]
 clear hN1 Yc hK1 hE2 hM hE4 eE4 F6 VT eLE eLV eh eH eS eB eb ew
 have xW:cs.length=n:=h.2.2
 refine au (fun k (r:Nat->List AV->Int->Int->Int->Int->Int->Int->Int->Nat->List AV->Int->Int->Int->Nat->List AV->Int->Int->Nat->List AV->Int->Int->Int->Int->Option Nat->Nat->List AV->Int->Nat->List AV->Int->Int->Nat->List AV->Option (List aa))=>∀ (i run lg hi:Nat),i+k=n->run<=i->lg<=i->hi<=i->tH run lg hi ((cj o (fO cs)).drop i)=(l1-l0,C)->
  r n cs N1 E1 K1 E2 (if l0=l1 then 7 else 0) M E4 (0+1+1) [AV.int IntKind.i64 ((n-C:Nat):Int),AV.int IntKind.i64 (C:Int)] (run:Int) (lg:Int) (hi:Int) n cs (n:Int) (i:Int) n cs (A:Int) (F:Int) t c o 0 [] (A:Int) (aN (fO cs) A).length
    (an (aN (fO cs) A)) (l0:Int) (l1:Int) 1 [AV.aL FloatKind.f32 o]=some [aa.v (AV.bool true)]) ?_ N n (by omega) 0 0 0 0 (by omega) (by omega) (by omega) (by omega) aca
 intro k r ih i run lg hi Nv hr hl hh hinv
 by_cases Jx:i<n
 ·obtain ⟨_,rfl,p,rfl,hp,p1,p2⟩:0<n/\E4=0/\∃ p:Nat,M=p/\p<n/\(∀ j,j<n->bF (fO cs) j<=bF (fO cs) p)/\∀ j,j<p->bF (fO cs) j<bF (fO cs) p:=by
   rcases pM with ⟨h0,_⟩ | h
   ·omega
   ·exact h
  have H6:=hf _ (h.mem Jx)
  have hfp:=hf _ (h.mem hp)
  have ly:0<cs.length:=by omega
  have wi:IntKind.i64.wrap ((i:Int)+1)=((i+1:Nat):Int):=by rw [wrap64]<;>omega
  have wr:IntKind.i64.wrap ((run:Int)+1)=((run+1:Nat):Int):=by rw [wrap64]<;>omega
  have wh:IntKind.i64.wrap ((hi:Int)+1)=((hi+1:Nat):Int):=by rw [wrap64]<;>omega
  have egt:(aM .f32 ((fO cs).getD i none) ((fO cs).getD p none)==some .gt)=false:=by
   rw [bgt H6 hfp];exact decide_eq_false (by have:=p1 i Jx;unfold bF at this;omega)
  have eeq:i<p->(aM .f32 ((fO cs).getD i none) ((fO cs).getD p none)==some .eq)=false:=fun hip=>by
   rw [M1 H6 hfp];exact decide_eq_false (by have:=p2 i hip;unfold bF at this;omega)
  have pn:¬ ((p:Int)<0):=by omega
  have pn2:¬ ((n:Int)<=(p:Int)):=by omega
  have d:=zK (o:=o) (xs:=fO cs) (i:=i) (by omega)
  rw [d] at hinv
  have next:∀ run' lg' fR:Nat,run'<=i+1->lg'<=i+1->fR<=i+1->tH run' lg' fR ((cj o (fO cs)).drop (i+1))=(l1-l0,C)->_:=fun run' lg' fR a b c e=>ih (k-1) (by omega) (i+1) run' lg' fR (by omega) a b c e
  have m22:∀ X:Bool->Option (List aa),bO (if i<p then some (aM .f32 ((fO cs).getD i none) ((fO cs).getD p none)==some .eq) else some false) X=X false:=fun X=>by
   by_cases hip:i<p
   ·rw [if_pos hip,eeq hip];rfl
   ·rw [if_neg hip];rfl
  by_cases hk:aU ((fO cs).getD i none)<aU o
  ·have elt:(aM .f32 ((fO cs).getD i none) o==some .lt)=true:=by rw [blt H6 ho];exact decide_eq_true hk
   have ege:(aM .f32 ((fO cs).getD i none) o==some .gt||aM .f32 ((fO cs).getD i none) o==some .eq)=false:=by
    have:=nm H6 ho
    unfold dP at this
    rw [this];exact decide_eq_false (by omega)
   rw [tH,if_neg (by rw [decide_eq_true_eq];omega)] at hinv
   have OL:∀ X:Bool->Option (List aa),bO (if (F:Int)<=(i:Int) then some false else some false) X=X false:=fun X=>by split<;>rfl
   have emx:(if (0:Int)>(lg:Int) then (0:Int) else (lg:Int))=((max lg 0:Nat):Int):=by
    rw [if_neg (by omega),Nat.max_eq_left (Nat.zero_le _)]
   have Yd:=next 0 (max lg 0) hi (by omega) (by omega) (by omega) hinv
   simp only [Int.ofNat_lt,Jx,hp,if_true,if_false,Int.natCast_nonneg,true_and,ly,Int.toNat_natCast,Nat.mul_one,h.get Jx,h.get hp,ak,elt,ege,egt,ct,bH,beq_self_eq_true,pn,pn2,ge_iff_le,wi,m22,OL,emx]
   split
   ·split<;>exact Yd
   ·exact Yd
  ·have elt:(aM .f32 ((fO cs).getD i none) o==some .lt)=false:=by rw [blt H6 ho];exact decide_eq_false hk
   have IE:dP ((fO cs).getD i none) o=true:=by rw [nm H6 ho];exact decide_eq_true (by omega)
   have ege:(aM .f32 ((fO cs).getD i none) o==some .gt||aM .f32 ((fO cs).getD i none) o==some .eq)=true:=IE
   rw [tH,if_pos (by rw [decide_eq_true_eq];omega)] at hinv
   have emx:(if lg<run+1 then ((run+1:Nat):Int) else (lg:Int))=((max lg (run+1):Nat):Int):=by
    split<;>omega
   have Yd:=next (run+1) (max lg (run+1)) (hi+1) (by omega) (by omega) (by omega) hinv
   by_cases hFi:F<=i
   case neg=>
    have UJ:¬ ((F:Int)<=(i:Int)):=by omega
    simp only [Int.ofNat_lt,Jx,hp,if_true,if_false,Int.natCast_nonneg,true_and,ly,Int.toNat_natCast,Nat.mul_one,h.get Jx,h.get hp,ak,elt,ege,egt,ct,bH,beq_self_eq_true,pn,pn2,ge_iff_le,wi,wr,wh,m22,emx,UJ]
    exact Yd
   have UJ:(F:Int)<=(i:Int):=by omega
   obtain ⟨rfl,q,rfl,q1,q2,q3,q4⟩:E1=0/\∃ q:Nat,N1=q/\F<=q/\q<n/\dP ((fO cs).getD q none) o=true/\∀ j,F<=j->j<q->dP ((fO cs).getD j none) o=false:=by
    rcases pN with ⟨_,WZ⟩ | h
    ·rw [WZ i hFi Jx] at IE;cases IE
    ·exact h
   have hqi:¬ (q>i):=fun V1=>by rw [q4 i hFi V1] at IE;cases IE
   have e0':((0:Int) != 0)=false:=rfl
   have eqi:decide (i<q)=false:=decide_eq_false (by omega)
   by_cases hi0:i=0
   ·subst hi0
    have hz:¬ (((0:Nat):Int)>0):=by omega
    simp only [Int.ofNat_lt,Jx,hp,if_true,if_false,Int.natCast_nonneg,true_and,ly,Int.toNat_natCast,Nat.mul_one,h.get Jx,h.get hp,ak,elt,ege,egt,ct,bH,beq_self_eq_true,pn,pn2,ge_iff_le,wi,wr,wh,m22,emx,UJ,e0',eqi,hz]
    exact Yd
   have hz:(i:Int)>0:=by omega
   have him:i-1<n:=by omega
   have wm:IntKind.i64.wrap ((i:Int)-1)=((i-1:Nat):Int):=by rw [wrap64]<;>omega
   simp only [Int.ofNat_lt,Jx,hp,him,if_true,if_false,Int.natCast_nonneg,true_and,ly,Int.toNat_natCast,Nat.mul_one,h.get Jx,h.get hp,h.get him,ak,elt,ege,egt,ct,bH,beq_self_eq_true,pn,pn2,ge_iff_le,wi,wr,wh,wm,m22,emx,UJ,e0',eqi,hz]
   cases ae6:(aM .f32 ((fO cs).getD (i-1) none) o==some .lt) with
   | false=>simp only [bH];exact Yd
   | true=>
    have xE:bA (fO cs) o i=true:=by
     obtain ⟨i',rfl⟩:∃ i',i=i' + 1:=⟨i-1,by omega⟩
     exact mJ (by simpa using ae6) IE
    obtain ⟨rfl,u,rfl,u1,u2,u3,u4⟩:E2=0/\∃ q:Nat,K1=q/\F<=q/\q<n/\bA (fO cs) o q=true/\∀ j,F<=j->j<q->bA (fO cs) o j=false:=by
     rcases pK with ⟨_,WZ⟩ | h
     ·rw [WZ i hFi Jx] at xE;cases xE
     ·exact h
    have hui:¬ (u>i):=fun V1=>by rw [u4 i hFi V1] at xE;cases xE
    have eui:¬ ((u:Int)>(i:Int)):=by omega
    simp only [ct,bH,e0',eui,if_false]
    exact Yd
 ·have hie:i=n:=by omega
  subst hie
  have hdn:(cj o (fO cs)).drop i=[]:=by rw [List.drop_eq_nil_iff,mH,CX];exact Nat.le_refl _
  rw [hdn,tH,Prod.mk.injEq] at hinv
  obtain ⟨rfl,rfl⟩:=hinv
  have hii:¬ ((i:Int)<(i:Int)):=by omega
  have ecc:((hi:Int) != (hi:Int))=false:=bne_self_eq_false _
  have eo:asInt .i64 ([AV.int .i64 ((i-hi:Nat):Int),AV.int .i64 (hi:Int)].getD 1 .top)=some (hi:Int):=rfl
  have g1:((0:Int)<=1/\(1:Int)<((0+1+1:Nat):Int)/\0<([AV.int .i64 ((i-hi:Nat):Int),AV.int .i64 (hi:Int)]).length)=True:=eq_true ⟨by decide,by decide,by simp⟩
  simp only [hii,if_false,g1,if_true,eo,ak,ecc,bH]
  have s7:((7:Int)==0)=false:=rfl
  have z00:((0:Int)==0)=true:=rfl
  have z7:((0:Int) != 0)=false:=rfl
  have c0:((0:Int)<=0/\(0:Int)<2)=True:=by decide
  have c1:((0:Int)<=1/\(1:Int)<2)=True:=by decide
  have Ql:∀ q:Nat,F<=q->q<i->dP ((fO cs).getD q none) o=true->¬ ((q:Int)<(F:Int))/\¬ ((q:Int)>=(i:Int))/\(((0:Int)<=(q:Int)/\(q:Int)<(i:Int)/\0<cs.length)=True)/\aq .f32 (cs.getD ((q:Int).toNat*1) .top)=some ((fO cs).getD q none)/\
    (aM .f32 ((fO cs).getD q none) o==some .lt)=false:=by
   intro q a b g
   have hfq:=hf _ (h.mem b)
   rw [nm hfq ho] at g
   have g:=of_decide_eq_true g
   refine ⟨by omega,by omega,eq_true ⟨by omega,by omega,by omega⟩,by rw [Int.toNat_natCast,Nat.mul_one];exact h.get b,?_⟩
   rw [blt hfq ho];exact decide_eq_false (by omega)
  have tail:∀ (L:Option (List aa)),(l0≠l1->L=some [aa.v (AV.bool true)])->
    cO (((l1-l0:Nat):Int)==0) (bO (cO ((if l0=l1 then (7:Int) else 0)==7) (some true) (some false)) fun v21=>some [aa.v (AV.bool v21)])
     (bO (cO ((if l0=l1 then (7:Int) else 0) != 0) (some true) (some (decide ((l0:Int)<0)))) fun SI=>bO (cO SI (some true) (some (decide ((l1:Int)>(i:Int))))) fun H_=>
      bO (cO H_ (some true) (some (IntKind.i64.wrap ((l1:Int)-(l0:Int)) != ((l1-l0:Nat):Int)))) fun v24=>cO v24 (some [aa.v (AV.bool false)]) L)=some [aa.v (AV.bool true)]:=by
   intro L hL
   by_cases V6:l0=l1
   ·subst V6
    rw [Nat.sub_self,if_pos rfl]
    rfl
   ·have e1:(((l1-l0:Nat):Int)==0)=false:=beq_eq_false_iff_ne.2 (by omega)
    have e2:decide ((l0:Int)<0)=false:=decide_eq_false (by omega)
    have e3:decide ((l1:Int)>(i:Int))=false:=decide_eq_false (by omega)
    have e4:(IntKind.i64.wrap ((l1:Int)-(l0:Int)) != ((l1-l0:Nat):Int))=false:=by
     rw [show IntKind.i64.wrap ((l1:Int)-(l0:Int))=((l1-l0:Nat):Int) by rw [wrap64]<;>omega]
     exact bne_self_eq_false _
    simp only [e1,V6,if_false,bH,z7,e2,ak,e3,e4]
    exact hL V6
  have fin:∀ {r:Nat->List AV->Int->Nat->List AV->Int->Int->Int->Int->Option Nat->Nat->List AV->Int->Nat->List AV->Int->Int->Nat->List AV->Option (List aa)} {j k:Nat},l0<=j->j+k=l1->
    (j<l1->r i cs ((j+1:Nat):Int) i cs (A:Int) (F:Int) t c o 0 [] (A:Int) (aN (fO cs) A).length (an (aN (fO cs) A)) (l0:Int) (l1:Int) 1 [AV.aL FloatKind.f32 o]=some [aa.v (AV.bool true)])->
    (if (j:Int)<(l1:Int) then
      if 0<=(j:Int)/\(j:Int)<(i:Int)/\0<cs.length then
       bO (aq FloatKind.f32 (cs.getD ((j:Int).toNat*1) AV.top)) fun v28=>
        cO (aM FloatKind.f32 v28 o==some Ordering.lt) (some [aa.v (AV.bool false)])
         (r i cs (IntKind.i64.wrap ((j:Int)+1)) i cs (A:Int) (F:Int) t c o 0 [] (A:Int) (aN (fO cs) A).length (an (aN (fO cs) A)) (l0:Int) (l1:Int) 1 [AV.aL FloatKind.f32 o])
      else none
     else some [aa.v (AV.bool true)])=some [aa.v (AV.bool true)]:=by
   intro r j k hj Ub hr
   by_cases Vy:j<l1
   ·have hji:j<i:=by omega
    have hfj:=hf _ (h.mem hji)
    have wj:IntKind.i64.wrap ((j:Int)+1)=((j+1:Nat):Int):=by rw [wrap64]<;>omega
    have ae8:(aM .f32 ((fO cs).getD j none) o==some .lt)=false:=by
     rw [blt hfj ho];exact decide_eq_false (by have:=acb j hj Vy;unfold bF at this;omega)
    rw [if_pos (by omega),if_pos ⟨by omega,by omega,by omega⟩,Int.toNat_natCast,Nat.mul_one,h.get hji,ak,ae8,bH,wj]
    exact hr Vy
   ·rw [if_neg (by omega)]
  have ach:∀ u:Nat,F<=u->u<i->bA (fO cs) o u=true->¬ ((u:Int)<if (F:Int)>1 then (F:Int) else 1)/\dP ((fO cs).getD u none) o=true/\
    (((0:Int)<=IntKind.i64.wrap ((u:Int)-1)/\IntKind.i64.wrap ((u:Int)-1)<(i:Int)/\0<cs.length)=True)/\aq .f32 (cs.getD ((IntKind.i64.wrap ((u:Int)-1)).toNat*1) .top)=some ((fO cs).getD (u-1) none)/\
    (aM .f32 ((fO cs).getD (u-1) none) o==some .gt||aM .f32 ((fO cs).getD (u-1) none) o==some .eq)=false:=by
   intro u a b g
   unfold bA at g
   simp only [Bool.and_eq_true,decide_eq_true_eq] at g
   obtain ⟨g1,g2,g3⟩:=g
   have hum:u-1<i:=by omega
   have hfu:=hf _ (h.mem hum)
   have wu:IntKind.i64.wrap ((u:Int)-1)=((u-1:Nat):Int):=by rw [wrap64]<;>omega
   rw [blt hfu ho] at g2
   have g2:=of_decide_eq_true g2
   refine ⟨by split<;>omega,g3,eq_true ⟨by rw [wu];omega,by rw [wu];omega,by omega⟩,by rw [wu,Int.toNat_natCast,Nat.mul_one];exact h.get hum,?_⟩
   have:=nm hfu ho
   unfold dP at this
   rw [this];exact decide_eq_false (by omega)
  rcases pN with ⟨rfl,_⟩ | ⟨rfl,q,rfl,q1,q2,q3,_⟩
  ·rcases pK with ⟨rfl,_⟩ | ⟨rfl,u,rfl,u1,u2,u3,_⟩
   ·simp only [s7,bH,c0,c1,if_true]
    apply tail
    intro V6
    refine au (fun k (r:Nat->List AV->Int->Nat->List AV->Int->Int->Int->Int->Option Nat->Nat->List AV->Int->Nat->List AV->Int->Int->Nat->List AV->Option (List aa))=>∀ (j:Nat),l0<=j->j+k=l1->
     r i cs (j:Int) i cs (A:Int) (F:Int) t c o 0 [] (A:Int) (aN (fO cs) A).length (an (aN (fO cs) A)) (l0:Int) (l1:Int) 1 [AV.aL FloatKind.f32 o]=some [aa.v (AV.bool true)]) ?_ N (l1-l0) (by omega) l0 (Nat.le_refl _) (by omega)
    intro k r ih j hj Ub
    exact fin (r:=r) hj Ub (fun h1=>ih (k-1) (by omega) (j+1) (by omega) (by omega))
   ·obtain ⟨b1,b2,b3,b4,b5⟩:=ach u u1 u2 u3
    obtain ⟨_,b6,b7,b8,b9⟩:=Ql u u1 u2 b2
    simp only [s7,z00,ct,bH,b1,b3,b4,b5,b6,b7,b8,b9,c0,c1,if_true,if_false,ak]
    apply tail
    intro V6
    refine au (fun k (r:Nat->List AV->Int->Nat->List AV->Int->Int->Int->Int->Option Nat->Nat->List AV->Int->Nat->List AV->Int->Int->Nat->List AV->Option (List aa))=>∀ (j:Nat),l0<=j->j+k=l1->
     r i cs (j:Int) i cs (A:Int) (F:Int) t c o 0 [] (A:Int) (aN (fO cs) A).length (an (aN (fO cs) A)) (l0:Int) (l1:Int) 1 [AV.aL FloatKind.f32 o]=some [aa.v (AV.bool true)]) ?_ N (l1-l0) (by omega) l0 (Nat.le_refl _) (by omega)
    intro k r ih j hj Ub
    exact fin (r:=r) hj Ub (fun h1=>ih (k-1) (by omega) (j+1) (by omega) (by omega))
  ·obtain ⟨a1,a2,a3,a4,a5⟩:=Ql q q1 q2 q3
   rcases pK with ⟨rfl,_⟩ | ⟨rfl,u,rfl,u1,u2,u3,_⟩
   ·simp only [s7,z00,ct,bH,a1,a2,a3,a4,a5,c0,c1,if_true,if_false,ak]
    apply tail
    intro V6
    refine au (fun k (r:Nat->List AV->Int->Nat->List AV->Int->Int->Int->Int->Option Nat->Nat->List AV->Int->Nat->List AV->Int->Int->Nat->List AV->Option (List aa))=>∀ (j:Nat),l0<=j->j+k=l1->
     r i cs (j:Int) i cs (A:Int) (F:Int) t c o 0 [] (A:Int) (aN (fO cs) A).length (an (aN (fO cs) A)) (l0:Int) (l1:Int) 1 [AV.aL FloatKind.f32 o]=some [aa.v (AV.bool true)]) ?_ N (l1-l0) (by omega) l0 (Nat.le_refl _) (by omega)
    intro k r ih j hj Ub
    exact fin (r:=r) hj Ub (fun h1=>ih (k-1) (by omega) (j+1) (by omega) (by omega))
   ·obtain ⟨b1,b2,b3,b4,b5⟩:=ach u u1 u2 u3
    obtain ⟨_,b6,b7,b8,b9⟩:=Ql u u1 u2 b2
    simp only [s7,z00,ct,bH,a1,a2,a3,a4,a5,b1,b3,b4,b5,b6,b7,b8,b9,c0,c1,if_true,if_false,ak]
    apply tail
    intro V6
    refine au (fun k (r:Nat->List AV->Int->Nat->List AV->Int->Int->Int->Int->Option Nat->Nat->List AV->Int->Nat->List AV->Int->Int->Nat->List AV->Option (List aa))=>∀ (j:Nat),l0<=j->j+k=l1->
     r i cs (j:Int) i cs (A:Int) (F:Int) t c o 0 [] (A:Int) (aN (fO cs) A).length (an (aN (fO cs) A)) (l0:Int) (l1:Int) 1 [AV.aL FloatKind.f32 o]=some [aa.v (AV.bool true)]) ?_ N (l1-l0) (by omega) l0 (Nat.le_refl _) (by omega)
    intro k r ih j hj Ub
    exact fin (r:=r) hj Ub (fun h1=>ih (k-1) (by omega) (j+1) (by omega) (by omega))
end Go.Abs
end
