/- Part 38 of the library that the proof of the statement uses: an abstract run of the program, proved right, and what its functions give. -/
import Derived.Test.YtkloadomnblkeaaGreatDoorSr34
import Derived.Test.YtkloadomnblkeaaGreatDoorSr36
import Derived.Test.YtkloadomnblkeaaGreatDoorSr37
set_option linter.unusedVariables false
set_option linter.unusedSimpArgs false

set_option maxRecDepth 100000
noncomputable section
namespace Go.Abs
open Go.Proofs Classical Go.Abs.Fin
def peakR (xs:List (Option Nat)):Nat->Nat->Nat->Nat
 | 0,b,_=>b
 | k+1,b,i=>if (ordO .f32 (xs.getD i none) (xs.getD b none)==some .gt)=true then peakR xs k i (i+1) else peakR xs k b (i+1)
theorem run_48' {n:Nat} {cs:List AV} (h:Flos n cs):(fsM mzO waysQ (n+1) 12).call (List RLeaf) 48 [.ofB (.list n cs)] [] (resK [false])=
  some [.v (.int .i64 (peakR (fO cs) n 0 0:Nat))]:=by
 rw [run_48]
 have hn:=h.1
 have hcl:=h.2.2
 simp only [shut_eq]
 refine loopC_rule (fun k (r:Nat->List AV->Int->Int->Option (List RLeaf))=>∀ (b i:Nat),i+k=n->(b<n\/n=0)->
  r n cs (b:Int) (i:Int)=some [.v (.int .i64 (peakR (fO cs) k b i:Nat))]) ?_ (n+1) n (by omega) 0 0 (by omega) (by omega)
 intro k r ih b i hi hb
 by_cases hk:i<n
 ·obtain ⟨k,rfl⟩:∃ k',k=k' + 1:=⟨k-1,by omega⟩
  have hbn:b<n:=by omega
  have hc0:0<cs.length:=by omega
  have wi:IntKind.i64.wrap ((i:Int)+1)=((i+1:Nat):Int):=by rw [wrap64]<;>omega
  simp only [condO_dec,guardO_dec,Int.ofNat_lt,hk,hbn,hc0,Int.natCast_nonneg,and_self,if_true,Int.toNat_natCast,Nat.mul_one,h.get hk,h.get hbn,bindO_ok,wi]
  rw [peakR]
  cases e:(ordO .f32 ((fO cs).getD i none) ((fO cs).getD b none)==some .gt) with
  | true=>rw [if_pos rfl];exact condO_t' rfl (ih k (by omega) i (i+1) (by omega) (by omega))
  | false=>rw [if_neg (by decide)];exact condO_f' rfl (ih k (by omega) b (i+1) (by omega) (by omega))
 ·have:k=0:=by omega
  subst this
  simp only [condO_dec,Int.ofNat_lt,hk,if_false]
  rfl
theorem run_51' {n:Nat} {cs:List AV} {f:Int} {o:Option Nat} (h:Flos n cs) (h0:0<=f):(fsM mzO waysQ (n+1) 12).call (List RLeaf) 51 [.ofB (.list n cs),.ofB (.int .i64 f),.ofB (.flo .f32 o)] [] (resK [false])=
  some [.v (.int .i64 (firstH (fun j=>geS ((fO cs).getD j none) o) (n-f.toNat) f.toNat))]:=by
 rw [run_51]
 have hn:=h.1
 have hcl:=h.2.2
 obtain ⟨F,rfl⟩:=Int.eq_ofNat_of_zero_le h0
 rw [Int.toNat_natCast]
 simp only [shut_eq]
 refine loopC_rule (fun k (r:Nat->List AV->Option Nat->Int->Option (List RLeaf))=>∀ (i:Nat),n<=i+k->
  r n cs o (i:Int)=some [.v (.int .i64 (firstH (fun j=>geS ((fO cs).getD j none) o) (n-i) i))]) ?_ (n+1) n (by omega) F (by omega)
 intro k r ih i hi
 by_cases hk:i<n
 ·have hc0:0<cs.length:=by omega
  have wi:IntKind.i64.wrap ((i:Int)+1)=((i+1:Nat):Int):=by rw [wrap64]<;>omega
  simp only [condO_dec,guardO_dec,Int.ofNat_lt,hk,hc0,Int.natCast_nonneg,and_self,if_true,Int.toNat_natCast,Nat.mul_one,h.get hk,bindO_ok,wi]
  cases e:geS ((fO cs).getD i none) o with
  | true=>rw [firstH_hit hk (p:=fun j=>geS ((fO cs).getD j none) o) e];exact condO_t' e rfl
  | false=>
   rw [firstH_to (p:=fun j=>geS ((fO cs).getD j none) o) (En:=i+1) (by omega) (by omega) (fun j a b=>by (have q:j=i:=by omega);subst q;exact e)]
   exact condO_f' e (ih (k-1) (by omega) (i+1) (by omega))
 ·simp only [condO_dec,Int.ofNat_lt,hk,if_false]
  rw [firstH_end (by omega)]
theorem run_52' {n:Nat} {cs:List AV} {f:Int} {o:Option Nat} (h:Flos n cs) (h0:0<=f):(fsM mzO waysQ (n+1) 12).call (List RLeaf) 52 [.ofB (.list n cs),.ofB (.int .i64 f),.ofB (.flo .f32 o)] [] (resK [false])=
  some [.v (.int .i64 (firstH (riseS (fO cs) o) (n-f.toNat) f.toNat))]:=by
 rw [run_52]
 have hn:=h.1
 have hcl:=h.2.2
 obtain ⟨F,rfl⟩:=Int.eq_ofNat_of_zero_le h0
 rw [Int.toNat_natCast]
 have e0:firstH (riseS (fO cs) o) (n-F) F=firstH (riseS (fO cs) o) (n-max 1 F) (max 1 F):=by
  by_cases hF:F=0
  ·subst hF
   by_cases hn0:n=0
   ·subst hn0;rfl
   ·exact firstH_to (En:=max 1 0) (by omega) (by omega) (fun j a b=>by (have q:j=0:=by omega);subst q;rfl)
  ·rw [show max 1 F=F by omega]
 have e1:(if (1:Int)>(F:Int) then (1:Int) else (F:Int))=((max 1 F:Nat):Int):=by split<;>omega
 simp only [shut_eq,e1,e0]
 clear e0 e1
 refine loopC_rule (fun k (r:Nat->List AV->Option Nat->Int->Option (List RLeaf))=>∀ (i:Nat),n<=i+k->1<=i->
  r n cs o (i:Int)=some [.v (.int .i64 (firstH (riseS (fO cs) o) (n-i) i))]) ?_ (n+1) n (by omega) (max 1 F) (by omega) (by omega)
 intro k r ih i hi h1
 by_cases hk:i<n
 ·obtain ⟨j,rfl⟩:∃ j,i=j+1:=⟨i-1,by omega⟩
  have hc0:0<cs.length:=by omega
  have hj:j<n:=by omega
  have wi:IntKind.i64.wrap (((j+1:Nat):Int)+1)=((j+1+1:Nat):Int):=by rw [wrap64]<;>omega
  have wm:IntKind.i64.wrap (((j+1:Nat):Int)-1)=(j:Int):=by rw [wrap64]<;>omega
  have hstep:riseS (fO cs) o (j+1)=false->r n cs o ((j+1+1:Nat):Int)=some [.v (.int .i64 (firstH (riseS (fO cs) o) (n-(j+1)) (j+1)))]:=fun hp=>by
   rw [firstH_to (En:=j+1+1) (by omega) (by omega) (fun i a b=>by (have q:i=j+1:=by omega);subst q;exact hp)]
   exact ih (k-1) (by omega) (j+1+1) (by omega) (by omega)
  simp only [condO_dec,guardO_dec,Int.ofNat_lt,hk,hj,hc0,Int.natCast_nonneg,and_self,if_true,Int.toNat_natCast,Nat.mul_one,wm,h.get hk,h.get hj,bindO_ok,wi,joinC_pos (Nat.succ_pos n)]
  cases e1:(ordO .f32 ((fO cs).getD j none) o==some .lt) with
  | false=>simp only [cO,bindO_ok];exact hstep (riseS_no (.inl e1))
  | true=>
   simp only [cO,bindO_ok]
   cases e2:geS ((fO cs).getD (j+1) none) o with
   | true=>
    rw [firstH_hit hk (riseS_at e1 e2)]
    unfold geS at e2
    rw [e2]
   | false=>
    have e3:=e2
    unfold geS at e3
    rw [e3]
    exact hstep (riseS_no (.inr e2))
 ·simp only [condO_dec,Int.ofNat_lt,hk,if_false]
  rw [firstH_end (by omega)]
end Go.Abs
end
set_option maxRecDepth 100000
noncomputable section
namespace Go.Abs
open Go.Proofs Classical Go.Abs.Fin
theorem run_46' {n m N:Nat} {cs ls:List AV} {b f:Int} {o:Option Nat} (h:Flos n cs) (h':Lvs m ls) (hN:n+m+5020<N):
    (fsM mzO waysR N 12).call (List RLeaf) 46 [.ofB (.list n cs),.s (.agg [.b (.int .i64 b),.b (.list m ls)]),.ofB (.int .i64 f),.ofB (.flo .f32 o)] [] (resK [false,false])=
    some [.v (.int .i64 (skV (seekE n (fO cs) b m ls f o) (firstH (riseS (fO cs) o) (n-f.toNat) f.toNat))),.v (.int .i64 (skE (seekE n (fO cs) b m ls f o) (firstH (riseS (fO cs) o) (n-f.toNat) f.toNat)))]:=by
  rw [run_46]
  have hl:=h'.2.1
  have hm:=h'.1
  have hxl:=h.len
  have hcl:=h.2.2
  have hN0:0<N:=by omega
  simp only [shut_eq,guardO_dec,h,h',put3n,ints3n,firstNZ_3,and_self,if_true,condO_bne]
  change ite (seekE n (fO cs) b m ls f o=0) _ _=_
  by_cases h0:seekE n (fO cs) b m ls f o=0
  case neg=>
    unfold skV skE
    rw [if_neg h0,if_neg h0,if_neg h0]
    rfl
  rw [if_pos h0,h0]
  obtain ⟨A,F,rfl,rfl,hFn,ho,hT⟩:=seek_zero hxl h0
  have hA1:=hT.one
  have hA2:=hT.most
  have hfew:=hT.few
  clear h0
  rw [Int.toNat_natCast]
  change _=seekA (firstH (riseS (fO cs) o) (n-F) F)
  refine loopC_rule (fun k (r:Nat->List AV->Int->Int->Nat->List AV->Int->Nat->List AV->Option Nat->Int->Nat->List AV->Nat->List AV->Int->Nat->List AV->Nat->List AV->Int->List (AV × AV × Nat)->Nat->Nat->List AV->Nat->List AV->Int->Option (List RLeaf))=>∀ (i:Nat) (E:List PE) (pc:List AV),i+k=m->InvE (lenL ls) (pvL ls) E i 0->
    r m ls (m:Int) (i:Int) (n) (cs) (A:Int) (m) (ls) (o) (A:Int) (m) (ls) (3) pc (A:Int) (m) (ls) (0) ([]) ((0:Int)) (encE 0 E) E.length (0) ([]) (n) (cs) (A:Int)=seekA (firstH (riseS (fO cs) o) (n-F) F)) ?_ N m (by omega) 0 [] _ (by omega) InvE.nil
  intro k r ih i E pc hi hE
  by_cases hk:i<m
  · obtain ⟨q,ds,e1,e2,e3⟩:=h'.get hk
    have eL:=lvAt_of e1
    have p0:0<ls.length:=by omega
    have wi:IntKind.i64.wrap ((i:Int)+1)=((i+1:Nat):Int):=by rw [wrap64]<;>omega
    have hle:=e2.len
    have hdl:=e2.2.2
    have hq:lenL ls i=q:=by unfold lenL;rw [eL];omega
    have hfl:=(hT.lev i hk).finM
    rw [eL] at hfl
    simp only [condO_dec,guardO_dec,Int.ofNat_lt,hk,p0,if_true,Int.natCast_nonneg,true_and,and_true,Int.toNat_natCast,Nat.mul_one,e1,asList_list,bindO_ok]
    refine loopC_rule (fun k2 (r2:Int->Nat->List AV->Int->Int->Nat->List AV->Int->Int->Nat->List AV->Int->Nat->List AV->Option Nat->Int->Nat->List AV->Nat->List AV->Int->Nat->List AV->Nat->List AV->Int->List (AV × AV × Nat)->Nat->Nat->List AV->Nat->List AV->Int->Option (List RLeaf))=>∀ (j:Nat) (E:List PE),j+k2=q->InvE (lenL ls) (pvL ls) E i j->
      r2 (i:Int) m ls (m:Int) (i:Int) q ds (q:Int) (j:Int) (n) (cs) (A:Int) (m) (ls) (o) (A:Int) (m) (ls) (3) pc (A:Int) (m) (ls) (0) ([]) ((0:Int)) (encE 0 E) E.length (0) ([]) (n) (cs) (A:Int)=seekA (firstH (riseS (fO cs) o) (n-F) F)) ?_ N q (by omega) 0 E (by omega) hE
    intro k2 r2 ih2 j E hj hE
    by_cases hk2:j<q
    · have ge1:=e2.get (i:=2*j) (by omega)
      have ge2:=e2.get (i:=2*j+1) (by omega)
      have wj:IntKind.i64.wrap ((j:Int)+1)=((j+1:Nat):Int):=by rw [wrap64]<;>omega
      have q0:0<ds.length:=by omega
      have q1:(2*j+2<=ds.length)=True:=eq_true (by omega)
      have hcm:j*2=2*j:=by omega
      have f1:=finB_clean (hfl.get (i:=2*j) (by omega))
      have f2:=finB_clean (hfl.get (i:=2*j+1) (by omega))
      have hput:=put_node hE eL
      simp only [condO_dec,guardO_dec,Int.ofNat_lt,hk2,q0,q1,if_true,Int.natCast_nonneg,true_and,and_true,Int.toNat_natCast,hcm,ge1,ge2,bindO_ok,f1,f2,and_self,hput,wj]
      exact ih2 (k2-1) (by omega) (j+1) _ (by omega) hE.step
    · have:j=lenL ls i:=by omega
      subst this
      simp only [condO_dec,Int.ofNat_lt,hk2,if_false,wi]
      exact ih (k-1) (by omega) (i+1) E _ (by omega) hE.next
  have hik:i=m:=by omega
  simp only [condO_dec,Int.ofNat_lt,hk,if_false]
  rw [hik] at hE
  clear ih hi hk hik
  refine loopC_rule (fun k (r:Int->Nat->List AV->Int->Nat->List AV->Option Nat->Int->Nat->List AV->Nat->List AV->Int->Nat->List AV->Nat->List AV->Nat->List AV->Int->List (AV × AV × Nat)->Nat->Nat->List AV->Nat->List AV->Int->Nat->List AV->Int->Int->Int->Int->Int->Int->Option (List RLeaf))=>∀ (at_:Nat),F<=at_->at_<=n->n<at_+k->
    r (at_:Int) ((n)) ((cs)) ((A:Int)) ((m)) ((ls)) ((o)) ((A:Int)) ((m)) ((ls)) ((3)) (pc) ((A:Int)) ((m)) ((ls)) ((0)) (([])) ((n)) ((cs)) ((A:Int)) ((encE 0 E)) (E.length) ((0)) (([])) ((n)) ((cs)) ((A:Int)) ((n)) ((cs)) ((A:Int)) ((-1:Int)) ((A:Int)) ((↑(n):Int)) (F:Int) ((↑(n):Int))=seekA (firstH (riseS (fO cs) o) (n-at_) at_)) ?_ N 4098 (by omega) F (by omega) (by omega) (by omega)
  intro k r ih at_ ha1 ha2 hk
  obtain ⟨k,rfl⟩:∃ k',k=k' + 1:=⟨k-1,by omega⟩
  try simp only [condO_dec]
  by_cases hlt:at_<n
  case neg=>
    have hnl:¬ ((at_:Int)<(n:Int)):=by omega
    rw [if_neg hnl,firstH_end (by omega)]
    rfl
  have hyl:(at_:Int)<(n:Int):=by omega
  rw [if_pos hyl]
  have hb:=best_start (a:=(A:Int)) (n:=(n:Int)) (to:=(n:Int)) (at_:=(at_:Int)) (by omega) (by omega) (by omega) (by omega) _ rfl
  have hnode:=start_node (A:=A) (n:=n) (at_:=at_) (to:=(n:Int))
  generalize hr:bestC (n:Int) (n:Int) (at_:Int) 14 0 (A:Int) (-1,(at_:Int),(at_:Int)+1)=res at hb hnode
  obtain ⟨_,hb1,hb2,_⟩:=hb
  have han:at_<n:=by omega
  have hc0:0<cs.length:=by omega
  have beg:∀ (L I X:Int),(L,I,X)=res->L>=0->IntKind.i64.wrap (IntKind.i64.wrap (I*(A:Int))*(2:Int) ^ min L.toNat 64)=(at_:Int):=by
    intro L I X e hL
    subst e
    exact node_begin (by omega) (by omega) han (by omega) hnode hL
  rw [←hxl] at hnode
  have fin:∀ (L I E':Int),(L,I,E')=res->∃ En:Nat,E'=(En:Int)/\at_<En/\En<=n/\(geS (valN (fO cs) ls L I).2 o=false->∀ j,at_<=j->j<En->(riseS (fO cs) o) j=false):=by
    intro L I E' e
    subst e
    obtain ⟨v1,v2,v3⟩:=val_std hT (by omega) hnode
    dsimp only at v1 v2 v3
    obtain ⟨En,rfl⟩:=Int.eq_ofNat_of_zero_le (show 0<=E' by omega)
    rw [Int.toNat_natCast] at v1
    exact ⟨En,rfl,by omega,by omega,no_rise hT.fin v1 ho (by omega)⟩
  have look:∀ (L I X:Int),(L,I,X)=res->finB (valN (fO cs) ls L I).1=true/\finB (valN (fO cs) ls L I).2=true/\((L<0/\I=(at_:Int)/\X=((at_+1:Nat):Int)/\valN (fO cs) ls L I=(clean1 ((fO cs).getD at_ none),clean1 ((fO cs).getD at_ none)))\/
      (¬ L<0/\mlook Tryz.prog 130 62 (.agg [.int .i64 L,.int .i64 I]) (encE 0 E)=some (true,.agg [.flo .f32 (valN (fO cs) ls L I).1,.flo .f32 (valN (fO cs) ls L I).2]))):=by
    intro L I X e
    subst e
    exact node_look hT hE hnode (by omega)
  have wat:IntKind.i64.wrap ((at_:Int)+1)=(at_:Int)+1:=wrap64 (by omega) (by omega)
  rw [wat]
  refine loopC_rule (fun mm (r2:Int->Int->Int->Int->Nat->List AV->Int->Nat->List AV->Option Nat->Int->Nat->List AV->Nat->List AV->Int->Nat->List AV->Nat->List AV->Nat->List AV->Int->List (AV × AV × Nat)->Nat->Nat->List AV->Nat->List AV->Int->Nat->List AV->Int->Int->Int->Int->Int->Int->Int->Int->Option (List RLeaf))=>∀ (l s c1 c2 c3:Int),0<=l->l+mm<=13->1<=s->s<=8192->(n:Int)<s*2 ^ mm->bestC (n:Int) (n:Int) (at_:Int) (mm+1) l s (c1,c2,c3)=res->
    r2 (at_:Int) c3 l s (((n))) (((cs))) (((A:Int))) (((m))) (((ls))) (((o))) (((A:Int))) (((m))) (((ls))) (((3))) ((pc)) (((A:Int))) (((m))) (((ls))) (((0))) ((([]))) (((n))) (((cs))) (((A:Int))) (((encE 0 E))) ((E.length)) (((0))) ((([]))) (((n))) (((cs))) (((A:Int))) (((n))) (((cs))) (((A:Int))) (((-1:Int))) (((A:Int))) (((↑(n):Int))) ((F:Int)) (((↑(n):Int))) c1 c2=seekA (firstH (riseS (fO cs) o) (n-at_) at_)) ?_ N 13 (by omega) 0 (A:Int) (-1) (at_:Int) ((at_:Int)+1) (by omega) (by omega) (by omega) (by omega) (by omega) hr
  intro mm r2 ih2 l s c1 c2 c3 hl0 hlm hs1 hs2 hsn hbe
  have w1:IntKind.i64.wrap ((at_:Int)+s)=(at_:Int)+s:=wrap64 (by omega) (by omega)
  have w2:IntKind.i64.wrap (l+1)=l+1:=wrap64 (by omega) (by omega)
  have w3:IntKind.i64.wrap (2*s)=2*s:=wrap64 (by omega) (by omega)
  have w4:(at_:Int).tmod s=(at_:Int)%s:=Int.tmod_eq_emod_of_nonneg (by omega)
  have w5:(at_:Int).tdiv s=(at_:Int) / s:=Int.tdiv_eq_ediv_of_nonneg (by omega)
  have w6:IntKind.i64.wrap ((at_:Int) / s)=(at_:Int) / s:=by
    have:=Int.ediv_le_self s (show (0:Int)<=(at_:Int) by omega)
    have:=Int.ediv_nonneg (show (0:Int)<=(at_:Int) by omega) (show 0<=s by omega)
    rw [wrap64 (by omega) (by omega)]
  have nz:(s≠0)=True:=eq_true (by omega)
  simp only [condO_dec,guardO_dec,nz,if_true,w1,w2,w3,w4,w5,w6,ite_min,condO_sf,bindO_ok]
  rw [bestC] at hbe
  by_cases hok:(at_:Int)%s=0/\min (n:Int) ((at_:Int)+s)<=(n:Int)
  · have e1:(((at_:Int)%s==0)&&decide (min (n:Int) ((at_:Int)+s)<=(n:Int)))=true:=by rw [hok.1,decide_eq_true hok.2];rfl
    rw [e1,condO_tx]
    rw [if_pos hok] at hbe
    by_cases hn:(n:Int)<=s
    · rw [if_pos hn] at hbe
      rw [if_pos (show s>=(n:Int) from hn)]
      obtain ⟨En,hEn,s1,s2,s3⟩:=fin _ _ _ hbe
      rw [hEn]
      have ih1:=ih k (by omega) En (by omega) (by omega) (by omega)
      have sz:En<9223372036854775808:=by omega
      have hbg:=beg _ _ _ hbe
      obtain ⟨g1,g2,⟨g3,g4,g6,g5⟩ | ⟨g3,g5⟩⟩:=look _ _ _ hbe
      · have hgF:=h.get (i:=at_) (by omega)
        have fz:=finB_clean (hT.fin.get (i:=at_) (by omega))
        have g7:¬ (l>=0):=by omega
        simp only [condO_dec,g3,g4,g7,if_true,if_false,guardO_dec,Int.natCast_nonneg,Int.ofNat_lt,han,hc0,and_self,Int.toNat_natCast,Nat.mul_one,hgF,bindO_ok,joinC_pos hN0,fz]
        by_cases hv:geS (valN (fO cs) ls l ((at_:Int) / s)).2 o=true
        · have hv':=hv
          rw [g5] at hv'
          refine condO_f' (congrArg not hv') ?_
          refine loopC_rule (fun k3 (r3:Int->Int->Nat->List AV->Int->Nat->List AV->Option Nat->Int->Nat->List AV->Nat->List AV->Int->Nat->List AV->Nat->List AV->Nat->List AV->Int->List (AV × AV × Nat)->Nat->Nat->List AV->Nat->List AV->Int->Nat->List AV->Int->Int->Int->Int->Int->Int->Int->Int->Int->Int->Option (List RLeaf))=>∀ (j:Nat) (y1 y2 y3 y4:Int),j+k3=En->
            r3 (En:Int) (j:Int) (((n))) (((cs))) (((A:Int))) (((m))) (((ls))) (((o))) (((A:Int))) (((m))) (((ls))) (((3))) ((pc)) (((A:Int))) (((m))) (((ls))) (((0))) ((([]))) (((n))) (((cs))) (((A:Int))) (((encE 0 E))) ((E.length)) (((0))) ((([]))) (((n))) (((cs))) (((A:Int))) (((n))) (((cs))) (((A:Int))) (((-1:Int))) (((A:Int))) (((↑(n):Int))) ((F:Int)) (((↑(n):Int))) y1 y2 y3 y4=seekA (firstH (riseS (fO cs) o) (n-j) j)) ?_ N (En-at_) (by omega) at_ _ _ _ _ (by omega)
          intro k3 r3 ih3 j y1 y2 y3 y4 hj
          by_cases hk3:j<En
          · have hjn:j<n:=by omega
            have wj:IntKind.i64.wrap ((j:Int)+1)=((j+1:Nat):Int):=by rw [wrap64]<;>omega
            have hgj:=h.get (i:=j) (by omega)
            have hstep:(riseS (fO cs) o) j=false->r3 (En:Int) ((j+1:Nat):Int) (((n))) (((cs))) (((A:Int))) (((m))) (((ls))) (((o))) (((A:Int))) (((m))) (((ls))) (((3))) ((pc)) (((A:Int))) (((m))) (((ls))) (((0))) ((([]))) (((n))) (((cs))) (((A:Int))) (((encE 0 E))) ((E.length)) (((0))) ((([]))) (((n))) (((cs))) (((A:Int))) (((n))) (((cs))) (((A:Int))) (((-1:Int))) (((A:Int))) (((↑(n):Int))) ((F:Int)) (((↑(n):Int))) y1 y2 y3 y4=seekA (firstH (riseS (fO cs) o) (n-j) j):=fun hp=>by
              rw [firstH_to (En:=j+1) (by omega) (by omega) (fun i a b=>by (have q:i=j:=by omega);subst q;exact hp)]
              exact ih3 (k3-1) (by omega) (j+1) _ _ _ _ (by omega)
            by_cases hj0:0<j
            · obtain ⟨j',rfl⟩:∃ j',j=j' + 1:=⟨j-1,by omega⟩
              have hgj':=h.get (i:=j') (by omega)
              have hjn':j' < n:=by omega
              have wm:IntKind.i64.wrap (((j' + 1:Nat):Int)-1)=(j':Int):=by rw [wrap64]<;>omega
              have hg0:(((j' + 1:Nat):Int)>0)=True:=eq_true (by omega)
              simp only [condO_dec,guardO_dec,Int.natCast_nonneg,Int.ofNat_lt,hk3,hjn,hjn',hc0,hg0,wm,and_self,if_true,Int.toNat_natCast,Nat.mul_one,hgj,hgj',bindO_ok,wj]
              cases e1:(ordO .f32 ((fO cs).getD j' none) o==some .lt) with
              | false=>exact hstep (riseS_no (.inl e1))
              | true=>
                cases e2:geS ((fO cs).getD (j' + 1) none) o with
                | true=>
                  rw [firstH_hit hjn (riseS_at e1 e2)]
                  exact condO_t' rfl (condO_t' e2 rfl)
                | false=>exact condO_t' rfl (condO_f' e2 (hstep (riseS_no (.inr e2))))
            · have hg0:((j:Int)>0)=False:=eq_false (by omega)
              simp only [condO_dec,Int.ofNat_lt,hk3,hg0,if_true,if_false,wj]
              exact hstep (by (have q:j=0:=by omega);subst q;rfl)
          · have:j=En:=by omega
            subst this
            simp only [condO_dec,Int.ofNat_lt,hk3,if_false]
            exact ih1
        · have hv':geS (valN (fO cs) ls l ((at_:Int) / s)).2 o=false:=by simpa using hv
          have hs:=firstH_to (p:=(riseS (fO cs) o)) (Nat.le_of_lt s1) s2 (s3 hv')
          rw [g5] at hv'
          rw [hs]
          exact condO_t' (congrArg not hv') ih1
      · have g7:l>=0:=by omega
        have g8:=hbg g7
        simp only [condO_dec,g3,if_false,g5,bindO_ok,asAgg_agg,List.length_cons,List.length_nil,guardO_dec,if_true,List.getD_cons_zero,List.tail_cons,asF_flo,joinC_pos hN0,g7,g8,and_self]
        by_cases hv:geS (valN (fO cs) ls l ((at_:Int) / s)).2 o=true
        · refine condO_f' (congrArg not hv) ?_
          refine loopC_rule (fun k3 (r3:Int->Int->Nat->List AV->Int->Nat->List AV->Option Nat->Int->Nat->List AV->Nat->List AV->Int->Nat->List AV->Nat->List AV->Nat->List AV->Int->List (AV × AV × Nat)->Nat->Nat->List AV->Nat->List AV->Int->Nat->List AV->Int->Int->Int->Int->Int->Int->Int->Int->Int->Int->Option (List RLeaf))=>∀ (j:Nat) (y1 y2 y3 y4:Int),j+k3=En->
            r3 (En:Int) (j:Int) (((n))) (((cs))) (((A:Int))) (((m))) (((ls))) (((o))) (((A:Int))) (((m))) (((ls))) (((3))) ((pc)) (((A:Int))) (((m))) (((ls))) (((0))) ((([]))) (((n))) (((cs))) (((A:Int))) (((encE 0 E))) ((E.length)) (((0))) ((([]))) (((n))) (((cs))) (((A:Int))) (((n))) (((cs))) (((A:Int))) (((-1:Int))) (((A:Int))) (((↑(n):Int))) ((F:Int)) (((↑(n):Int))) y1 y2 y3 y4=seekA (firstH (riseS (fO cs) o) (n-j) j)) ?_ N (En-at_) (by omega) at_ _ _ _ _ (by omega)
          intro k3 r3 ih3 j y1 y2 y3 y4 hj
          by_cases hk3:j<En
          · have hjn:j<n:=by omega
            have wj:IntKind.i64.wrap ((j:Int)+1)=((j+1:Nat):Int):=by rw [wrap64]<;>omega
            have hgj:=h.get (i:=j) (by omega)
            have hstep:(riseS (fO cs) o) j=false->r3 (En:Int) ((j+1:Nat):Int) (((n))) (((cs))) (((A:Int))) (((m))) (((ls))) (((o))) (((A:Int))) (((m))) (((ls))) (((3))) ((pc)) (((A:Int))) (((m))) (((ls))) (((0))) ((([]))) (((n))) (((cs))) (((A:Int))) (((encE 0 E))) ((E.length)) (((0))) ((([]))) (((n))) (((cs))) (((A:Int))) (((n))) (((cs))) (((A:Int))) (((-1:Int))) (((A:Int))) (((↑(n):Int))) ((F:Int)) (((↑(n):Int))) y1 y2 y3 y4=seekA (firstH (riseS (fO cs) o) (n-j) j):=fun hp=>by
              rw [firstH_to (En:=j+1) (by omega) (by omega) (fun i a b=>by (have q:i=j:=by omega);subst q;exact hp)]
              exact ih3 (k3-1) (by omega) (j+1) _ _ _ _ (by omega)
            by_cases hj0:0<j
            · obtain ⟨j',rfl⟩:∃ j',j=j' + 1:=⟨j-1,by omega⟩
              have hgj':=h.get (i:=j') (by omega)
              have hjn':j' < n:=by omega
              have wm:IntKind.i64.wrap (((j' + 1:Nat):Int)-1)=(j':Int):=by rw [wrap64]<;>omega
              have hg0:(((j' + 1:Nat):Int)>0)=True:=eq_true (by omega)
              simp only [condO_dec,guardO_dec,Int.natCast_nonneg,Int.ofNat_lt,hk3,hjn,hjn',hc0,hg0,wm,and_self,if_true,Int.toNat_natCast,Nat.mul_one,hgj,hgj',bindO_ok,wj]
              cases e1:(ordO .f32 ((fO cs).getD j' none) o==some .lt) with
              | false=>exact hstep (riseS_no (.inl e1))
              | true=>
                cases e2:geS ((fO cs).getD (j' + 1) none) o with
                | true=>
                  rw [firstH_hit hjn (riseS_at e1 e2)]
                  exact condO_t' rfl (condO_t' e2 rfl)
                | false=>exact condO_t' rfl (condO_f' e2 (hstep (riseS_no (.inr e2))))
            · have hg0:((j:Int)>0)=False:=eq_false (by omega)
              simp only [condO_dec,Int.ofNat_lt,hk3,hg0,if_true,if_false,wj]
              exact hstep (by (have q:j=0:=by omega);subst q;rfl)
          · have:j=En:=by omega
            subst this
            simp only [condO_dec,Int.ofNat_lt,hk3,if_false]
            exact ih1
        · have hv':geS (valN (fO cs) ls l ((at_:Int) / s)).2 o=false:=by simpa using hv
          rw [firstH_to (p:=(riseS (fO cs) o)) (Nat.le_of_lt s1) s2 (s3 hv')]
          exact condO_t' (congrArg not hv') ih1
    · rw [if_neg hn] at hbe
      rw [if_neg (show ¬ s>=(n:Int) from hn)]
      obtain ⟨mm,rfl⟩:∃ m',mm=m' + 1:=by
        cases mm with
        | zero=>omega
        | succ mm=>exact ⟨mm,rfl⟩
      refine ih2 mm (by omega) (l+1) (2*s) l ((at_:Int) / s) (min (n:Int) ((at_:Int)+s)) (by omega) (by omega) (by omega) (by omega) ?_ hbe
      rw [Int.pow_succ] at hsn;rw [Int.mul_comm 2 s,Int.mul_assoc,Int.mul_comm 2];exact hsn
  · have e1:(((at_:Int)%s==0)&&decide (min (n:Int) ((at_:Int)+s)<=(n:Int)))=false:=by
      rw [Bool.and_eq_false_iff]
      by_cases hz:(at_:Int)%s=0
      · exact .inr (decide_eq_false fun h=>hok ⟨hz,h⟩)
      · exact .inl (beq_eq_false_iff_ne.2 hz)
    rw [e1,condO_fx]
    rw [if_neg hok] at hbe
    obtain ⟨En,hEn,s1,s2,s3⟩:=fin _ _ _ hbe
    rw [hEn]
    have ih1:=ih k (by omega) En (by omega) (by omega) (by omega)
    have sz:En<9223372036854775808:=by omega
    have hbg:=beg _ _ _ hbe
    obtain ⟨g1,g2,⟨g3,g4,g6,g5⟩ | ⟨g3,g5⟩⟩:=look _ _ _ hbe
    · have hgF:=h.get (i:=at_) (by omega)
      have fz:=finB_clean (hT.fin.get (i:=at_) (by omega))
      have g7:¬ (c1>=0):=by omega
      simp only [condO_dec,g3,g4,g7,if_true,if_false,guardO_dec,Int.natCast_nonneg,Int.ofNat_lt,han,hc0,and_self,Int.toNat_natCast,Nat.mul_one,hgF,bindO_ok,joinC_pos hN0,fz]
      by_cases hv:geS (valN (fO cs) ls c1 c2).2 o=true
      · have hv':=hv
        rw [g5] at hv'
        refine condO_f' (congrArg not hv') ?_
        refine loopC_rule (fun k3 (r3:Int->Int->Nat->List AV->Int->Nat->List AV->Option Nat->Int->Nat->List AV->Nat->List AV->Int->Nat->List AV->Nat->List AV->Nat->List AV->Int->List (AV × AV × Nat)->Nat->Nat->List AV->Nat->List AV->Int->Nat->List AV->Int->Int->Int->Int->Int->Int->Int->Int->Int->Int->Option (List RLeaf))=>∀ (j:Nat) (y1 y2 y3 y4:Int),j+k3=En->
          r3 (En:Int) (j:Int) (((n))) (((cs))) (((A:Int))) (((m))) (((ls))) (((o))) (((A:Int))) (((m))) (((ls))) (((3))) ((pc)) (((A:Int))) (((m))) (((ls))) (((0))) ((([]))) (((n))) (((cs))) (((A:Int))) (((encE 0 E))) ((E.length)) (((0))) ((([]))) (((n))) (((cs))) (((A:Int))) (((n))) (((cs))) (((A:Int))) (((-1:Int))) (((A:Int))) (((↑(n):Int))) ((F:Int)) (((↑(n):Int))) y1 y2 y3 y4=seekA (firstH (riseS (fO cs) o) (n-j) j)) ?_ N (En-at_) (by omega) at_ _ _ _ _ (by omega)
        intro k3 r3 ih3 j y1 y2 y3 y4 hj
        by_cases hk3:j<En
        · have hjn:j<n:=by omega
          have wj:IntKind.i64.wrap ((j:Int)+1)=((j+1:Nat):Int):=by rw [wrap64]<;>omega
          have hgj:=h.get (i:=j) (by omega)
          have hstep:(riseS (fO cs) o) j=false->r3 (En:Int) ((j+1:Nat):Int) (((n))) (((cs))) (((A:Int))) (((m))) (((ls))) (((o))) (((A:Int))) (((m))) (((ls))) (((3))) ((pc)) (((A:Int))) (((m))) (((ls))) (((0))) ((([]))) (((n))) (((cs))) (((A:Int))) (((encE 0 E))) ((E.length)) (((0))) ((([]))) (((n))) (((cs))) (((A:Int))) (((n))) (((cs))) (((A:Int))) (((-1:Int))) (((A:Int))) (((↑(n):Int))) ((F:Int)) (((↑(n):Int))) y1 y2 y3 y4=seekA (firstH (riseS (fO cs) o) (n-j) j):=fun hp=>by
            rw [firstH_to (En:=j+1) (by omega) (by omega) (fun i a b=>by (have q:i=j:=by omega);subst q;exact hp)]
            exact ih3 (k3-1) (by omega) (j+1) _ _ _ _ (by omega)
          by_cases hj0:0<j
          · obtain ⟨j',rfl⟩:∃ j',j=j' + 1:=⟨j-1,by omega⟩
            have hgj':=h.get (i:=j') (by omega)
            have hjn':j' < n:=by omega
            have wm:IntKind.i64.wrap (((j' + 1:Nat):Int)-1)=(j':Int):=by rw [wrap64]<;>omega
            have hg0:(((j' + 1:Nat):Int)>0)=True:=eq_true (by omega)
            simp only [condO_dec,guardO_dec,Int.natCast_nonneg,Int.ofNat_lt,hk3,hjn,hjn',hc0,hg0,wm,and_self,if_true,Int.toNat_natCast,Nat.mul_one,hgj,hgj',bindO_ok,wj]
            cases e1:(ordO .f32 ((fO cs).getD j' none) o==some .lt) with
            | false=>exact hstep (riseS_no (.inl e1))
            | true=>
              cases e2:geS ((fO cs).getD (j' + 1) none) o with
              | true=>
                rw [firstH_hit hjn (riseS_at e1 e2)]
                exact condO_t' rfl (condO_t' e2 rfl)
              | false=>exact condO_t' rfl (condO_f' e2 (hstep (riseS_no (.inr e2))))
          · have hg0:((j:Int)>0)=False:=eq_false (by omega)
            simp only [condO_dec,Int.ofNat_lt,hk3,hg0,if_true,if_false,wj]
            exact hstep (by (have q:j=0:=by omega);subst q;rfl)
        · have:j=En:=by omega
          subst this
          simp only [condO_dec,Int.ofNat_lt,hk3,if_false]
          exact ih1
      · have hv':geS (valN (fO cs) ls c1 c2).2 o=false:=by simpa using hv
        have hs:=firstH_to (p:=(riseS (fO cs) o)) (Nat.le_of_lt s1) s2 (s3 hv')
        rw [g5] at hv'
        rw [hs]
        exact condO_t' (congrArg not hv') ih1
    · have g7:c1>=0:=by omega
      have g8:=hbg g7
      simp only [condO_dec,g3,if_false,g5,bindO_ok,asAgg_agg,List.length_cons,List.length_nil,guardO_dec,if_true,List.getD_cons_zero,List.tail_cons,asF_flo,joinC_pos hN0,g7,g8,and_self]
      by_cases hv:geS (valN (fO cs) ls c1 c2).2 o=true
      · refine condO_f' (congrArg not hv) ?_
        refine loopC_rule (fun k3 (r3:Int->Int->Nat->List AV->Int->Nat->List AV->Option Nat->Int->Nat->List AV->Nat->List AV->Int->Nat->List AV->Nat->List AV->Nat->List AV->Int->List (AV × AV × Nat)->Nat->Nat->List AV->Nat->List AV->Int->Nat->List AV->Int->Int->Int->Int->Int->Int->Int->Int->Int->Int->Option (List RLeaf))=>∀ (j:Nat) (y1 y2 y3 y4:Int),j+k3=En->
          r3 (En:Int) (j:Int) (((n))) (((cs))) (((A:Int))) (((m))) (((ls))) (((o))) (((A:Int))) (((m))) (((ls))) (((3))) ((pc)) (((A:Int))) (((m))) (((ls))) (((0))) ((([]))) (((n))) (((cs))) (((A:Int))) (((encE 0 E))) ((E.length)) (((0))) ((([]))) (((n))) (((cs))) (((A:Int))) (((n))) (((cs))) (((A:Int))) (((-1:Int))) (((A:Int))) (((↑(n):Int))) ((F:Int)) (((↑(n):Int))) y1 y2 y3 y4=seekA (firstH (riseS (fO cs) o) (n-j) j)) ?_ N (En-at_) (by omega) at_ _ _ _ _ (by omega)
        intro k3 r3 ih3 j y1 y2 y3 y4 hj
        by_cases hk3:j<En
        · have hjn:j<n:=by omega
          have wj:IntKind.i64.wrap ((j:Int)+1)=((j+1:Nat):Int):=by rw [wrap64]<;>omega
          have hgj:=h.get (i:=j) (by omega)
          have hstep:(riseS (fO cs) o) j=false->r3 (En:Int) ((j+1:Nat):Int) (((n))) (((cs))) (((A:Int))) (((m))) (((ls))) (((o))) (((A:Int))) (((m))) (((ls))) (((3))) ((pc)) (((A:Int))) (((m))) (((ls))) (((0))) ((([]))) (((n))) (((cs))) (((A:Int))) (((encE 0 E))) ((E.length)) (((0))) ((([]))) (((n))) (((cs))) (((A:Int))) (((n))) (((cs))) (((A:Int))) (((-1:Int))) (((A:Int))) (((↑(n):Int))) ((F:Int)) (((↑(n):Int))) y1 y2 y3 y4=seekA (firstH (riseS (fO cs) o) (n-j) j):=fun hp=>by
            rw [firstH_to (En:=j+1) (by omega) (by omega) (fun i a b=>by (have q:i=j:=by omega);subst q;exact hp)]
            exact ih3 (k3-1) (by omega) (j+1) _ _ _ _ (by omega)
          by_cases hj0:0<j
          · obtain ⟨j',rfl⟩:∃ j',j=j' + 1:=⟨j-1,by omega⟩
            have hgj':=h.get (i:=j') (by omega)
            have hjn':j' < n:=by omega
            have wm:IntKind.i64.wrap (((j' + 1:Nat):Int)-1)=(j':Int):=by rw [wrap64]<;>omega
            have hg0:(((j' + 1:Nat):Int)>0)=True:=eq_true (by omega)
            simp only [condO_dec,guardO_dec,Int.natCast_nonneg,Int.ofNat_lt,hk3,hjn,hjn',hc0,hg0,wm,and_self,if_true,Int.toNat_natCast,Nat.mul_one,hgj,hgj',bindO_ok,wj]
            cases e1:(ordO .f32 ((fO cs).getD j' none) o==some .lt) with
            | false=>exact hstep (riseS_no (.inl e1))
            | true=>
              cases e2:geS ((fO cs).getD (j' + 1) none) o with
              | true=>
                rw [firstH_hit hjn (riseS_at e1 e2)]
                exact condO_t' rfl (condO_t' e2 rfl)
              | false=>exact condO_t' rfl (condO_f' e2 (hstep (riseS_no (.inr e2))))
          · have hg0:((j:Int)>0)=False:=eq_false (by omega)
            simp only [condO_dec,Int.ofNat_lt,hk3,hg0,if_true,if_false,wj]
            exact hstep (by (have q:j=0:=by omega);subst q;rfl)
        · have:j=En:=by omega
          subst this
          simp only [condO_dec,Int.ofNat_lt,hk3,if_false]
          exact ih1
      · have hv':geS (valN (fO cs) ls c1 c2).2 o=false:=by simpa using hv
        rw [firstH_to (p:=(riseS (fO cs) o)) (Nat.le_of_lt s1) s2 (s3 hv')]
        exact condO_t' (congrArg not hv') ih1
end Go.Abs
end
